/- The rules, the contracts, the plain laws that lead to the statement. Own work. Condition: what each theorem names. -/
import Derived.Test.YtiahgnkffnokfaaGreatDoorTabYW
import Derived.Test.YtiahgnkffnokfaaGreatDoorV0
import Derived.ArgAppend
import Derived.Below
import Derived.ChangeAlike
import Derived.Defers
import Derived.Laws.IdiomCopy
import Derived.Laws.IdiomStrings
import Derived.Laws.LoneSync
import Derived.Laws.MakeOwn
import Derived.Laws.NewBlocks
import Derived.Laws.Pointers
import Derived.Lib.LazyBuf
import Derived.Lib.SliceRun
import Derived.LoopN
import Derived.LoopTactic
import Derived.RangeFuncBox
import Derived.RegionCalls
import Derived.RegionTactic
import Derived.Tactics
import Derived.Tactics2
import Derived.WalkKit
import Derived.WalkSpells
import Derived.Lib.ItoaNum
set_option linter.all false
set_option linter.unusedVariables false
set_option linter.unusedSimpArgs false
set_option linter.unusedSectionVars false
set_option maxRecDepth 100000
open Nat (reduceAdd reduceMul reduceLT reduceLeDiff reduceEqDiff)
namespace Go.Proofs.Quo
open Go Go.RowKit
def bsA (l : List UInt8) : Value := .string ⟨l.toArray⟩
def olds : List (List UInt8) := [[92], [92, 92], [34], [92, 34], [10], [92, 110], [9], [92, 116]]
theorem qOd {e : TypeId} {z : Option Value} {n b : Nat} (h : (Tryz.prog.info? e).map (fun i => (i.zero, i.size, i.bytes)) = some (z, n, b)) : ∃ i, Tryz.prog.info? e = some i ∧ i.zero = z ∧ i.size = n ∧ i.bytes = b := by
  obtain ⟨i, h1, h2⟩ := Option.map_eq_some_iff.1 h
  cases h2
  exact ⟨i, h1, rfl, rfl, rfl⟩
theorem qQI : ∃ i, Tryz.prog.info? 9 = some i ∧ i.zero = some (.string ⟨#[]⟩) ∧ i.size = 1 ∧ i.bytes = 16 := qOd (by kernel_rfl)
theorem qAz {w : World} {a : Addr} {v : Value} (h : w.cell? a = some v) : a.block < w.heap.size := World.block_lt_of_cell? _ _ h
structure St (w : World) (C D : Nat) (dn : List Nat) (n : Nat) (W : World) : Prop where
  bel : Below w.heap.size w W
  nl : ∀ j, j < 256 → j ∉ dn → W.cell? ⟨C, j, none⟩ = some (.slice none 0 0)
  an : ∀ j, j < 256 → (W.cell? ⟨C, j, none⟩).isSome = true
  tor : W.cell? ⟨C, 256, none⟩ = some (.slice (some ⟨D, 0, none⟩) n 4)
  fc : ∀ j, W.frozen? ⟨C, j, none⟩ = false
  dc : ∀ j, j < 4 → (W.cell? ⟨D, j, none⟩).isSome = true
  fd : ∀ j, W.frozen? ⟨D, j, none⟩ = false
  lC : w.heap.size ≤ C ∧ C < W.heap.size
  lD : w.heap.size ≤ D ∧ D < W.heap.size
  ne : C ≠ D
theorem St.alloc {w : World} {C D : Nat} {dn : List Nat} {n : Nat} {W : World} (H : St w C D dn n W) (o : Obj) : St w C D dn n (W.alloc o) where
  bel := H.bel.alloc H.bel.size _
  nl := fun j hj h => (World.cell?_alloc_past _ _ _ H.lC.2).trans (H.nl j hj h)
  an := fun j hj => by rw [World.cell?_alloc_past _ _ _ H.lC.2]; exact H.an j hj
  tor := (World.cell?_alloc_past _ _ _ H.lC.2).trans H.tor
  fc := fun j => (World.frozen?_alloc_past _ _ _ H.lC.2).trans (H.fc j)
  dc := fun j hj => by rw [World.cell?_alloc_past _ _ _ H.lD.2]; exact H.dc j hj
  fd := fun j => (World.frozen?_alloc_past _ _ _ H.lD.2).trans (H.fd j)
  lC := ⟨H.lC.1, by have := H.lC.2; simp; omega⟩
  lD := ⟨H.lD.1, by have := H.lD.2; simp; omega⟩
  ne := H.ne
theorem St.drew {w : World} {C D : Nat} {dn : List Nat} {n : Nat} {W : World} (H : St w C D dn n W) : St w C D dn n W.drew := ⟨H.bel.drew, H.nl, H.an, H.tor, H.fc, H.dc, H.fd, H.lC, H.lD, H.ne⟩
theorem St.setD {w : World} {C D : Nat} {dn : List Nat} {n : Nat} {W : World} (H : St w C D dn n W) (k : Nat) (v : Value) (hk : k < 4) : St w C D dn n (W.setCell ⟨D, k, none⟩ v) where
  bel := H.bel.setCell (p := ⟨D, k, none⟩) H.lD.1 _
  nl := fun j hj h => (World.cell?_setCell_other _ _ _ _ (fun e => H.ne (congrArg Addr.block e).symm)).trans (H.nl j hj h)
  an := fun j hj => by rw [World.cell?_setCell_other _ _ _ _ (fun e => H.ne (congrArg Addr.block e).symm)]; exact H.an j hj
  tor := (World.cell?_setCell_other _ _ _ _ (fun e => H.ne (congrArg Addr.block e).symm)).trans H.tor
  fc := fun j => (World.frozen?_setCell _ _ _ _).trans (H.fc j)
  dc := fun j hj => by
    by_cases h : j = k
    · subst h
      obtain ⟨u, hu⟩ := Option.isSome_iff_exists.1 (H.dc j hj)
      rw [World.cell?_setCell_same _ _ _ hu]; rfl
    · rw [World.cell?_setCell_other _ _ _ _ (fun e => h (congrArg Addr.off e).symm)]; exact H.dc j hj
  fd := fun j => (World.frozen?_setCell _ _ _ _).trans (H.fd j)
  lC := ⟨H.lC.1, by have := H.lC.2; simp; omega⟩
  lD := ⟨H.lD.1, by have := H.lD.2; simp; omega⟩
  ne := H.ne
theorem St.setT {w : World} {C D : Nat} {dn : List Nat} {n : Nat} {W : World} (H : St w C D dn n W) (m : Nat) : St w C D dn m (W.setCell ⟨C, 256, none⟩ (.slice (some ⟨D, 0, none⟩) m 4)) where
  bel := H.bel.setCell (p := ⟨C, 256, none⟩) H.lC.1 _
  nl := fun j hj h => (World.cell?_setCell_other _ _ _ _ (fun e => by have := congrArg Addr.off e; simp at this; omega)).trans (H.nl j hj h)
  an := fun j hj => by rw [World.cell?_setCell_other _ _ _ _ (fun e => by have := congrArg Addr.off e; simp at this; omega)]; exact H.an j hj
  tor := World.cell?_setCell_same _ _ _ H.tor
  fc := fun j => (World.frozen?_setCell _ _ _ _).trans (H.fc j)
  dc := fun j hj => by rw [World.cell?_setCell_other _ _ _ _ (fun e => H.ne (congrArg Addr.block e))]; exact H.dc j hj
  fd := fun j => (World.frozen?_setCell _ _ _ _).trans (H.fd j)
  lC := ⟨H.lC.1, by have := H.lC.2; simp; omega⟩
  lD := ⟨H.lD.1, by have := H.lD.2; simp; omega⟩
  ne := H.ne
theorem St.setO {w : World} {C D : Nat} {dn : List Nat} {n : Nat} {W : World} (H : St w C D dn n W) (o : Nat) (v : Value) (ho : o < 256) : St w C D (o :: dn) n (W.setCell ⟨C, o, none⟩ v) where
  bel := H.bel.setCell (p := ⟨C, o, none⟩) H.lC.1 _
  nl := fun j hj h => (World.cell?_setCell_other _ _ _ _ (fun e => by have := congrArg Addr.off e; simp at this h; omega)).trans (H.nl j hj (fun h2 => h (by simp [h2])))
  an := fun j hj => by
    by_cases h : j = o
    · subst h
      obtain ⟨u, hu⟩ := Option.isSome_iff_exists.1 (H.an j hj)
      rw [World.cell?_setCell_same _ _ _ hu]; rfl
    · rw [World.cell?_setCell_other _ _ _ _ (fun e => h (congrArg Addr.off e).symm)]; exact H.an j hj
  tor := (World.cell?_setCell_other _ _ _ _ (fun e => by have := congrArg Addr.off e; simp at this; omega)).trans H.tor
  fc := fun j => (World.frozen?_setCell _ _ _ _).trans (H.fc j)
  dc := fun j hj => by rw [World.cell?_setCell_other _ _ _ _ (fun e => H.ne (congrArg Addr.block e))]; exact H.dc j hj
  fd := fun j => (World.frozen?_setCell _ _ _ _).trans (H.fd j)
  lC := ⟨H.lC.1, by have := H.lC.2; simp; omega⟩
  lD := ⟨H.lD.1, by have := H.lD.2; simp; omega⟩
  ne := H.ne
theorem zeros194 : Tryz.zeroCells194.toList = List.replicate 257 (.slice none 0 0) := by kernel_rfl
theorem zero_at (j : Nat) (h : j < Tryz.zeroCells194.toList.length) : Tryz.zeroCells194.toList[j] = .slice none 0 0 := by
  obtain ⟨x, hx⟩ : ∃ x, x = Tryz.zeroCells194.toList[j] := ⟨_, rfl⟩
  have hm : x ∈ Tryz.zeroCells194.toList := hx ▸ List.getElem_mem h
  rw [← hx]
  rw [zeros194] at hm
  exact List.eq_of_mem_replicate hm
theorem qB1 (b : Nat) : ∀ (vs : List Value) (o : Nat) (w : World), (w.setCells b o vs).heap.size = w.heap.size
  | [], _, _ => rfl
  | v :: vs, o, w => by rw [World.setCells, qB1 b vs]; simp
theorem qCq {B b : Nat} {a : World} (hb : B ≤ b) : ∀ (vs : List Value) (o : Nat) (w : World), Below B a w → Below B a (w.setCells b o vs)
  | [], _, _, h => h
  | v :: vs, o, w, h => qCq hb vs (o + 1) _ (h.setCell (p := ⟨b, o, none⟩) hb v)
theorem qMi (w : World) : ∃ W2, (storeCells ⟨w.heap.size + 1, 0, none⟩ (Tryz.zeroCells194.toList.set 256 (.slice (some ⟨w.heap.size, 0, none⟩) 0 4))).run Tryz.prog ((w.alloc (.cells #[.string ⟨#[]⟩, .string ⟨#[]⟩, .string ⟨#[]⟩, .string ⟨#[]⟩] 9)).alloc (.cells Tryz.zeroCells194 194)) = .ok () W2 ∧ St w (w.heap.size + 1) w.heap.size [] 0 W2 := by
  generalize hWA : (w.alloc (.cells #[.string ⟨#[]⟩, .string ⟨#[]⟩, .string ⟨#[]⟩, .string ⟨#[]⟩] 9)).alloc (.cells Tryz.zeroCells194 194) = WA
  have hsz : WA.heap.size = w.heap.size + 2 := by rw [← hWA]; simp
  have hh1 : WA.heap[w.heap.size + 1]? = some (.cells Tryz.zeroCells194 194 (0, 0)) := by
    rw [← hWA]
    have := World.alloc_heap_new (w.alloc (.cells #[.string ⟨#[]⟩, .string ⟨#[]⟩, .string ⟨#[]⟩, .string ⟨#[]⟩] 9)) (.cells Tryz.zeroCells194 194)
    simpa using this
  have hh0 : WA.heap[w.heap.size]? = some (.cells #[.string ⟨#[]⟩, .string ⟨#[]⟩, .string ⟨#[]⟩, .string ⟨#[]⟩] 9 (0, 0)) := by
    rw [← hWA]
    have h1 := World.alloc_heap_new w (.cells #[.string ⟨#[]⟩, .string ⟨#[]⟩, .string ⟨#[]⟩, .string ⟨#[]⟩] 9)
    exact ((World.grownBy_alloc (w.alloc (.cells #[.string ⟨#[]⟩, .string ⟨#[]⟩, .string ⟨#[]⟩, .string ⟨#[]⟩] 9)) (.cells Tryz.zeroCells194 194) none).block _ (by simp) (by simp)).trans h1
  have hc : ∀ j, j < 257 → WA.cell? ⟨w.heap.size + 1, j, none⟩ = some (.slice none 0 0) := fun j hj => by
    have hv : Tryz.zeroCells194[j]? = some (.slice none 0 0) := by rw [← Array.getElem?_toList, zeros194, List.getElem?_replicate, if_pos hj]
    unfold World.cell?
    simp only [hh1, hv]
    rfl
  have hf1 : ∀ j, WA.frozen? ⟨w.heap.size + 1, j, none⟩ = false := fun j => by simp [World.frozen?, hh1]
  have hf0 : ∀ j, WA.frozen? ⟨w.heap.size, j, none⟩ = false := fun j => by simp [World.frozen?, hh0]
  have hd : ∀ j, j < 4 → (WA.cell? ⟨w.heap.size, j, none⟩).isSome = true := fun j hj => by
    match j, hj with
    | 0, _ | 1, _ | 2, _ | 3, _ => simp [World.cell?, hh0]
  have hB : Below w.heap.size w WA := by rw [← hWA]; exact ((Below.refl _ w).alloc (Nat.le_refl _) _).alloc (by simp) _
  have hlen : (Tryz.zeroCells194.toList.set 256 (.slice (some ⟨w.heap.size, 0, none⟩) 0 4)).length = 257 := by rw [List.length_set, zeros194, List.length_replicate]
  have hst := run_storeCells_cells (P := Tryz.prog) (w.heap.size + 1) 0 (Tryz.zeroCells194.toList.set 256 (.slice (some ⟨w.heap.size, 0, none⟩) 0 4)) 0 WA (fun j hj => by rw [hlen] at hj; simp only [Nat.zero_add]; rw [hc j hj]; rfl) (fun j _ => hf1 _)
    (fun v hv => by
      rcases List.mem_or_eq_of_mem_set hv with h | rfl
      · rw [zeros194] at h
        rw [List.eq_of_mem_replicate h]; rfl
      · rfl)
  refine ⟨_, hst, ?_⟩
  have hin := World.cell?_setCells_in (w.heap.size + 1) (Tryz.zeroCells194.toList.set 256 (.slice (some ⟨w.heap.size, 0, none⟩) 0 4)) 0 WA (fun j hj => by rw [hlen] at hj; simp only [Nat.zero_add]; rw [hc j hj]; rfl)
  have hn : ∀ j, j < 256 → (WA.setCells (w.heap.size + 1) (0 + 0) (Tryz.zeroCells194.toList.set 256 (.slice (some ⟨w.heap.size, 0, none⟩) 0 4))).cell? ⟨w.heap.size + 1, j, none⟩ = some (.slice none 0 0) := fun j hj => by
    have := hin j (by rw [hlen]; omega)
    rw [Nat.zero_add] at this
    refine this.trans ?_
    rw [List.getElem_set_ne (by omega), zero_at]
  have out : ∀ j, (WA.setCells (w.heap.size + 1) (0 + 0) (Tryz.zeroCells194.toList.set 256 (.slice (some ⟨w.heap.size, 0, none⟩) 0 4))).cell? ⟨w.heap.size, j, none⟩ = WA.cell? ⟨w.heap.size, j, none⟩ := fun j => World.cell?_setCells_out _ _ _ _ _ (fun h => by simp at h)
  exact {
    bel := qCq (by omega) _ _ _ hB
    nl := fun j hj _ => hn j hj
    an := fun j hj => by rw [hn j hj]; rfl
    tor := by
      have := hin 256 (by rw [hlen]; omega)
      rw [Nat.zero_add] at this
      refine this.trans ?_
      rw [List.getElem_set_self]
    fc := fun j => (World.frozen?_setCells _ _ _ _ _).trans (hf1 j)
    dc := fun j hj => by rw [out]; exact hd j hj
    fd := fun j => (World.frozen?_setCells _ _ _ _ _).trans (hf0 j)
    lC := ⟨by omega, by rw [qB1]; omega⟩
    lD := ⟨by omega, by rw [qB1]; omega⟩
    ne := by omega }
set_option maxRecDepth 100000 in
set_option maxHeartbeats 1600000 in
theorem qMe (rb B cap : Nat) (w : World) (h4 : w.cell? ⟨rb, 4, none⟩ = some (.slice (some ⟨B, 0, none⟩) 8 cap))
    (c0 : w.cell? ⟨B, 0, none⟩ = some (.string { data := #[92] })) (c1 : w.cell? ⟨B, 1, none⟩ = some (.string { data := #[92, 92] })) (c2 : w.cell? ⟨B, 2, none⟩ = some (.string { data := #[34] })) (c3 : w.cell? ⟨B, 3, none⟩ = some (.string { data := #[92, 34] }))
    (c4 : w.cell? ⟨B, 4, none⟩ = some (.string { data := #[10] })) (c5 : w.cell? ⟨B, 5, none⟩ = some (.string { data := #[92, 110] })) (c6 : w.cell? ⟨B, 6, none⟩ = some (.string { data := #[9] })) (c7 : w.cell? ⟨B, 7, none⟩ = some (.string { data := #[92, 116] })) :
    Calls Tryz.prog 117 #[.pointer (some ⟨rb, 0, none⟩)] w fun e w' => e = .returned (.iface 195 (.pointer (some ⟨w.heap.size + 1, 0, none⟩))) ∧ St w (w.heap.size + 1) w.heap.size [92, 34, 10, 9] 4 w' := by
  obtain ⟨i9, i91, i92, i93, i94⟩ := qQI
  have hmk : ∀ w : World, (Instr.makeSlice 27 (.int .i64 0) (.int .i64 4)).run Tryz.prog w = .ok (.slice (some ⟨w.heap.size, 0, none⟩) 0 4) (w.alloc (.cells #[.string ⟨#[]⟩, .string ⟨#[]⟩, .string ⟨#[]⟩, .string ⟨#[]⟩] 9)) := fun w => by
    have h := run_makeSlice (P := Tryz.prog) w 27 9 i9 (.string ⟨#[]⟩) Tryz.underlying27 i91 i92 .i64 .i64 0 4 (by decide) (by decide) (by rw [i93]; decide) (by rw [i94]; decide) (by decide)
    rw [i93, show madeCells (Value.string ⟨#[]⟩).cells (Int.toNat 4 * 1) = #[.string ⟨#[]⟩, .string ⟨#[]⟩, .string ⟨#[]⟩, .string ⟨#[]⟩] by kernel_rfl] at h
    exact h
  obtain ⟨W2, hst, H2⟩ := qMi w
  go_enter Tryz.func117, Tryz.ntmps117
  go_wp2
  refine wp_loop_rounds 5 ?_
  repeat (rw [rounds_succ]; go_wp2)
  go_loopw [12] (fun i wr => ∃ k : Nat, k ≤ 4 ∧ i = .int .i64 (6 - 2 * (k : Int)) ∧ St w (w.heap.size + 1) w.heap.size (([9, 10, 34, 92] : List Nat).take k).reverse k wr) (fun i _ => (intOf i + 2).toNat)
  case atStart => exact ⟨0, by omega, rfl, H2⟩
  case round =>
    obtain ⟨k, hk, rfl, H⟩ := hrel
    have lB : B < w.heap.size := qAz c0
    have d0 := (H.bel.cell (p := ⟨B, 0, none⟩) lB).trans c0
    have d1 := (H.bel.cell (p := ⟨B, 1, none⟩) lB).trans c1
    have d2 := (H.bel.cell (p := ⟨B, 2, none⟩) lB).trans c2
    have d3 := (H.bel.cell (p := ⟨B, 3, none⟩) lB).trans c3
    have d4 := (H.bel.cell (p := ⟨B, 4, none⟩) lB).trans c4
    have d5 := (H.bel.cell (p := ⟨B, 5, none⟩) lB).trans c5
    have d6 := (H.bel.cell (p := ⟨B, 6, none⟩) lB).trans c6
    have d7 := (H.bel.cell (p := ⟨B, 7, none⟩) lB).trans c7
    have ht := H.tor
    have hq : ∀ (w : World) (a : Option Addr) (n c n' c' : Nat), (binOp .eql 26 (.slice a n c) (.slice none n' c')).run Tryz.prog w = .ok (.bool a.isNone) w := fun w a n c n' c' => Lib.run_eql_slice_nil w _ _ a n c n' c' Tryz.underlying26
    have e9 : ∀ h, (({ data := #[9] } : ByteArray)[0]'h).toNat = 9 := fun _ => rfl
    have e10 : ∀ h, (({ data := #[10] } : ByteArray)[0]'h).toNat = 10 := fun _ => rfl
    have e34 : ∀ h, (({ data := #[34] } : ByteArray)[0]'h).toNat = 34 := fun _ => rfl
    have e92 : ∀ h, (({ data := #[92] } : ByteArray)[0]'h).toNat = 92 := fun _ => rfl
    have hcv : ∀ (W : World) (b : UInt8), (convert 26 9 (.slice (some ⟨W.heap.size, 0, none⟩) 1 1)).run Tryz.prog (W.alloc (.cells #[.int .u8 (b.toNat : Int)] 5)) = .ok (.string ⟨#[b]⟩) (W.alloc (.cells #[.int .u8 (b.toNat : Int)] 5)) := fun W b => by
      have h := run_convert_bytes_back (P := Tryz.prog) (W.alloc (.cells #[.int .u8 (b.toNat : Int)] 5)) 26 9 5 ⟨W.heap.size, 0, none⟩ 1 [b] Tryz.underlying26 Tryz.underlying5 Tryz.underlying9
      exact h fun j hj => by
        match j, hj with
        | 0, _ => exact (Boxed.new W 5 (.int .u8 (b.toNat : Int))).cell
    have hsb : ∀ (W : World) (s : ByteArray), (convert 9 26 (.string s)).run Tryz.prog W = .ok (.slice (some ⟨W.heap.size, 0, none⟩) s.size (grownCap W s.size 0 5)) (W.drew.alloc (.cells (bytesRow s (grownCap W s.size 0 5)) 5 ((bytesRow s (grownCap W s.size 0 5)).size, (bytesRow s (grownCap W s.size 0 5)).size + 1))) := fun W s => run_bytes_of_string W 9 26 5 s Tryz.underlying9 Tryz.underlying26 Tryz.underlying5
    have hc9 : ∀ W : World, (convert 26 9 (.slice (some ⟨W.heap.size, 0, none⟩) 1 1)).run Tryz.prog (W.alloc (.cells #[.int .u8 9] 5)) = .ok (.string ⟨#[9]⟩) (W.alloc (.cells #[.int .u8 9] 5)) := fun W => hcv W 9
    have hc10 : ∀ W : World, (convert 26 9 (.slice (some ⟨W.heap.size, 0, none⟩) 1 1)).run Tryz.prog (W.alloc (.cells #[.int .u8 10] 5)) = .ok (.string ⟨#[10]⟩) (W.alloc (.cells #[.int .u8 10] 5)) := fun W => hcv W 10
    have hc34 : ∀ W : World, (convert 26 9 (.slice (some ⟨W.heap.size, 0, none⟩) 1 1)).run Tryz.prog (W.alloc (.cells #[.int .u8 34] 5)) = .ok (.string ⟨#[34]⟩) (W.alloc (.cells #[.int .u8 34] 5)) := fun W => hcv W 34
    have hc92 : ∀ W : World, (convert 26 9 (.slice (some ⟨W.heap.size, 0, none⟩) 1 1)).run Tryz.prog (W.alloc (.cells #[.int .u8 92] 5)) = .ok (.string ⟨#[92]⟩) (W.alloc (.cells #[.int .u8 92] 5)) := fun W => hcv W 92
    match k, hk with
    | 0, _ =>
      have hn := H.nl 9 (by decide) (by decide)
      obtain ⟨x, hx⟩ := Option.isSome_iff_exists.1 (H.dc 0 (by decide))
      have hfx := H.fd 0
      have lC := H.lC.2
      have lD := H.lD.2
      have hf1 := H.fc 256
      have hf2 := H.fc 9
      go_wp2
      exact ⟨⟨1, by decide, rfl, ((((((H.setD 0 _ (by decide)).setT 1).setO 9 _ (by decide)).alloc _).alloc _).alloc _).drew⟩, by decide⟩
    | 1, _ =>
      have hn := H.nl 10 (by decide) (by decide)
      obtain ⟨x, hx⟩ := Option.isSome_iff_exists.1 (H.dc 1 (by decide))
      have hfx := H.fd 1
      have lC := H.lC.2
      have lD := H.lD.2
      have hf1 := H.fc 256
      have hf2 := H.fc 10
      go_wp2
      exact ⟨⟨2, by decide, rfl, ((((((H.setD 1 _ (by decide)).setT 2).setO 10 _ (by decide)).alloc _).alloc _).alloc _).drew⟩, by decide⟩
    | 2, _ =>
      have hn := H.nl 34 (by decide) (by decide)
      obtain ⟨x, hx⟩ := Option.isSome_iff_exists.1 (H.dc 2 (by decide))
      have hfx := H.fd 2
      have lC := H.lC.2
      have lD := H.lD.2
      have hf1 := H.fc 256
      have hf2 := H.fc 34
      go_wp2
      exact ⟨⟨3, by decide, rfl, ((((((H.setD 2 _ (by decide)).setT 3).setO 34 _ (by decide)).alloc _).alloc _).alloc _).drew⟩, by decide⟩
    | 3, _ =>
      have hn := H.nl 92 (by decide) (by decide)
      obtain ⟨x, hx⟩ := Option.isSome_iff_exists.1 (H.dc 3 (by decide))
      have hfx := H.fd 3
      have lC := H.lC.2
      have lD := H.lD.2
      have hf1 := H.fc 256
      have hf2 := H.fc 92
      go_wp2
      exact ⟨⟨4, by decide, rfl, ((((((H.setD 3 _ (by decide)).setT 4).setO 92 _ (by decide)).alloc _).alloc _).alloc _).drew⟩, by decide⟩
    | 4, _ =>
      go_wp2
      go_ret
      exact ⟨rfl, H⟩
end Go.Proofs.Quo
namespace Go.Proofs.Quo
open Go Go.RowKit
theorem disable (w : World) : (callFunc 149 #[]).run Tryz.prog w = .ok (.value (.tuple #[])) w := run_call_mark0 Tryz.func149 (by kernel_rfl) (by kernel_rfl) (by kernel_rfl) .disable (by kernel_rfl) w
theorem enable (w : World) : (callFunc 151 #[]).run Tryz.prog w = .ok (.value (.tuple #[])) w := run_call_mark0 Tryz.func151 (by kernel_rfl) (by kernel_rfl) (by kernel_rfl) .enable (by kernel_rfl) w
theorem acquire (a : Addr) (w : World) : (callFunc 152 #[.pointer (some a)]).run Tryz.prog w = .ok (.value (.tuple #[])) w := run_call_marked Tryz.func152 (by kernel_rfl) (by kernel_rfl) (by kernel_rfl) .acquire (by kernel_rfl) a w
theorem releaseMerge (a : Addr) (w : World) : (callFunc 154 #[.pointer (some a)]).run Tryz.prog w = .ok (.value (.tuple #[])) w := run_call_marked Tryz.func154 (by kernel_rfl) (by kernel_rfl) (by kernel_rfl) .releaseMerge (by kernel_rfl) a w
theorem qE8 (a : Addr) (x : Value) (u : FrameMode) (w : World) (hc : w.cell? a = some x) (hz : w.frozen? a = false) :
    CallsD Tryz.prog 134 #[.pointer (some a), .bool true] u w fun e u' w' => u' = u ∧ (e = .returned (.tuple #[]) ∧ w' = w.drew.setCell a (.int .u32 1)) := by
  have hc' : w.drew.cell? a = some x := by go_simp
  have hz' : w.drew.frozen? a = false := by go_simp
  have hst := run_call_store (P := Tryz.prog) Tryz.func144 (by kernel_rfl) (by kernel_rfl) (by kernel_rfl) (by kernel_rfl) (k := .u32) (y := 1) hc' hz'
  go_enter_d Tryz.func134, Tryz.ntmps134
  go_wp2
  go_region_calls
  all_goals (go_end0; exact ⟨rfl, rfl⟩)
theorem qEu (a : Addr) (u : FrameMode) (w : World) (hc : w.cell? a = some (.int .i32 1)) (hz : w.frozen? a = false) :
    CallsD Tryz.prog 133 #[.pointer (some a)] u w fun e u' w' => u' = u ∧ (e = .returned (.tuple #[]) ∧ w' = w.setCell a (.int .i32 0)) := by
  have hd := disable
  have he := enable
  have hr := releaseMerge
  have hadd := run_call_add (P := Tryz.prog) Tryz.func155 (by kernel_rfl) (by kernel_rfl) (by kernel_rfl) .i32 (by kernel_rfl) (y := -1) (s := 0) hc hz (by simp [go_sem]; rfl)
  have hcv := run_convert_to_unsafe (P := Tryz.prog) (src := 218) (dst := 172) Tryz.underlying218 Tryz.underlying172 (by kernel_rfl) hc
  go_enter_d Tryz.func133, Tryz.ntmps133
  go_wp2
  go_end0
  go_wp2
  go_end0
  exact ⟨rfl, rfl⟩
theorem qKS (a : Addr) (w : World) (hc : w.cell? a = some (.int .i32 0)) (hz : w.frozen? a = false) :
    Calls Tryz.prog 132 #[.pointer (some a)] w fun e w' => e = .returned (.tuple #[]) ∧ w' = w.setCell a (.int .i32 1) := by
  have hd := disable
  have he := enable
  have ha := acquire
  have hcas := run_call_cas_hit (P := Tryz.prog) Tryz.func150 (by kernel_rfl) (by kernel_rfl) (by kernel_rfl) .i32 (by kernel_rfl) (y := 1) hc hz
  have hc' : (w.setCell a (.int .i32 1)).cell? a = some (.int .i32 1) := World.cell?_setCell_same w a _ hc
  have hcv := run_convert_to_unsafe (P := Tryz.prog) (src := 218) (dst := 172) Tryz.underlying218 Tryz.underlying172 (by kernel_rfl) hc'
  go_enter Tryz.func132, Tryz.ntmps132
  go_wp2
  first | go_end0 | (simp only [Exit.inBlock, Exit.then]; refine bodyPost_ret (results_none rfl _ _ _) rfl ?_) | refine bodyPost_ret (results_none rfl _ _ _) rfl ?_
  go_wp2
  go_end0
  exact ⟨rfl, rfl⟩
theorem qCE {n : Nat} {W W' : World} (h : Below n W W') {a : Addr} (ha : a.block < n) : W'.frozen? a = W.frozen? a := by
  unfold World.frozen?
  rw [h.block a.block ha]
abbrev ifc (C : Nat) : Value := .iface 195 (.pointer (some ⟨C, 0, none⟩))
set_option maxHeartbeats 1600000 in
theorem qOU (rb B cap : Nat) (x3 : Value) (w : World) (hne : rb ≠ B) (h3 : w.cell? ⟨rb, 3, none⟩ = some x3) (h4 : w.cell? ⟨rb, 4, none⟩ = some (.slice (some ⟨B, 0, none⟩) 8 cap)) (fz : ∀ j, w.frozen? ⟨rb, j, none⟩ = false)
    (c0 : w.cell? ⟨B, 0, none⟩ = some (.string { data := #[92] })) (c1 : w.cell? ⟨B, 1, none⟩ = some (.string { data := #[92, 92] })) (c2 : w.cell? ⟨B, 2, none⟩ = some (.string { data := #[34] })) (c3 : w.cell? ⟨B, 3, none⟩ = some (.string { data := #[92, 34] }))
    (c4 : w.cell? ⟨B, 4, none⟩ = some (.string { data := #[10] })) (c5 : w.cell? ⟨B, 5, none⟩ = some (.string { data := #[92, 110] })) (c6 : w.cell? ⟨B, 6, none⟩ = some (.string { data := #[9] })) (c7 : w.cell? ⟨B, 7, none⟩ = some (.string { data := #[92, 116] })) :
    Calls Tryz.prog 93 #[.pointer (some ⟨rb, 0, none⟩)] w fun e w' => e = .returned (.tuple #[]) ∧ ∃ W, St w (w.heap.size + 1) w.heap.size [92, 34, 10, 9] 4 W ∧ w' = (W.setCell ⟨rb, 3, none⟩ (ifc (w.heap.size + 1))).setCell ⟨rb, 4, none⟩ (.slice none 0 0) := by
  have lr : rb < w.heap.size := qAz h3
  go_enter Tryz.func93, Tryz.ntmps93
  have key : Calls Tryz.prog 117 #[.pointer (some ⟨rb, 0, none⟩)] w fun e W => e = .returned (ifc (w.heap.size + 1)) ∧ St w (w.heap.size + 1) w.heap.size [92, 34, 10, 9] 4 W ∧ W.cell? ⟨rb, 3, none⟩ = some x3 ∧ W.cell? ⟨rb, 4, none⟩ = some (.slice (some ⟨B, 0, none⟩) 8 cap) ∧ W.frozen? ⟨rb, 3, none⟩ = false ∧ W.frozen? ⟨rb, 4, none⟩ = false :=
    (qMe rb B cap w h4 c0 c1 c2 c3 c4 c5 c6 c7).mono fun e W ⟨he, H⟩ => ⟨he, H, (H.bel.cell (p := ⟨rb, 3, none⟩) lr).trans h3, (H.bel.cell (p := ⟨rb, 4, none⟩) lr).trans h4, (qCE H.bel (a := ⟨rb, 3, none⟩) lr).trans (fz 3), (qCE H.bel (a := ⟨rb, 4, none⟩) lr).trans (fz 4)⟩
  go_wp2_with (go_at_call 117; refine key.mono ?_; rintro e W ⟨rfl, H, g3, g4, f3, f4⟩)
  go_end0
  exact ⟨rfl, W, H, rfl⟩
theorem qAe {W : World} {b b' j k : Nat} (h : b ≠ b') (v : Value) : (W.setCell ⟨b, j, none⟩ v).cell? ⟨b', k, none⟩ = W.cell? ⟨b', k, none⟩ := World.cell?_setCell_other _ _ _ _ (fun e => h (congrArg Addr.block e))
theorem qAs {W : World} {b j k : Nat} (h : j ≠ k) (v : Value) : (W.setCell ⟨b, j, none⟩ v).cell? ⟨b, k, none⟩ = W.cell? ⟨b, k, none⟩ := World.cell?_setCell_other _ _ _ _ (fun e => h (congrArg Addr.off e))
abbrev fin (W : World) (rb C : Nat) : World := ((((W.setCell ⟨rb, 3, none⟩ (ifc C)).setCell ⟨rb, 4, none⟩ (.slice none 0 0)).drew.setCell ⟨rb, 0, none⟩ (.int .u32 1)).setCell ⟨rb, 1, none⟩ (.int .i32 0))
set_option maxHeartbeats 1600000 in
theorem qOi (rb B cap : Nat) (x3 : Value) (w : World) (hne : rb ≠ B) (h0 : w.cell? ⟨rb, 0, none⟩ = some (.int .u32 0)) (h1 : w.cell? ⟨rb, 1, none⟩ = some (.int .i32 0)) (h3 : w.cell? ⟨rb, 3, none⟩ = some x3) (h4 : w.cell? ⟨rb, 4, none⟩ = some (.slice (some ⟨B, 0, none⟩) 8 cap)) (fz : ∀ j, w.frozen? ⟨rb, j, none⟩ = false)
    (c0 : w.cell? ⟨B, 0, none⟩ = some (.string { data := #[92] })) (c1 : w.cell? ⟨B, 1, none⟩ = some (.string { data := #[92, 92] })) (c2 : w.cell? ⟨B, 2, none⟩ = some (.string { data := #[34] })) (c3 : w.cell? ⟨B, 3, none⟩ = some (.string { data := #[92, 34] }))
    (c4 : w.cell? ⟨B, 4, none⟩ = some (.string { data := #[10] })) (c5 : w.cell? ⟨B, 5, none⟩ = some (.string { data := #[92, 110] })) (c6 : w.cell? ⟨B, 6, none⟩ = some (.string { data := #[9] })) (c7 : w.cell? ⟨B, 7, none⟩ = some (.string { data := #[92, 116] })) :
    Calls Tryz.prog 116 #[.pointer (some ⟨rb, 0, none⟩), .func (.func 93) #[.pointer (some ⟨rb, 0, none⟩)] #[]] w fun e w' => e = .returned (.tuple #[]) ∧ ∃ W, St (w.setCell ⟨rb, 1, none⟩ (.int .i32 1)) (w.heap.size + 1) w.heap.size [92, 34, 10, 9] 4 W ∧ w' = fin W rb (w.heap.size + 1) := by
  have hl := run_call_load (P := Tryz.prog) Tryz.func131 (by kernel_rfl) (by kernel_rfl) (by kernel_rfl) .u32 (by kernel_rfl) (w := w.setCell ⟨rb, 1, none⟩ (.int .i32 1)) (a := ⟨rb, 0, none⟩) (x := 0) ((qAs (by decide) _).trans h0)
  have lr : rb < w.heap.size := qAz h3
  have hs1 : (w.setCell ⟨rb, 1, none⟩ (.int .i32 1)).heap.size = w.heap.size := by simp
  have key := qOU rb B cap x3 (w.setCell ⟨rb, 1, none⟩ (.int .i32 1)) hne ((qAs (by decide) _).trans h3) ((qAs (by decide) _).trans h4) (fun j => (World.frozen?_setCell _ _ _ _).trans (fz j))
    ((qAe hne _).trans c0) ((qAe hne _).trans c1) ((qAe hne _).trans c2) ((qAe hne _).trans c3) ((qAe hne _).trans c4) ((qAe hne _).trans c5) ((qAe hne _).trans c6) ((qAe hne _).trans c7)
  rw [hs1] at key
  have hnot : ∀ (x : Bool) (w : World), (Op.unary .not (.bool x)).run Tryz.prog w = .ok (.bool (!x)) w := fun _ _ => rfl
  go_enter_defers Tryz.func116, Tryz.ntmps116
  go_wp2_with (first | (go_at_call 132; refine (qKS ⟨rb, 1, none⟩ _ (by go_simp) (by go_simp)).mono ?_; rintro e w' ⟨rfl, rfl⟩) | (go_at_call 115; go_in) | (go_at_call 93; refine key.mono ?_; rintro e w' ⟨rfl, W, H, rfl⟩))
  have lt1 : rb < (w.setCell ⟨rb, 1, none⟩ (.int .i32 1)).heap.size := by rw [hs1]; exact lr
  have k0 : W.cell? ⟨rb, 0, none⟩ = some (.int .u32 0) := (H.bel.cell (p := ⟨rb, 0, none⟩) lt1).trans ((qAs (by decide) _).trans h0)
  have k1 : W.cell? ⟨rb, 1, none⟩ = some (.int .i32 1) := (H.bel.cell (p := ⟨rb, 1, none⟩) lt1).trans (World.cell?_setCell_same _ _ _ h1)
  have kf : ∀ j, W.frozen? ⟨rb, j, none⟩ = false := fun j => (qCE H.bel (a := ⟨rb, j, none⟩) lt1).trans ((World.frozen?_setCell _ _ _ _).trans (fz j))
  refine leaves_cons (f := 134) (args := #[.pointer (some ⟨rb, 0, none⟩), .bool true]) (by simp) (by simp [go_sem]) ?_
  refine (qE8 ⟨rb, 0, none⟩ (.int .u32 0) .returning _ ((qAs (by decide) _).trans ((qAs (by decide) _).trans k0)) (by simp [kf])).mono ?_
  rintro e u' w'' ⟨rfl, rfl, rfl⟩
  refine leaves_cons (f := 133) (args := #[.pointer (some ⟨rb, 1, none⟩)]) (by simp [settle]) (by simp [go_sem]) ?_
  refine (qEu ⟨rb, 1, none⟩ _ _ ?_ (by simp [kf])).mono ?_
  · refine (qAs (by decide) _).trans ?_
    rw [World.cell?_drew]
    exact (qAs (by decide) _).trans ((qAs (by decide) _).trans k1)
  rintro e u' w'' ⟨rfl, rfl, rfl⟩
  have hfin : ∃ W', St (w.setCell ⟨rb, 1, none⟩ (.int .i32 1)) (w.heap.size + 1) w.heap.size [92, 34, 10, 9] 4 W' ∧ fin W rb (w.heap.size + 1) = fin W' rb (w.heap.size + 1) := ⟨W, H, rfl⟩
  simp [Leaves, settle, results, Tryz.results116]
  exact ⟨W, H, rfl⟩
set_option maxHeartbeats 1600000 in
theorem qP9 (rb B cap : Nat) (x3 : Value) (w : World) (hne : rb ≠ B) (h0 : w.cell? ⟨rb, 0, none⟩ = some (.int .u32 0)) (h1 : w.cell? ⟨rb, 1, none⟩ = some (.int .i32 0)) (h3 : w.cell? ⟨rb, 3, none⟩ = some x3) (h4 : w.cell? ⟨rb, 4, none⟩ = some (.slice (some ⟨B, 0, none⟩) 8 cap)) (fz : ∀ j, w.frozen? ⟨rb, j, none⟩ = false)
    (c0 : w.cell? ⟨B, 0, none⟩ = some (.string { data := #[92] })) (c1 : w.cell? ⟨B, 1, none⟩ = some (.string { data := #[92, 92] })) (c2 : w.cell? ⟨B, 2, none⟩ = some (.string { data := #[34] })) (c3 : w.cell? ⟨B, 3, none⟩ = some (.string { data := #[92, 34] }))
    (c4 : w.cell? ⟨B, 4, none⟩ = some (.string { data := #[10] })) (c5 : w.cell? ⟨B, 5, none⟩ = some (.string { data := #[92, 110] })) (c6 : w.cell? ⟨B, 6, none⟩ = some (.string { data := #[9] })) (c7 : w.cell? ⟨B, 7, none⟩ = some (.string { data := #[92, 116] })) :
    Calls Tryz.prog 92 #[.pointer (some ⟨rb, 0, none⟩), .func (.func 93) #[.pointer (some ⟨rb, 0, none⟩)] #[]] w fun e w' => e = .returned (.tuple #[]) ∧ ∃ W, St (w.setCell ⟨rb, 1, none⟩ (.int .i32 1)) (w.heap.size + 1) w.heap.size [92, 34, 10, 9] 4 W ∧ w' = fin W rb (w.heap.size + 1) := by
  have hl := run_call_load (P := Tryz.prog) Tryz.func131 (by kernel_rfl) (by kernel_rfl) (by kernel_rfl) .u32 (by kernel_rfl) h0
  have hnot : ∀ (x : Bool) (w : World), (Op.unary .not (.bool x)).run Tryz.prog w = .ok (.bool (!x)) w := fun _ _ => rfl
  have key := qOi rb B cap x3 w hne h0 h1 h3 h4 fz c0 c1 c2 c3 c4 c5 c6 c7
  go_enter Tryz.func92, Tryz.ntmps92
  go_wp2_with (first | (go_at_call 116; refine key.mono ?_; rintro e w' ⟨rfl, W, H, rfl⟩) | (go_at_call 115; go_in))
  go_end0
  exact ⟨rfl, W, H, rfl⟩
end Go.Proofs.Quo
namespace Go.Proofs.Quo
open Go Go.RowKit
set_option maxHeartbeats 1600000 in
theorem qO5 (A : Nat) (w : World)
    (c0 : w.cell? ⟨A, 0, none⟩ = some (.string { data := #[92] })) (c1 : w.cell? ⟨A, 1, none⟩ = some (.string { data := #[92, 92] })) (c2 : w.cell? ⟨A, 2, none⟩ = some (.string { data := #[34] })) (c3 : w.cell? ⟨A, 3, none⟩ = some (.string { data := #[92, 34] }))
    (c4 : w.cell? ⟨A, 4, none⟩ = some (.string { data := #[10] })) (c5 : w.cell? ⟨A, 5, none⟩ = some (.string { data := #[92, 110] })) (c6 : w.cell? ⟨A, 6, none⟩ = some (.string { data := #[9] })) (c7 : w.cell? ⟨A, 7, none⟩ = some (.string { data := #[92, 116] })) :
    Calls Tryz.prog 57 #[.slice (some ⟨A, 0, none⟩) 8 8] w fun e w' => e = .returned (.pointer (some ⟨w.heap.size + 1, 0, none⟩)) ∧ Below w.heap.size w w' ∧ ∃ (cap : Nat) (rest : Array Value), w'.heap[w.heap.size]? = some (.cells (#[.string { data := #[92] }, .string { data := #[92, 92] }, .string { data := #[34] }, .string { data := #[92, 34] }, .string { data := #[10] }, .string { data := #[92, 110] }, .string { data := #[9] }, .string { data := #[92, 116] }] ++ rest) 9 (0, 0)) ∧
      w'.heap[w.heap.size + 1]? = some (.cells #[.int .u32 0, .int .i32 0, .int .u32 0, .nilIface, .slice (some ⟨w.heap.size, 0, none⟩) 8 cap] 150 (0, 0)) := by
  go_enter Tryz.func57, Tryz.ntmps57
  go_wp2
  go_ret
  generalize (Question.appendCap 8 0 9).cut (w.tape w.drawn (Question.appendCap 8 0 9)) = cap
  refine ⟨rfl, (((Below.refl _ w).alloc (Nat.le_refl _) _).alloc (by simp) _).drew, cap, Builtin.zeroCells #[Value.string { data := #[] }] (cap - 8), ?_, ?_⟩
  · generalize Obj.cells (#[Value.string { data := #[92] }, Value.string { data := #[92, 92] }, Value.string { data := #[34] }, Value.string { data := #[92, 34] }, Value.string { data := #[10] }, Value.string { data := #[92, 110] }, Value.string { data := #[9] }, Value.string { data := #[92, 116] }] ++ Builtin.zeroCells #[Value.string { data := #[] }] (cap - 8)) 9 = o1
    generalize Obj.cells #[Value.int IntKind.u32 0, Value.int IntKind.i32 0, Value.int IntKind.u32 0, Value.nilIface, Value.slice (some ⟨w.heap.size, 0, none⟩) 8 cap] 150 = o2
    have h1 := World.alloc_heap_new w o1
    exact ((World.grownBy_alloc (w.alloc o1) o2 none).block w.heap.size (by simp) (by simp)).trans h1
  · generalize Obj.cells (#[Value.string { data := #[92] }, Value.string { data := #[92, 92] }, Value.string { data := #[34] }, Value.string { data := #[92, 34] }, Value.string { data := #[10] }, Value.string { data := #[92, 110] }, Value.string { data := #[9] }, Value.string { data := #[92, 116] }] ++ Builtin.zeroCells #[Value.string { data := #[] }] (cap - 8)) 9 = o1
    generalize Obj.cells #[Value.int IntKind.u32 0, Value.int IntKind.i32 0, Value.int IntKind.u32 0, Value.nilIface, Value.slice (some ⟨w.heap.size, 0, none⟩) 8 cap] 150 = o2
    have h1 := World.alloc_heap_new (w.alloc o1) o2
    rw [World.size_alloc] at h1
    exact h1
set_option maxHeartbeats 1600000 in
theorem qPh (C D : Nat) (s : ByteArray) (hs : s.size < 32) (w : World) (ht : w.cell? ⟨C, 256, none⟩ = some (.slice (some ⟨D, 0, none⟩) 4 4)) (hn : ∀ (j : Nat) (hj : j < s.size), w.cell? ⟨C, s[j].toNat, none⟩ = some (.slice none 0 0)) :
    Calls Tryz.prog 191 #[.pointer (some ⟨C, 0, none⟩), .string s] w fun e w' => e = .returned (.string s) ∧ w' = w := by
  have hq : ∀ (w : World) (a : Option Addr) (n c n' c' : Nat), (binOp .neq 26 (.slice a n c) (.slice none n' c')).run Tryz.prog w = .ok (.bool (!a.isNone)) w := fun w a n c n' c' => run_neq_slice_nil_any w _ _ a n c n' c' Tryz.underlying26
  have hlt : ¬ (32 : Int) ≤ (s.size : Int) := by omega
  go_enter Tryz.func191, Tryz.ntmps191
  go_wp2
  go_loopw [5, 6, 10] (fun n5 c6 i wr => ∃ k : Nat, k ≤ s.size ∧ i = .int .i64 (k : Int) ∧ n5 = .int .i64 (s.size : Int) ∧ c6 = .bool false ∧ wr = w) (fun _ _ i _ => s.size - (intOf i).toNat)
  case atStart => exact ⟨0, Nat.zero_le _, rfl, rfl, rfl, rfl⟩
  case round =>
    obtain ⟨k, hk, rfl, rfl, rfl, rfl⟩ := hrel
    by_cases hlt2 : k < s.size
    · have hc := hn k hlt2
      have hb8 : ((s[k]'hlt2).toNat : Int) < 256 := by have := (s[k]'hlt2).toNat_lt; omega
      go_wp2
      go_roundw
      case rel => exact ⟨k + 1, by omega, by simp, rfl, rfl, trivial⟩
      case measure => simp [intOf]; omega
    · obtain rfl : k = s.size := by omega
      go_wp2
      go_ret
      exact ⟨rfl, rfl⟩
theorem qDY {w : World} {b : Nat} {arr : Array Value} {e : TypeId} (h : w.heap[b]? = some (.cells arr e (0, 0))) (o : Nat) : w.cell? ⟨b, o, none⟩ = arr[o]? := by
  unfold World.cell?
  simp only [h]
  cases arr[o]? <;> rfl
theorem qN3 {w : World} {b : Nat} {arr : Array Value} {e : TypeId} (h : w.heap[b]? = some (.cells arr e (0, 0))) (o : Nat) : w.frozen? ⟨b, o, none⟩ = false := by simp [World.frozen?, h]
theorem qOb {w : World} {b : Nat} {o : Obj} (h : w.heap[b]? = some o) : b < w.heap.size := (Array.getElem?_eq_some_iff.1 h).1
def plain (b : UInt8) : Bool := b != 9 && b != 10 && b != 34 && b != 92
theorem qKH {b : UInt8} (h : plain b = true) : b.toNat ∉ ([92, 34, 10, 9] : List Nat) := by
  simp only [plain, Bool.and_eq_true, bne_iff_ne, ne_eq] at h
  obtain ⟨⟨⟨h1, h2⟩, h3⟩, h4⟩ := h
  intro hm
  simp only [List.mem_cons, List.not_mem_nil, or_false] at hm
  rcases hm with e | e | e | e
  · exact h4 (UInt8.toNat_inj.1 e)
  · exact h3 (UInt8.toNat_inj.1 e)
  · exact h2 (UInt8.toNat_inj.1 e)
  · exact h1 (UInt8.toNat_inj.1 e)
set_option maxHeartbeats 1600000 in
theorem qJN (rb B cap n₀ : Nat) (rest : Array Value) (s : ByteArray) (hs : s.size < 32) (hp : ∀ (j : Nat) (hj : j < s.size), plain s[j] = true) (w : World) (hne : rb ≠ B) (hn₀ : n₀ ≤ rb)
    (hB : w.heap[B]? = some (.cells (#[.string { data := #[92] }, .string { data := #[92, 92] }, .string { data := #[34] }, .string { data := #[92, 34] }, .string { data := #[10] }, .string { data := #[92, 110] }, .string { data := #[9] }, .string { data := #[92, 116] }] ++ rest) 9 (0, 0)))
    (hR : w.heap[rb]? = some (.cells #[.int .u32 0, .int .i32 0, .int .u32 0, .nilIface, .slice (some ⟨B, 0, none⟩) 8 cap] 150 (0, 0))) :
    Calls Tryz.prog 58 #[.pointer (some ⟨rb, 0, none⟩), .string s] w fun e w' => e = .returned (.string s) ∧ Below n₀ w w' := by
  have lr := qOb hR
  have kb : ∀ (o : Nat) (v : Value), (#[.string { data := #[92] }, .string { data := #[92, 92] }, .string { data := #[34] }, .string { data := #[92, 34] }, .string { data := #[10] }, .string { data := #[92, 110] }, .string { data := #[9] }, .string { data := #[92, 116] }] : Array Value)[o]? = some v → w.cell? ⟨B, o, none⟩ = some v := fun o v h => (qDY hB o).trans (by rw [Array.getElem?_append_left (Array.getElem?_eq_some_iff.1 h).1]; exact h)
  have kr := qDY hR
  have key := qP9 rb B cap .nilIface w hne (kr 0) (kr 1) (kr 3) (kr 4) (qN3 hR) (kb 0 _ rfl) (kb 1 _ rfl) (kb 2 _ rfl) (kb 3 _ rfl) (kb 4 _ rfl) (kb 5 _ rfl) (kb 6 _ rfl) (kb 7 _ rfl)
  have lt1 : rb < (w.setCell ⟨rb, 1, none⟩ (.int .i32 1)).heap.size := by simp; exact lr
  have key2 : Calls Tryz.prog 92 #[.pointer (some ⟨rb, 0, none⟩), .func (.func 93) #[.pointer (some ⟨rb, 0, none⟩)] #[]] w fun e w' => e = .returned (.tuple #[]) ∧ Below n₀ w w' ∧ w'.cell? ⟨rb, 3, none⟩ = some (ifc (w.heap.size + 1)) ∧
      w'.cell? ⟨w.heap.size + 1, 256, none⟩ = some (.slice (some ⟨w.heap.size, 0, none⟩) 4 4) ∧ ∀ (j : Nat) (hj : j < s.size), w'.cell? ⟨w.heap.size + 1, s[j].toNat, none⟩ = some (.slice none 0 0) := by
    refine key.mono fun e w' ⟨he, W, H, hw⟩ => ⟨he, ?_, ?_, ?_, fun j hj => ?_⟩
    · rw [hw]
      have b0 : Below n₀ w (w.setCell ⟨rb, 1, none⟩ (.int .i32 1)) := (Below.refl n₀ w).setCell (p := ⟨rb, 1, none⟩) hn₀ _
      have b1 : Below n₀ (w.setCell ⟨rb, 1, none⟩ (.int .i32 1)) W := H.bel.mono (by simp; omega)
      exact ((((((b0.trans b1).setCell (p := ⟨rb, 3, none⟩) hn₀ _).setCell (p := ⟨rb, 4, none⟩) hn₀ _).drew).setCell (p := ⟨rb, 0, none⟩) hn₀ _).setCell (p := ⟨rb, 1, none⟩) hn₀ _)
    · rw [hw]
      have g3 : W.cell? ⟨rb, 3, none⟩ = some .nilIface := (H.bel.cell (p := ⟨rb, 3, none⟩) lt1).trans ((qAs (by decide) _).trans (kr 3))
      exact (qAs (by decide) _).trans ((qAs (by decide) _).trans ((World.cell?_drew _ _).trans ((qAs (by decide) _).trans (World.cell?_setCell_same _ _ _ g3))))
    · rw [hw]
      have hC : rb ≠ w.heap.size + 1 := by omega
      exact (qAe hC _).trans ((qAe hC _).trans ((World.cell?_drew _ _).trans ((qAe hC _).trans ((qAe hC _).trans H.tor))))
    · rw [hw]
      have hC : rb ≠ w.heap.size + 1 := by omega
      exact (qAe hC _).trans ((qAe hC _).trans ((World.cell?_drew _ _).trans ((qAe hC _).trans ((qAe hC _).trans (H.nl _ (s[j]'hj).toNat_lt (qKH (hp j hj)))))))
  have hm : ∀ (v : Value) (w : World), (method 356 195 v "Replace").run Tryz.prog w = .ok (191, v) w := fun _ _ => by kernel_rfl
  have hmf : ∀ (fn : Fn) (first cap : Array Value) (w : World), (Instr.makeFunc fn first cap).run Tryz.prog w = .ok (.func fn first cap) w := fun _ _ _ _ => rfl
  go_enter Tryz.func58, Tryz.ntmps58
  go_wp2_with (first | (go_at_call 92; refine key2.mono ?_; rintro e w' ⟨rfl, hb, g3, g256, gn⟩) | (go_at_call 191; refine (qPh _ _ s hs _ g256 gn).mono ?_; rintro e w'' ⟨rfl, rfl⟩))
  go_ret
  exact ⟨rfl, hb⟩
set_option maxHeartbeats 1600000 in
theorem quote_in (s : ByteArray) (hs : s.size < 32) (hp : ∀ (j : Nat) (hj : j < s.size), plain s[j] = true) (w : World) :
    Calls Tryz.prog 31 #[.string s] w fun e w' => e = .returned (.string (⟨#[34]⟩ ++ s ++ ⟨#[34]⟩)) ∧ Below w.heap.size w w' := by
  have h0 := World.alloc_heap_new w (.cells #[.string { data := #[92] }, .string { data := #[92, 92] }, .string { data := #[34] }, .string { data := #[92, 34] }, .string { data := #[10] }, .string { data := #[92, 110] }, .string { data := #[9] }, .string { data := #[92, 116] }] 9)
  have hA : Below w.heap.size w (w.alloc (.cells #[.string { data := #[92] }, .string { data := #[92, 92] }, .string { data := #[34] }, .string { data := #[92, 34] }, .string { data := #[10] }, .string { data := #[92, 110] }, .string { data := #[9] }, .string { data := #[92, 116] }] 9)) := (Below.refl _ w).alloc (Nat.le_refl _) _
  have hz : (w.alloc (.cells #[.string { data := #[92] }, .string { data := #[92, 92] }, .string { data := #[34] }, .string { data := #[92, 34] }, .string { data := #[10] }, .string { data := #[92, 110] }, .string { data := #[9] }, .string { data := #[92, 116] }] 9)).heap.size = w.heap.size + 1 := World.size_alloc _ _
  have k0 := qDY h0
  have key1 := qO5 w.heap.size (w.alloc (.cells #[.string { data := #[92] }, .string { data := #[92, 92] }, .string { data := #[34] }, .string { data := #[92, 34] }, .string { data := #[10] }, .string { data := #[92, 110] }, .string { data := #[9] }, .string { data := #[92, 116] }] 9)) (k0 0) (k0 1) (k0 2) (k0 3) (k0 4) (k0 5) (k0 6) (k0 7)
  rw [hz] at key1
  go_enter Tryz.func31, Tryz.ntmps31
  go_wp2_with (first | (go_at_call 57; refine key1.mono ?_; rintro e w2 ⟨rfl, hb2, cap, rest, g1, g2⟩) | (go_at_call 58; refine (qJN (w.heap.size + 1 + 1) (w.heap.size + 1) cap w.heap.size rest s hs hp _ (by omega) (by omega) g1 g2).mono ?_; rintro e w3 ⟨rfl, hb3⟩))
  go_ret
  exact ⟨by simp, (hA.trans (hb2.mono (by omega))).trans hb3⟩
end Go.Proofs.Quo
namespace Go.AI
def quB (b : UInt8) : Bool := Bool.not (Nat.beq b.toNat 9) && (Bool.not (Nat.beq b.toNat 10) && (Bool.not (Nat.beq b.toNat 34) && Bool.not (Nat.beq b.toNat 92)))
def quL : List UInt8 → Bool
  | [] => true
  | b :: l => quB b && quL l
noncomputable def SQ (fid : Nat) : Oracle := fun f args objs => bif Nat.beq f fid then (match args, objs with
  | [.v (.c (.p (.str s)))], [] => bif Nat.ble (lenF s) 31 && quL s then some (.v (.c (.p (.str ([34] ++ s ++ [34])))), []) else none
  | _, _ => none) else none
theorem qJv : ∀ (l : List UInt8), quL l = true → ∀ (j : Nat) (h : j < l.length), quB l[j] = true
  | b :: l, h, 0, _ => by rw [quL, Bool.and_eq_true] at h; exact h.1
  | b :: l, h, j + 1, hj => by rw [quL, Bool.and_eq_true] at h; exact qJv l h.2 j (by simpa using hj)
end Go.AI
namespace Go.Proofs
open Go Go.RowKit Go.AI
theorem qMQ {b : UInt8} (h : quB b = true) : Quo.plain b = true := by
  simp only [quB, Bool.and_eq_true, Bool.not_eq_true', qAJ, decide_eq_false_iff_not] at h
  obtain ⟨h1, h2, h3, h4⟩ := h
  simp only [Quo.plain, Bool.and_eq_true, bne_iff_ne, ne_eq]
  exact ⟨⟨⟨fun e => h1 (by rw [e]; rfl), fun e => h2 (by rw [e]; rfl)⟩, fun e => h3 (by rw [e]; rfl)⟩, fun e => h4 (by rw [e]; rfl)⟩
theorem qDp [Sym] {G : Nat → Option (List PVal)} : FSound Tryz.prog G (SQ 31) := by
  intro f args objs v objs' e
  unfold SQ at e
  rw [qAJ, Bool.cond_decide] at e
  split at e
  · rename_i hf
    subst hf
    split at e
    · rename_i s
      rw [qAK] at e
      cases hc : (Nat.ble s.length 31 && quL s) with
      | false => rw [hc] at e; cases e
      | true =>
        rw [hc] at e
        rw [Bool.and_eq_true] at hc
        have hl := Nat.le_of_ble_eq_true hc.1
        cases e
        refine ⟨⟨_, Tryz.func31, by kernel_rfl, of_decide_eq_true (by kernel_rfl)⟩, fun ρ I w avs hG hW ha hown => ?_⟩
        obtain ⟨l⟩ := avs
        match l, ha with
        | [x], ⟨hx1, _⟩ =>
          cases hx1 with | p _ _ hx1 => cases hx1 with | str _ b hb =>
          subst hb
          have hs : b.size < 32 := by
            have : b.size = b.data.toList.length := by rw [Array.length_toList]; rfl
            omega
          refine Calls.mono (Quo.quote_in b hs (fun j hj => ?_) w) fun e w' ⟨e1, e2⟩ => ?_
          · have hj' : j < b.data.toList.length := by rw [Array.length_toList]; exact hj
            have := qJv _ hc.2 j hj'
            rw [Array.getElem_toList] at this
            exact qMQ this
          · obtain ⟨r1, r2⟩ := qFy hW e2
            refine ⟨_, ρ, I, e1, ?_, r1, r2, hown⟩
            refine .p _ _ (.str _ _ ?_)
            simp [ByteArray.data_append]
    · cases e
  · cases e
end Go.Proofs
namespace Go.Proofs.YtiahgnkffnokfaaGreatDoor.Ab
open Go Go.AI
noncomputable def SLay : Oracle := SQ 31
theorem qQC [Sym] {G : Nat → Option (List PVal)} (_ : Tryz.prog.follows .mixedOrders = true) : FSound Tryz.prog G SLay := qDp
open Go Go.AI
noncomputable def S : Oracle := orS (SQ 31) (orS (SI 102) (SJ 32))
noncomputable abbrev W : Mach := lim tab.get S
noncomputable abbrev Om : Oracle := orc S W
abbrev CAL (f : FuncId) (l : List TVal) (v : TVal) : Prop := ∀ {β : Type} {k : TVal → Heap → Option β} {h : Heap} {d : Nat}, vcall Om (.v (.c (.func f []))) l h d k = k v h
abbrev kA (r : List PVal) : TVal := .v (.agg (pcells r))
def withinM (a n : Int) : Int := if a.tmod n < 0 then a.tmod n + n else a.tmod n
theorem qCt (a n : Int) (hn : 0 < n) : 0 ≤ withinM a n ∧ withinM a n < n := by
 have h1 := Int.tmod_lt_of_pos a hn
 have h2 : -n < a.tmod n := by
  have := Int.tmod_lt_of_pos (-a) hn
  rw [Int.neg_tmod] at this; omega
 unfold withinM
 split <;> omega
open Go Go.AI
open Go Go.AI
abbrev p3 : TVal := .v (.c (.ptr (.own 3 1) 0))
open Go Go.AI
abbrev o1 : TVal := .v (.c (.ptr (.own 1 1) 0))
abbrev o2 : TVal := .v (.c (.ptr (.own 2 1) 0))
open Go Go.AI
abbrev s2 : TVal := .v (.c (.ptr (.own 2 1) 0))
abbrev s3 : TVal := .v (.c (.ptr (.own 3 1) 0))
open Go Go.AI
theorem qME (a n : Int) (hn : 0 < n) (hs : n < 1000000) : Om 12 [kI a, kI n] [] = some (kI (withinM a n), []) := by
 refine (qAC rfl).trans ?_
 show lim tab.get S 12 0 0 [kI a, kI n] h0 = _
 have hb := qCt a n hn
 rw [w12_0, b12_0]
 unfold withinM at hb ⊢
 by_cases h : a.tmod n < 0
 ·rw [if_pos h] at hb ⊢
  have hw : IntKind.i64.wrap (a.tmod n + n) = a.tmod n + n := qAF _ (by omega) (by omega)
  simp (maxSteps := 9999999) +contextual only [exa, ne_eq, not_false_eq_true, reduceAdd, reduceMul, reduceLT, reduceLeDiff, reduceEqDiff, Int.reduceLT, Int.reduceLE, Int.reduceEq, Int.reduceToNat, qBC 0 .i64 a n (by omega), h, hw, oneOf]
 ·rw [if_neg h]
  simp (maxSteps := 9999999) +contextual only [exa, ne_eq, not_false_eq_true, reduceAdd, reduceMul, reduceLT, reduceLeDiff, reduceEqDiff, Int.reduceLT, Int.reduceLE, Int.reduceEq, Int.reduceToNat, qBC 0 .i64 a n (by omega), h, oneOf]
theorem u12 {β : Type} {k : TVal → Heap → Option β} {h : Heap} {d : Nat} (a n : Int) (hn : 0 < n) (hs : n < 1000000) : vcall Om (.v (.c (.func 12 []))) [kI a, kI n] h d k = k (kI (withinM a n)) h := qAG 12 _ _ rfl (qME a n hn hs) rfl
theorem qNI : Om 11 [] [] = some (kB true, []) := (qAC rfl).trans (qBA blks_ok 3000 11 0 0 _ _ _ (by kernel_rfl))
open Go Go.AI
theorem qQR {β : Type} {h : Heap} {k : TVal → Heap → Option β} (a : Int) : vbin .shr 0 (kN .u64 a) (kN .u64 32) h k = k (kN .u64 (a / 4294967296)) h := qBY _ _ _ _ _ (by
 show some (Cell.p (.int .u64 (a.fdiv (2 ^ (min ((32 : Int).toNat) 64))))) = _
 rw [show (2 : Int) ^ (min ((32 : Int).toNat) 64) = 4294967296 by decide, Int.fdiv_eq_ediv_of_nonneg _ (by decide)])
theorem qQS {β : Type} {h : Heap} {k : TVal → Heap → Option β} (a : Int) : vbin .shr 0 (kN .u64 a) (kN .u64 16) h k = k (kN .u64 (a / 65536)) h := qBY _ _ _ _ _ (by
 show some (Cell.p (.int .u64 (a.fdiv (2 ^ (min ((16 : Int).toNat) 64))))) = _
 rw [show (2 : Int) ^ (min ((16 : Int).toNat) 64) = 65536 by decide, Int.fdiv_eq_ediv_of_nonneg _ (by decide)])
theorem vsh8 {β : Type} {h : Heap} {k : TVal → Heap → Option β} (a : Int) : vbin .shr 0 (kN .u64 a) (kN .u64 8) h k = k (kN .u64 (a / 256)) h := qBY _ _ _ _ _ (by
 show some (Cell.p (.int .u64 (a.fdiv (2 ^ (min ((8 : Int).toNat) 64))))) = _
 rw [show (2 : Int) ^ (min ((8 : Int).toNat) 64) = 256 by decide, Int.fdiv_eq_ediv_of_nonneg _ (by decide)])
def len8L : List UInt8 := z0a4518d3
theorem qMJ : (List.range 256).all (fun x => match len8L[x]? with | some b => (x == 0 && b == 0) || (decide (1 ≤ b.toNat) && decide (2 ^ (b.toNat - 1) ≤ x) && decide (x < 2 ^ b.toNat) && decide (b.toNat ≤ 8)) | none => false) = true := by decide +kernel
def IsLen (u : Int) (L : Nat) : Prop := (u = 0 ∧ L = 0) ∨ (1 ≤ L ∧ (2 : Int) ^ (L - 1) ≤ u ∧ u < 2 ^ L)
theorem qOV (x : Int) (h0 : 0 ≤ x) (h1 : x < 256) : ∃ b : UInt8, len8L[x.toNat]? = some b ∧ IsLen x b.toNat ∧ b.toNat ≤ 8 := by
 have h := List.all_eq_true.1 qMJ x.toNat (List.mem_range.2 (by omega))
 revert h
 cases hb : len8L[x.toNat]? with
 | none => intro h; cases h
 | some b =>
  intro h
  refine ⟨b, rfl, ?_⟩
  simp only [Bool.or_eq_true, Bool.and_eq_true, beq_iff_eq, decide_eq_true_eq] at h
  rcases h with ⟨h2, h3⟩ | ⟨⟨⟨h2, h3⟩, h4⟩, h5⟩
  ·subst h3
   exact ⟨.inl ⟨by omega, rfl⟩, by decide⟩
  ·refine ⟨.inr ⟨h2, ?_, ?_⟩, h5⟩
   ·have : ((2 ^ (b.toNat - 1) : Nat) : Int) ≤ ((x.toNat : Nat) : Int) := by exact_mod_cast h3
    rw [Int.toNat_of_nonneg h0] at this
    simpa using this
   ·have : ((x.toNat : Nat) : Int) < ((2 ^ b.toNat : Nat) : Int) := by exact_mod_cast h4
    rw [Int.toNat_of_nonneg h0] at this
    simpa using this
theorem qNC (x : Int) (n : Nat) (h0 : 0 ≤ x) (h1 : x < 256) (hn : n ≤ 200) (h : Heap) : ∃ L : Nat, L ≤ 8 ∧ IsLen x L ∧ lim tab.get S 111 0 3 [kN .u64 x, kI (n : Int)] h = some (kI ((n + L : Nat) : Int), []) := by
 obtain ⟨b, hb, hl, h8⟩ := qOV x h0 h1
 refine ⟨b.toNat, h8, hl, ?_⟩
 have w1 : IntKind.u8.wrap x = x := qAN .u8 _ (by show (0 : Int) ≤ _; omega) (by show _ ≤ (255 : Int); omega)
 have w2 : IntKind.i64.wrap ((b.toNat : Nat) : Int) = ((b.toNat : Nat) : Int) := qAF _ (by omega) (by omega)
 have w3 : IntKind.i64.wrap ((n : Int) + ((b.toNat : Nat) : Int)) = ((n + b.toNat : Nat) : Int) := by rw [qAF _ (by omega) (by omega)]; omega
 have hx : ∀ {β : Type} {h : Heap} {k : TVal → Heap → Option β}, vindex (kS z0a4518d3) (kN .u8 x) h k = k (kU b) h := fun {β h k} => by
  obtain ⟨m, hm⟩ : ∃ m : Nat, x = m := ⟨x.toNat, by omega⟩
  subst hm
  show bnd (nthF len8L m) _ = _
  rw [qAb]
  rw [Int.toNat_natCast] at hb
  rw [hb]; rfl
 rw [w111_3, b111_3]
 simp (maxSteps := 9999999) +contextual only [exa, ne_eq, not_false_eq_true, reduceAdd, reduceMul, reduceLT, reduceLeDiff, reduceEqDiff, Int.reduceLT, Int.reduceLE, Int.reduceEq, Int.reduceToNat, w1, hx, w2, w3, oneOf]
theorem qNo {x : Int} {L : Nat} (hx : 256 ≤ x) (h : IsLen (x / 256) L) : IsLen x (L + 8) := by
 rcases h with ⟨h1, _⟩ | ⟨h1, h2, h3⟩
 ·omega
 ·refine .inr ⟨by omega, ?_, ?_⟩
  ·rw [show L + 8 - 1 = (L - 1) + 8 by omega, Int.pow_add, show (2 : Int) ^ 8 = 256 by decide]
   generalize (2 : Int) ^ (L - 1) = y at h2
   omega
  ·rw [Int.pow_add, show (2 : Int) ^ 8 = 256 by decide]
   generalize (2 : Int) ^ L = y at h3
   omega
theorem qMn {x : Int} {L : Nat} (hx : 65536 ≤ x) (h : IsLen (x / 65536) L) : IsLen x (L + 16) := by
 rcases h with ⟨h1, _⟩ | ⟨h1, h2, h3⟩
 ·omega
 ·refine .inr ⟨by omega, ?_, ?_⟩
  ·rw [show L + 16 - 1 = (L - 1) + 16 by omega, Int.pow_add, show (2 : Int) ^ 16 = 65536 by decide]
   generalize (2 : Int) ^ (L - 1) = y at h2
   omega
  ·rw [Int.pow_add, show (2 : Int) ^ 16 = 65536 by decide]
   generalize (2 : Int) ^ L = y at h3
   omega
theorem qL4 {x : Int} {L : Nat} (hx : 4294967296 ≤ x) (h : IsLen (x / 4294967296) L) : IsLen x (L + 32) := by
 rcases h with ⟨h1, _⟩ | ⟨h1, h2, h3⟩
 ·omega
 ·refine .inr ⟨by omega, ?_, ?_⟩
  ·rw [show L + 32 - 1 = (L - 1) + 32 by omega, Int.pow_add, show (2 : Int) ^ 32 = 4294967296 by decide]
   generalize (2 : Int) ^ (L - 1) = y at h2
   omega
  ·rw [Int.pow_add, show (2 : Int) ^ 32 = 4294967296 by decide]
   generalize (2 : Int) ^ L = y at h3
   omega
theorem qNF (x : Int) (n : Nat) (h0 : 0 ≤ x) (h1 : x < 65536) (hn : n ≤ 150) (h : Heap) : ∃ L : Nat, L ≤ 16 ∧ IsLen x L ∧ lim tab.get S 111 0 2 [kN .u64 x, kI (n : Int)] h = some (kI ((n + L : Nat) : Int), []) := by
 rw [w111_2, b111_2]
 by_cases hx : 256 ≤ x
 ·have hx' : ¬ x < 256 := by omega
  have w : IntKind.i64.wrap ((n : Int) + 8) = ((n + 8 : Nat) : Int) := by rw [qAF _ (by omega) (by omega)]; omega
  obtain ⟨L, h8, hl, e⟩ := qNC (x / 256) (n + 8) (by omega) (by omega) (by omega) h
  refine ⟨L + 8, by omega, qNo hx hl, ?_⟩
  simp (maxSteps := 9999999) +contextual only [exa, ne_eq, not_false_eq_true, reduceAdd, reduceMul, reduceLT, reduceLeDiff, reduceEqDiff, Int.reduceLT, Int.reduceLE, Int.reduceEq, Int.reduceToNat, hx', vsh8, w]
  refine e.trans ?_
  rw [show n + 8 + L = n + (L + 8) by omega]
 ·have hx' : x < 256 := by omega
  obtain ⟨L, h8, hl, e⟩ := qNC x n h0 hx' (by omega) h
  refine ⟨L, by omega, hl, ?_⟩
  simp (maxSteps := 9999999) +contextual only [exa, ne_eq, not_false_eq_true, reduceAdd, reduceMul, reduceLT, reduceLeDiff, reduceEqDiff, Int.reduceLT, Int.reduceLE, Int.reduceEq, Int.reduceToNat, hx']
  exact e
theorem qNA (x : Int) (n : Nat) (h0 : 0 ≤ x) (h1 : x < 4294967296) (hn : n ≤ 100) (h : Heap) : ∃ L : Nat, L ≤ 32 ∧ IsLen x L ∧ lim tab.get S 111 0 1 [kN .u64 x, kI (n : Int)] h = some (kI ((n + L : Nat) : Int), []) := by
 rw [w111_1, b111_1]
 by_cases hx : 65536 ≤ x
 ·have hx' : ¬ x < 65536 := by omega
  have w : IntKind.i64.wrap ((n : Int) + 16) = ((n + 16 : Nat) : Int) := by rw [qAF _ (by omega) (by omega)]; omega
  obtain ⟨L, h8, hl, e⟩ := qNF (x / 65536) (n + 16) (by omega) (by omega) (by omega) h
  refine ⟨L + 16, by omega, qMn hx hl, ?_⟩
  simp (maxSteps := 9999999) +contextual only [exa, ne_eq, not_false_eq_true, reduceAdd, reduceMul, reduceLT, reduceLeDiff, reduceEqDiff, Int.reduceLT, Int.reduceLE, Int.reduceEq, Int.reduceToNat, hx', qQS, w]
  refine e.trans ?_
  rw [show n + 16 + L = n + (L + 16) by omega]
 ·have hx' : x < 65536 := by omega
  obtain ⟨L, h8, hl, e⟩ := qNF x n h0 hx' (by omega) h
  refine ⟨L, by omega, hl, ?_⟩
  simp (maxSteps := 9999999) +contextual only [exa, ne_eq, not_false_eq_true, reduceAdd, reduceMul, reduceLT, reduceLeDiff, reduceEqDiff, Int.reduceLT, Int.reduceLE, Int.reduceEq, Int.reduceToNat, hx']
  exact e
theorem qP8 (x : Int) (h0 : 0 ≤ x) (h1 : x < 18446744073709551616) : ∃ L : Nat, L ≤ 64 ∧ IsLen x L ∧ Om 111 [kN .u64 x] [] = some (kI (L : Int), []) := by
 have hs : Om 111 [kN .u64 x] [] = lim tab.get S 111 0 0 [kN .u64 x] Go.AI.h0 := qAC rfl
 rw [hs, w111_0, b111_0]
 by_cases hx : 4294967296 ≤ x
 ·have hx' : ¬ x < 4294967296 := by omega
  obtain ⟨L, h8, hl, e⟩ := qNA (x / 4294967296) 32 (by omega) (by omega) (by decide) Go.AI.h0
  refine ⟨L + 32, by omega, qL4 hx hl, ?_⟩
  simp (maxSteps := 9999999) +contextual only [exa, ne_eq, not_false_eq_true, reduceAdd, reduceMul, reduceLT, reduceLeDiff, reduceEqDiff, Int.reduceLT, Int.reduceLE, Int.reduceEq, Int.reduceToNat, hx', qQR]
  refine e.trans ?_
  rw [Nat.add_comm]
 ·have hx' : x < 4294967296 := by omega
  obtain ⟨L, h8, hl, e⟩ := qNA x 0 h0 hx' (by decide) Go.AI.h0
  refine ⟨L, by omega, hl, ?_⟩
  simp (maxSteps := 9999999) +contextual only [exa, ne_eq, not_false_eq_true, reduceAdd, reduceMul, reduceLT, reduceLeDiff, reduceEqDiff, Int.reduceLT, Int.reduceLE, Int.reduceEq, Int.reduceToNat, hx']
  refine e.trans ?_
  rw [Nat.zero_add]
open Go Go.AI
def tenL (L : Nat) : Nat := L * 78913 / 262144
theorem qOQ : (List.range 65).all (fun L => decide (tenL L < 20) && (decide (L = 0) || (decide (2 ^ L ≤ 10 ^ (tenL L + 1)) && (decide (tenL L = 0) || decide (10 ^ (tenL L - 1) ≤ 2 ^ (L - 1)))))) = true := by decide +kernel
theorem qOv (L : Nat) (hL : L ≤ 64) : Om 110 [kI (L : Int)] [] = some (kI (tenL L : Int), []) := by
 refine (qAC rfl).trans ?_
 show lim tab.get S 110 0 0 [kI (L : Int)] h0 = _
 have w : IntKind.i64.wrap ((L : Int) * 78913) = ((L * 78913 : Nat) : Int) := by rw [qAF _ (by omega) (by omega)]; omega
 have sh : ∀ {β : Type} {h : Heap} {k : TVal → Heap → Option β}, vbin .shr 0 (kI ((L * 78913 : Nat) : Int)) (kN .u64 18) h k = k (kI (tenL L : Int)) h := fun {β h k} => qBY _ _ _ _ _ (by
  show some (Cell.p (.int .i64 ((((L * 78913 : Nat) : Int)).fdiv (2 ^ (min ((18 : Int).toNat) 64))))) = _
  rw [show (2 : Int) ^ (min ((18 : Int).toNat) 64) = 262144 by decide, Int.fdiv_eq_ediv_of_nonneg _ (by decide)]
  unfold tenL
  rw [Int.natCast_ediv]; rfl)
 rw [w110_0, b110_0]
 simp (maxSteps := 9999999) +contextual only [exa, ne_eq, not_false_eq_true, reduceAdd, reduceMul, reduceLT, reduceLeDiff, reduceEqDiff, Int.reduceLT, Int.reduceLE, Int.reduceEq, Int.reduceToNat, w, sh, oneOf]
theorem qPO (b : Bool) : Om 112 [kB b] [] = some (kI (if b = true then 1 else 0), []) := by
 refine (qAC rfl).trans ?_
 show lim tab.get S 112 0 0 [kB b] h0 = _
 rw [w112_0, b112_0]
 cases b
 ·simp (maxSteps := 9999999) +contextual only [exa, ne_eq, not_false_eq_true, reduceAdd, reduceMul, reduceLT, reduceLeDiff, reduceEqDiff, Int.reduceLT, Int.reduceLE, Int.reduceEq, Int.reduceToNat, oneOf]
  rfl
 ·simp (maxSteps := 9999999) +contextual only [exa, ne_eq, not_false_eq_true, reduceAdd, reduceMul, reduceLT, reduceLeDiff, reduceEqDiff, Int.reduceLT, Int.reduceLE, Int.reduceEq, Int.reduceToNat, oneOf]
  rfl
abbrev powR : List PVal := [.int .u64 1, .int .u64 10, .int .u64 100, .int .u64 1000, .int .u64 10000, .int .u64 100000, .int .u64 1000000, .int .u64 10000000, .int .u64 100000000, .int .u64 1000000000, .int .u64 10000000000, .int .u64 100000000000, .int .u64 1000000000000, .int .u64 10000000000000, .int .u64 100000000000000, .int .u64 1000000000000000, .int .u64 10000000000000000, .int .u64 100000000000000000, .int .u64 1000000000000000000, .int .u64 10000000000000000000]
theorem qPc (t : Nat) (ht : t < 20) : powR[t]? = some (.int .u64 (10 ^ t)) := by
 match t, ht with
 | 0, _ => rfl
 | 1, _ => rfl
 | 2, _ => rfl
 | 3, _ => rfl
 | 4, _ => rfl
 | 5, _ => rfl
 | 6, _ => rfl
 | 7, _ => rfl
 | 8, _ => rfl
 | 9, _ => rfl
 | 10, _ => rfl
 | 11, _ => rfl
 | 12, _ => rfl
 | 13, _ => rfl
 | 14, _ => rfl
 | 15, _ => rfl
 | 16, _ => rfl
 | 17, _ => rfl
 | 18, _ => rfl
 | 19, _ => rfl
 | n + 20, h => exact absurd h (by omega)
theorem qHK {β : Type} {O : Oracle} {h : Heap} {d : Nat} {k : TVal → Heap → Option β} (n : Nat) (row : List PVal) (t : Nat) (ht : t < n) : vop O (.iaddrA n 1 (.k (.v (.c (.p (.pptr row 0))))) (.k (kI (t : Int)))) h d k = k (.v (.c (.p (.pptr row t)))) h := qAd _ _ (by
 show (if t < n then some (Plan.pure (.pv (.pptr row (0 + t * 1)))) else none) = _
 rw [if_pos ht, Nat.mul_one, Nat.zero_add])
theorem qKc (u : Int) (h0 : 0 ≤ u) (h1 : u < 18446744073709551616) : ∃ N : Nat, N ≤ 20 ∧ u < 10 ^ N ∧ (u = 0 ∨ (1 ≤ N ∧ (10 : Int) ^ (N - 1) ≤ u)) ∧ Om 89 [kN .u64 u] [] = some (kI (N : Int), []) := by
 obtain ⟨L, hL, hl, e⟩ := qP8 u h0 h1
 have c1 : CAL 111 [kN .u64 u] (kI (L : Int)) := qAG 111 _ _ rfl e rfl
 have c2 : CAL 110 [kI (L : Int)] (kI (tenL L : Int)) := qAG 110 _ _ rfl (qOv L hL) rfl
 have c3 : ∀ {β : Type} {k : TVal → Heap → Option β} {h : Heap} {d : Nat} (b : Bool), vcall Om (.v (.c (.func 112 []))) [kB b] h d k = k (kI (if b = true then 1 else 0)) h := fun b => qAG 112 _ _ rfl (qPO b) rfl
 have hT := List.all_eq_true.1 qOQ L (List.mem_range.2 (by omega))
 simp only [Bool.and_eq_true, Bool.or_eq_true, decide_eq_true_eq] at hT
 obtain ⟨t20, hT⟩ := hT
 have hp := qPc (tenL L) t20
 have hs : Om 89 [kN .u64 u] [] = lim tab.get S 89 0 0 [kN .u64 u] Go.AI.h0 := qAC rfl
 by_cases hq : u < 10 ^ tenL L
 ·refine ⟨tenL L, by omega, hq, ?_, ?_⟩
  ·rcases hl with ⟨hl, _⟩ | ⟨l1, l2, l3⟩
   ·exact .inl hl
   ·refine .inr ?_
    rcases hT with hT | ⟨_, hT | hT⟩
    ·omega
    ·exfalso
     rw [hT] at hq
     have : (0 : Int) < 2 ^ (L - 1) := Int.pow_pos (by decide)
     have : (10 : Int) ^ 0 = 1 := rfl
     omega
    ·refine ⟨?_, ?_⟩
     ·rcases Nat.eq_zero_or_pos (tenL L) with hz | hz
      ·exfalso
       rw [hz] at hq
       have : (0 : Int) < 2 ^ (L - 1) := Int.pow_pos (by decide)
       have : (10 : Int) ^ 0 = 1 := rfl
       omega
      ·exact hz
     ·have : ((10 ^ (tenL L - 1) : Nat) : Int) ≤ ((2 ^ (L - 1) : Nat) : Int) := by exact_mod_cast hT
      rw [Int.natCast_pow, Int.natCast_pow] at this
      exact Int.le_trans this l2
  ·have w : IntKind.i64.wrap ((tenL L : Int) + 0) = (tenL L : Int) := by rw [qAF _ (by omega) (by omega)]; omega
   rw [hs, w89_0, b89_0]
   simp (maxSteps := 9999999) +contextual only [exa, ne_eq, not_false_eq_true, reduceAdd, reduceMul, reduceLT, reduceLeDiff, reduceEqDiff, Int.reduceLT, Int.reduceLE, Int.reduceEq, Int.reduceToNat, c1, c2, qHK 20 _ _ t20, hp, hq, c3, Bool.false_eq_true, if_false, w, oneOf]
 ·refine ⟨tenL L + 1, by omega, ?_, ?_, ?_⟩
  ·rcases hl with ⟨hl, hz⟩ | ⟨l1, l2, l3⟩
   ·rw [hl]; exact Int.pow_pos (by decide)
   ·rcases hT with hT | ⟨hT, _⟩
    ·omega
    ·have : ((2 ^ L : Nat) : Int) ≤ ((10 ^ (tenL L + 1) : Nat) : Int) := by exact_mod_cast hT
     rw [Int.natCast_pow, Int.natCast_pow] at this
     exact Int.lt_of_lt_of_le l3 this
  ·exact .inr ⟨by omega, by rw [Nat.add_sub_cancel]; omega⟩
  ·have w : IntKind.i64.wrap ((tenL L : Int) + 1) = ((tenL L + 1 : Nat) : Int) := by rw [qAF _ (by omega) (by omega)]; omega
   rw [hs, w89_0, b89_0]
   simp (maxSteps := 9999999) +contextual only [exa, ne_eq, not_false_eq_true, reduceAdd, reduceMul, reduceLT, reduceLeDiff, reduceEqDiff, Int.reduceLT, Int.reduceLE, Int.reduceEq, Int.reduceToNat, c1, c2, qHK 20 _ _ t20, hp, hq, c3, if_true, w, oneOf]
open Go Go.AI
def dig (x : Int) : Cell := .p (.int .u8 (48 + x % 10))
def wr : List Cell → Nat → Int → Nat → List Cell
 | cs, _, _, 0 => cs
 | cs, i, u, k + 1 => wr (cs.set i (dig u)) (i - 1) (u / 10) k
theorem qJ9 : ∀ (k : Nat) (cs : List Cell) (i : Nat) (u : Int), (wr cs i u k).length = cs.length
 | 0, _, _, _ => rfl
 | k + 1, cs, i, u => by rw [wr, qJ9 k, List.length_set]
theorem qAa (cs : List Cell) (i : Nat) (c : Cell) (hi : i < cs.length) : put1 cs i [c] = cs.set i c := by
 unfold put1 splice
 rw [List.set_eq_take_append_cons_drop, if_pos hi]
 simp
abbrev bufP (N : Nat) : TVal := .v (.c (.sref (.im 0) 1 N (some 23) 1))
def plainC (cs : List Cell) : Prop := ∃ xs, cs = pcells xs
theorem qGt (cs : List Cell) (h : Heap) (hp : plainC cs) (hg : h.get (.im 0) = some (.cells cs 0)) : vfin true 1 [] h = some (.tup [], [.cells cs 0]) := by
 obtain ⟨xs, rfl⟩ := hp
 exact qAg true [] _ rfl hg (qAI xs 0)
theorem fb4 (N i : Nat) (u : Int) (cs : List Cell) (h : Heap) (hp : plainC cs) (hl : cs.length = 24) (hg : h.get (.im 0) = some (.cells cs 0)) (hi : i ≤ 1) (hiN : i ≤ N) (hN : N ≤ 23) (h0 : 0 ≤ u) (h1 : u < 10 ^ i) :
  lim tab.get S 90 1 4 [bufP N, kI (i : Int), kN .u32 u] h = some (.tup [], [.cells (wr cs i u i) 0]) := by
 rw [w90_4, b90_4]
 rcases Nat.le_one_iff_eq_zero_or_eq_one.1 hi with rfl | rfl
 ·have a : ¬ (0 : Int) < ((0 : Nat) : Int) := by omega
  simp (maxSteps := 9999999) +contextual only [exa, ne_eq, not_false_eq_true, reduceAdd, reduceMul, reduceLT, reduceLeDiff, reduceEqDiff, Int.reduceLT, Int.reduceLE, Int.reduceEq, Int.reduceToNat, a]
  exact qGt cs h hp hg
 ·have a : (0 : Int) < ((1 : Nat) : Int) := by omega
  have hu : u < 10 := by simpa using h1
  have w1 : IntKind.u32.wrap (48 + u) = 48 + u := qAN .u32 _ (by show (0 : Int) ≤ _; omega) (by show _ ≤ (4294967295 : Int); omega)
  have w2 : IntKind.u8.wrap (48 + u) = 48 + u := qAN .u8 _ (by show (0 : Int) ≤ _; omega) (by show _ ≤ (255 : Int); omega)
  have hN0 : 0 < N := by omega
  have P : put1 cs 1 [.p (.int .u8 (48 + u))] = wr cs 1 u 1 := by
   rw [qAa _ _ _ (by omega)]
   show _ = cs.set 1 (dig u)
   unfold dig
   rw [Int.emod_eq_of_lt h0 hu]
  have hp2 : plainC (wr cs 1 u 1) := by
   obtain ⟨xs, rfl⟩ := hp
   refine ⟨xs.set 1 (.int .u8 (48 + u % 10)), ?_⟩
   show (pcells xs).set 1 (dig u) = _
   unfold pcells dig
   rw [List.map_set]
  simp (maxSteps := 9999999) +contextual only [exa, ne_eq, not_false_eq_true, reduceAdd, reduceMul, reduceLT, reduceLeDiff, reduceEqDiff, Int.reduceLT, Int.reduceLE, Int.reduceEq, Int.reduceToNat, a, w1, w2, hN0, hg, hl, P]
  exact qGt _ _ hp2 (qAO h 0 _ _ (by rw [hg]; rfl))
open Go Go.AI
def pairL : List UInt8 := z53fdd7c2
theorem qGw : (List.range 100).all (fun q => (pairL[q * 2]? == some (UInt8.ofNat (48 + q / 10))) && (pairL[q * 2 + 1]? == some (UInt8.ofNat (48 + q % 10)))) = true := by decide +kernel
theorem qBs {β : Type} {h : Heap} {k : TVal → Heap → Option β} (K : IntKind) (x : Int) (h0 : 0 ≤ x) (h1 : x < 100) : vindex (kS z53fdd7c2) (kN K (x * 2 + 1)) h k = k (.v (.c (dig x))) h := by
 obtain ⟨q, rfl⟩ : ∃ q : Nat, x = q := ⟨x.toNat, by omega⟩
 have h := List.all_eq_true.1 qGw q (List.mem_range.2 (by omega))
 simp only [Bool.and_eq_true, beq_iff_eq] at h
 show bnd (nthF pairL (q * 2 + 1)) _ = _
 rw [qAb, h.2]
 show k (kU (UInt8.ofNat (48 + q % 10))) _ = _
 unfold dig
 show k (.v (.c (.p (.int .u8 ((UInt8.ofNat (48 + q % 10)).toNat : Int))))) _ = _
 rw [UInt8.toNat_ofNat', Nat.mod_eq_of_lt (by omega)]
 congr 5
theorem qBo {β : Type} {h : Heap} {k : TVal → Heap → Option β} (K : IntKind) (x : Int) (h0 : 0 ≤ x) (h1 : x < 100) : vindex (kS z53fdd7c2) (kN K (x * 2)) h k = k (.v (.c (dig (x / 10)))) h := by
 obtain ⟨q, rfl⟩ : ∃ q : Nat, x = q := ⟨x.toNat, by omega⟩
 have h := List.all_eq_true.1 qGw q (List.mem_range.2 (by omega))
 simp only [Bool.and_eq_true, beq_iff_eq] at h
 show bnd (nthF pairL (q * 2)) _ = _
 rw [qAb, h.1]
 show k (.v (.c (.p (.int .u8 ((UInt8.ofNat (48 + q / 10)).toNat : Int))))) _ = _
 rw [UInt8.toNat_ofNat', Nat.mod_eq_of_lt (by omega)]
 unfold dig
 have e : ((48 + q / 10 : Nat) : Int) = 48 + (q : Int) / 10 % 10 := by omega
 rw [e]
theorem qAV {cs : List Cell} (hp : plainC cs) (i : Nat) (x : Int) : plainC (cs.set i (dig x)) := by
 obtain ⟨xs, rfl⟩ := hp
 exact ⟨xs.set i (.int .u8 (48 + x % 10)), by unfold pcells dig; rw [List.map_set]⟩
theorem qGO : ∀ (k : Nat) (cs : List Cell) (i : Nat) (u : Int), plainC cs → plainC (wr cs i u k)
 | 0, _, _, _, h => h
 | k + 1, cs, i, u, h => qGO k _ _ _ (qAV h i u)
theorem qNM (u : Int) (m : Int) (hm : (10 : Int) ∣ m) : dig (u % m) = dig u := by
 unfold dig
 rw [Int.emod_emod_of_dvd _ hm]
theorem fb3 (N i : Nat) (u : Int) (cs : List Cell) (h : Heap) (hp : plainC cs) (hl : cs.length = 24) (hg : h.get (.im 0) = some (.cells cs 0)) (hi : i ≤ 3) (hiN : i ≤ N) (hN : N ≤ 23) (h0 : 0 ≤ u) (h1 : u < 10 ^ i) :
  lim tab.get S 90 1 3 [bufP N, kI (i : Int), kN .u32 u] h = some (.tup [], [.cells (wr cs i u i) 0]) := by
 rw [w90_3, b90_3]
 have hu : u < 1000 := by
  have hi' : i = 0 ∨ i = 1 ∨ i = 2 ∨ i = 3 := by omega
  rcases hi' with rfl | rfl | rfl | rfl <;> simp at h1 <;> omega
 by_cases h2 : 2 ≤ i
 ·have a : ¬ (i : Int) < 2 := by omega
  have e1 : u.tmod 100 = u % 100 := Int.tmod_eq_emod_of_nonneg h0
  have e2 : u.tdiv 100 = u / 100 := Int.tdiv_eq_ediv_of_nonneg h0
  have w1 : IntKind.u32.wrap (u % 100 * 2) = u % 100 * 2 := qAN .u32 _ (by show (0 : Int) ≤ _; omega) (by show _ ≤ (4294967295 : Int); omega)
  have w2 : IntKind.u32.wrap (u % 100 * 2 + 1) = u % 100 * 2 + 1 := qAN .u32 _ (by show (0 : Int) ≤ _; omega) (by show _ ≤ (4294967295 : Int); omega)
  have w3 : IntKind.u32.wrap (u / 100) = u / 100 := qAN .u32 _ (by show (0 : Int) ≤ _; omega) (by show _ ≤ (4294967295 : Int); omega)
  have v1 : IntKind.i64.wrap ((i : Int) - 1) = ((i - 1 : Nat) : Int) := by rw [qAF _ (by omega) (by omega)]; omega
  have v2 : IntKind.i64.wrap ((i : Int) - 2) = ((i - 2 : Nat) : Int) := by rw [qAF _ (by omega) (by omega)]; omega
  have l1 : i - 1 < N := by omega
  have l2 : i - 2 < N := by omega
  have n1 : ((i - 1 : Nat) : Int).toNat = i - 1 := Int.toNat_natCast _
  have n2 : ((i - 2 : Nat) : Int).toNat = i - 2 := Int.toNat_natCast _
  have g1 : (0 : Int) ≤ ((i - 1 : Nat) : Int) := by omega
  have g2 : (0 : Int) ≤ ((i - 2 : Nat) : Int) := by omega
  have P1 : put1 cs (1 + (i - 1)) [dig (u % 100)] = cs.set i (dig u) := by
   rw [qAa _ _ _ (by omega), qNM u 100 (by decide), show 1 + (i - 1) = i by omega]
  have P2 : put1 (cs.set i (dig u)) (1 + (i - 2)) [dig (u % 100 / 10)] = (cs.set i (dig u)).set (i - 1) (dig (u / 10)) := by
   rw [qAa _ _ _ (by rw [List.length_set]; omega), show 1 + (i - 2) = i - 1 by omega]
   congr 1
   unfold dig
   have : u % 100 / 10 % 10 = u / 10 % 10 := by omega
   rw [this]
  have b1 : 1 + (i - 1) + 1 ≤ 24 := by omega
  have b2 : 1 + (i - 2) + 1 ≤ 24 := by omega
  have hgs : ∀ (h : Heap) (c : List Cell), (h.get (.im 0)).isSome = true → (h.put (.im 0) (.cells c 0)).get (.im 0) = some (.cells c 0) := fun h c x => qAO h 0 c 0 x
  have s1 : (h.get (.im 0)).isSome = true := by rw [hg]; rfl
  have q1 : (h.put (.im 0) (.cells (cs.set i (dig u)) 0)).get (.im 0) = some (.cells (cs.set i (dig u)) 0) := hgs _ _ s1
  have q2 : ((h.put (.im 0) (.cells (cs.set i (dig u)) 0)).put (.im 0) (.cells ((cs.set i (dig u)).set (i - 1) (dig (u / 10))) 0)).get (.im 0) = some (.cells ((cs.set i (dig u)).set (i - 1) (dig (u / 10))) 0) := hgs _ _ (by rw [q1]; rfl)
  simp (maxSteps := 9999999) +contextual only [exa, ne_eq, not_false_eq_true, reduceAdd, reduceMul, reduceLT, reduceLeDiff, reduceEqDiff, Int.reduceLT, Int.reduceLE, Int.reduceEq, Int.reduceToNat, a, qBC 0 .u32 u 100 (by decide), qBO 0 .u32 u 100 (by decide), e1, e2, w1, w2, w3, v1, v2, qBs .u32 (u % 100) (by omega) (by omega), qBo .u32 (u % 100) (by omega) (by omega), l1, l2, n1, n2, g1, g2, hg, hl, List.length_set, Nat.mul_one, Nat.zero_le, P1, P2, b1, b2, q1]
  have r : wr cs i u i = wr ((cs.set i (dig u)).set (i - 1) (dig (u / 10))) (i - 2) (u / 100) (i - 2) := by
   obtain ⟨m, rfl⟩ : ∃ m, i = m + 2 := ⟨i - 2, by omega⟩
   rw [wr, wr, Int.ediv_ediv_of_nonneg (by decide)]
   rfl
  rw [r]
  refine fb4 N (i - 2) (u / 100) _ _ (qAV (qAV hp _ _) _ _) (by rw [List.length_set, List.length_set]; exact hl) q2 (by omega) (by omega) hN (by omega) ?_
  have hi' : i = 2 ∨ i = 3 := by omega
  rcases hi' with rfl | rfl
  ·simp at h1 ⊢; omega
  ·simp at h1 ⊢; omega
 ·have a : (i : Int) < 2 := by omega
  simp (maxSteps := 9999999) +contextual only [exa, ne_eq, not_false_eq_true, reduceAdd, reduceMul, reduceLT, reduceLeDiff, reduceEqDiff, Int.reduceLT, Int.reduceLE, Int.reduceEq, Int.reduceToNat, a]
  exact fb4 N i u cs h hp hl hg (by omega) hiN hN h0 h1
open Go Go.AI
theorem qBN {x y : Int} (h : x % 10 = y % 10) : dig x = dig y := by unfold dig; rw [h]
theorem fb2 (N i : Nat) (u : Int) (cs : List Cell) (h : Heap) (hp : plainC cs) (hl : cs.length = 24) (hg : h.get (.im 0) = some (.cells cs 0)) (hi : i ≤ 7) (hiN : i ≤ N) (hN : N ≤ 23) (h0 : 0 ≤ u) (h1 : u < 10 ^ i) :
  lim tab.get S 90 1 2 [bufP N, kN .u64 u, kI (i : Int)] h = some (.tup [], [.cells (wr cs i u i) 0]) := by
 rw [w90_2, b90_2]
 have hu : u < 10000000 := by
  have hi' : i = 0 ∨ i = 1 ∨ i = 2 ∨ i = 3 ∨ i = 4 ∨ i = 5 ∨ i = 6 ∨ i = 7 := by omega
  rcases hi' with rfl | rfl | rfl | rfl | rfl | rfl | rfl | rfl <;> simp at h1 <;> omega
 have w0 : IntKind.u32.wrap u = u := qAN .u32 _ (by show (0 : Int) ≤ _; omega) (by show _ ≤ (4294967295 : Int); omega)
 by_cases h2 : 4 ≤ i
 ·have a : ¬ (i : Int) < 4 := by omega
  have e1 : u.tmod 10000 = u % 10000 := Int.tmod_eq_emod_of_nonneg h0
  have e2 : u.tdiv 10000 = u / 10000 := Int.tdiv_eq_ediv_of_nonneg h0
  have e3 : (u % 10000).tdiv 100 = u % 10000 / 100 := Int.tdiv_eq_ediv_of_nonneg (by omega)
  have e4 : (u % 10000).tmod 100 = u % 10000 % 100 := Int.tmod_eq_emod_of_nonneg (by omega)
  have w1 : IntKind.u32.wrap (u / 10000) = u / 10000 := qAN .u32 _ (by show (0 : Int) ≤ _; omega) (by show _ ≤ (4294967295 : Int); omega)
  have w2 : IntKind.u32.wrap (u % 10000 / 100) = u % 10000 / 100 := qAN .u32 _ (by show (0 : Int) ≤ _; omega) (by show _ ≤ (4294967295 : Int); omega)
  have w3 : IntKind.u32.wrap (u % 10000 / 100 * 2) = u % 10000 / 100 * 2 := qAN .u32 _ (by show (0 : Int) ≤ _; omega) (by show _ ≤ (4294967295 : Int); omega)
  have w4 : IntKind.u32.wrap (u % 10000 / 100 * 2 + 1) = u % 10000 / 100 * 2 + 1 := qAN .u32 _ (by show (0 : Int) ≤ _; omega) (by show _ ≤ (4294967295 : Int); omega)
  have w5 : IntKind.u32.wrap (u % 10000 % 100 * 2) = u % 10000 % 100 * 2 := qAN .u32 _ (by show (0 : Int) ≤ _; omega) (by show _ ≤ (4294967295 : Int); omega)
  have w6 : IntKind.u32.wrap (u % 10000 % 100 * 2 + 1) = u % 10000 % 100 * 2 + 1 := qAN .u32 _ (by show (0 : Int) ≤ _; omega) (by show _ ≤ (4294967295 : Int); omega)
  have v1 : IntKind.i64.wrap ((i : Int) - 1) = ((i - 1 : Nat) : Int) := by rw [qAF _ (by omega) (by omega)]; omega
  have l1 : i - 1 < N := by omega
  have n1 : ((i - 1 : Nat) : Int).toNat = i - 1 := Int.toNat_natCast _
  have g1 : (0 : Int) ≤ ((i - 1 : Nat) : Int) := by omega
  have b1 : 1 + (i - 1) + 1 ≤ 24 := by omega
  have v2 : IntKind.i64.wrap ((i : Int) - 2) = ((i - 2 : Nat) : Int) := by rw [qAF _ (by omega) (by omega)]; omega
  have l2 : i - 2 < N := by omega
  have n2 : ((i - 2 : Nat) : Int).toNat = i - 2 := Int.toNat_natCast _
  have g2 : (0 : Int) ≤ ((i - 2 : Nat) : Int) := by omega
  have b2 : 1 + (i - 2) + 1 ≤ 24 := by omega
  have v3 : IntKind.i64.wrap ((i : Int) - 3) = ((i - 3 : Nat) : Int) := by rw [qAF _ (by omega) (by omega)]; omega
  have l3 : i - 3 < N := by omega
  have n3 : ((i - 3 : Nat) : Int).toNat = i - 3 := Int.toNat_natCast _
  have g3 : (0 : Int) ≤ ((i - 3 : Nat) : Int) := by omega
  have b3 : 1 + (i - 3) + 1 ≤ 24 := by omega
  have v4 : IntKind.i64.wrap ((i : Int) - 4) = ((i - 4 : Nat) : Int) := by rw [qAF _ (by omega) (by omega)]; omega
  have l4 : i - 4 < N := by omega
  have n4 : ((i - 4 : Nat) : Int).toNat = i - 4 := Int.toNat_natCast _
  have g4 : (0 : Int) ≤ ((i - 4 : Nat) : Int) := by omega
  have b4 : 1 + (i - 4) + 1 ≤ 24 := by omega
  have P1 : put1 cs (1 + (i - 1)) [dig (u % 10000 % 100)] = (cs.set i (dig (u))) := by
   rw [qAa _ _ _ (by omega), show 1 + (i - 1) = i by omega, qBN (show (u % 10000 % 100) % 10 = (u) % 10 by omega)]
  have P2 : put1 (cs.set i (dig (u))) (1 + (i - 2)) [dig (u % 10000 % 100 / 10)] = ((cs.set i (dig (u))).set (i - 1) (dig (u / 10))) := by
   rw [qAa _ _ _ (by simp only [List.length_set]; omega), show 1 + (i - 2) = (i - 1) by omega, qBN (show (u % 10000 % 100 / 10) % 10 = (u / 10) % 10 by omega)]
  have P3 : put1 ((cs.set i (dig (u))).set (i - 1) (dig (u / 10))) (1 + (i - 3)) [dig (u % 10000 / 100)] = (((cs.set i (dig (u))).set (i - 1) (dig (u / 10))).set (i - 2) (dig (u / 10 / 10))) := by
   rw [qAa _ _ _ (by simp only [List.length_set]; omega), show 1 + (i - 3) = (i - 2) by omega, qBN (show (u % 10000 / 100) % 10 = (u / 10 / 10) % 10 by omega)]
  have P4 : put1 (((cs.set i (dig (u))).set (i - 1) (dig (u / 10))).set (i - 2) (dig (u / 10 / 10))) (1 + (i - 4)) [dig (u % 10000 / 100 / 10)] = ((((cs.set i (dig (u))).set (i - 1) (dig (u / 10))).set (i - 2) (dig (u / 10 / 10))).set (i - 3) (dig (u / 10 / 10 / 10))) := by
   rw [qAa _ _ _ (by simp only [List.length_set]; omega), show 1 + (i - 4) = (i - 3) by omega, qBN (show (u % 10000 / 100 / 10) % 10 = (u / 10 / 10 / 10) % 10 by omega)]
  have q1 : (h.put (.im 0) (.cells (cs.set i (dig (u))) 0)).get (.im 0) = some (.cells (cs.set i (dig (u))) 0) := qAO h 0 _ _ (by rw [hg]; rfl)
  have q2 : ((h.put (.im 0) (.cells (cs.set i (dig (u))) 0)).put (.im 0) (.cells ((cs.set i (dig (u))).set (i - 1) (dig (u / 10))) 0)).get (.im 0) = some (.cells ((cs.set i (dig (u))).set (i - 1) (dig (u / 10))) 0) := qAO (h.put (.im 0) (.cells (cs.set i (dig (u))) 0)) 0 _ _ (by rw [q1]; rfl)
  have q3 : (((h.put (.im 0) (.cells (cs.set i (dig (u))) 0)).put (.im 0) (.cells ((cs.set i (dig (u))).set (i - 1) (dig (u / 10))) 0)).put (.im 0) (.cells (((cs.set i (dig (u))).set (i - 1) (dig (u / 10))).set (i - 2) (dig (u / 10 / 10))) 0)).get (.im 0) = some (.cells (((cs.set i (dig (u))).set (i - 1) (dig (u / 10))).set (i - 2) (dig (u / 10 / 10))) 0) := qAO ((h.put (.im 0) (.cells (cs.set i (dig (u))) 0)).put (.im 0) (.cells ((cs.set i (dig (u))).set (i - 1) (dig (u / 10))) 0)) 0 _ _ (by rw [q2]; rfl)
  have q4 : ((((h.put (.im 0) (.cells (cs.set i (dig (u))) 0)).put (.im 0) (.cells ((cs.set i (dig (u))).set (i - 1) (dig (u / 10))) 0)).put (.im 0) (.cells (((cs.set i (dig (u))).set (i - 1) (dig (u / 10))).set (i - 2) (dig (u / 10 / 10))) 0)).put (.im 0) (.cells ((((cs.set i (dig (u))).set (i - 1) (dig (u / 10))).set (i - 2) (dig (u / 10 / 10))).set (i - 3) (dig (u / 10 / 10 / 10))) 0)).get (.im 0) = some (.cells ((((cs.set i (dig (u))).set (i - 1) (dig (u / 10))).set (i - 2) (dig (u / 10 / 10))).set (i - 3) (dig (u / 10 / 10 / 10))) 0) := qAO (((h.put (.im 0) (.cells (cs.set i (dig (u))) 0)).put (.im 0) (.cells ((cs.set i (dig (u))).set (i - 1) (dig (u / 10))) 0)).put (.im 0) (.cells (((cs.set i (dig (u))).set (i - 1) (dig (u / 10))).set (i - 2) (dig (u / 10 / 10))) 0)) 0 _ _ (by rw [q3]; rfl)
  simp (maxSteps := 9999999) +contextual only [exa, ne_eq, not_false_eq_true, reduceAdd, reduceMul, reduceLT, reduceLeDiff, reduceEqDiff, Int.reduceLT, Int.reduceLE, Int.reduceEq, Int.reduceToNat, a, w0, qBC 0 .u32 u 10000 (by decide), qBO 0 .u32 u 10000 (by decide), qBC 0 .u32 (u % 10000) 100 (by decide), qBO 0 .u32 (u % 10000) 100 (by decide), e1, e2, e3, e4, w1, w2, w3, w4, w5, w6, v1, v2, v3, v4, qBs .u32 (u % 10000 % 100) (by omega) (by omega), qBo .u32 (u % 10000 % 100) (by omega) (by omega), qBs .u32 (u % 10000 / 100) (by omega) (by omega), qBo .u32 (u % 10000 / 100) (by omega) (by omega), l1, l2, l3, l4, n1, n2, n3, n4, g1, g2, g3, g4, hg, hl, List.length_set, Nat.mul_one, Nat.zero_le, P1, P2, P3, P4, b1, b2, b3, b4, q1, q2, q3]
  have r : wr cs i u i = wr ((((cs.set i (dig (u))).set (i - 1) (dig (u / 10))).set (i - 2) (dig (u / 10 / 10))).set (i - 3) (dig (u / 10 / 10 / 10))) (i - 4) (u / 10000) (i - 4) := by
   obtain ⟨m, rfl⟩ : ∃ m, i = m + 4 := ⟨i - 4, by omega⟩
   rw [wr, wr, wr, wr]
   have : u / 10 / 10 / 10 / 10 = u / 10000 := by omega
   rw [this]
   rfl
  rw [r]
  refine fb3 N (i - 4) (u / 10000) _ _ (qAV (qAV (qAV (qAV hp _ _) _ _) _ _) _ _) (by simp only [List.length_set]; exact hl) q4 (by omega) (by omega) hN (by omega) ?_
  have hi' : i = 4 ∨ i = 5 ∨ i = 6 ∨ i = 7 := by omega
  rcases hi' with rfl | rfl | rfl | rfl
  ·simp at h1 ⊢; omega
  ·simp at h1 ⊢; omega
  ·simp at h1 ⊢; omega
  ·simp at h1 ⊢; omega
 ·have a : (i : Int) < 4 := by omega
  simp (maxSteps := 9999999) +contextual only [exa, ne_eq, not_false_eq_true, reduceAdd, reduceMul, reduceLT, reduceLeDiff, reduceEqDiff, Int.reduceLT, Int.reduceLE, Int.reduceEq, Int.reduceToNat, a, w0]
  exact fb3 N i u cs h hp hl hg (by omega) hiN hN h0 h1
open Go Go.AI
set_option maxHeartbeats 4000000 in
theorem fb1 (N : Nat) (hN : N ≤ 23) : ∀ (m i : Nat), i < m → ∀ (u : Int) (cs : List Cell) (h : Heap), plainC cs → cs.length = 24 → h.get (.im 0) = some (.cells cs 0) → i ≤ N → 0 ≤ u → u < 18446744073709551616 → u < 10 ^ i →
  lim tab.get S 90 1 1 [bufP N, kN .u64 u, kI (i : Int)] h = some (.tup [], [.cells (wr cs i u i) 0]) := by
 intro m
 induction m with
 | zero => intro i h; omega
 | succ m ih =>
 intro i him u cs h hp hl hg hiN h0 hu h1
 rw [w90_1, b90_1]
 by_cases h2 : 8 ≤ i
 ·have a : ¬ (i : Int) < 8 := by omega
  have e1 : u.tmod 100000000 = u % 100000000 := Int.tmod_eq_emod_of_nonneg h0
  have e2 : u.tdiv 100000000 = u / 100000000 := Int.tdiv_eq_ediv_of_nonneg h0
  have e3 : (u % 100000000).tdiv 10000 = u % 100000000 / 10000 := Int.tdiv_eq_ediv_of_nonneg (by omega)
  have e4 : (u % 100000000).tmod 10000 = u % 100000000 % 10000 := Int.tmod_eq_emod_of_nonneg (by omega)
  have e5 : (u % 100000000 % 10000).tdiv 100 = u % 100000000 % 10000 / 100 := Int.tdiv_eq_ediv_of_nonneg (by omega)
  have e6 : (u % 100000000 % 10000).tmod 100 = u % 100000000 % 10000 % 100 := Int.tmod_eq_emod_of_nonneg (by omega)
  have e7 : (u % 100000000 / 10000).tdiv 100 = u % 100000000 / 10000 / 100 := Int.tdiv_eq_ediv_of_nonneg (by omega)
  have e8 : (u % 100000000 / 10000).tmod 100 = u % 100000000 / 10000 % 100 := Int.tmod_eq_emod_of_nonneg (by omega)
  have w0 : IntKind.u64.wrap (u / 100000000) = u / 100000000 := qCS _ (by omega) (by omega)
  have w1 : IntKind.u32.wrap (u % 100000000) = u % 100000000 := qAN .u32 _ (by show (0 : Int) ≤ _; omega) (by show _ ≤ (4294967295 : Int); omega)
  have w2 : IntKind.u32.wrap (u % 100000000 / 10000) = u % 100000000 / 10000 := qAN .u32 _ (by show (0 : Int) ≤ _; omega) (by show _ ≤ (4294967295 : Int); omega)
  have w3 : IntKind.u32.wrap (u % 100000000 % 10000 / 100) = u % 100000000 % 10000 / 100 := qAN .u32 _ (by show (0 : Int) ≤ _; omega) (by show _ ≤ (4294967295 : Int); omega)
  have w4 : IntKind.u32.wrap (u % 100000000 / 10000 / 100) = u % 100000000 / 10000 / 100 := qAN .u32 _ (by show (0 : Int) ≤ _; omega) (by show _ ≤ (4294967295 : Int); omega)
  have w5 : IntKind.u32.wrap (u % 100000000 % 10000 % 100 * 2) = u % 100000000 % 10000 % 100 * 2 := qAN .u32 _ (by show (0 : Int) ≤ _; omega) (by show _ ≤ (4294967295 : Int); omega)
  have w6 : IntKind.u32.wrap (u % 100000000 % 10000 % 100 * 2 + 1) = u % 100000000 % 10000 % 100 * 2 + 1 := qAN .u32 _ (by show (0 : Int) ≤ _; omega) (by show _ ≤ (4294967295 : Int); omega)
  have w7 : IntKind.u32.wrap (u % 100000000 % 10000 / 100 * 2) = u % 100000000 % 10000 / 100 * 2 := qAN .u32 _ (by show (0 : Int) ≤ _; omega) (by show _ ≤ (4294967295 : Int); omega)
  have w8 : IntKind.u32.wrap (u % 100000000 % 10000 / 100 * 2 + 1) = u % 100000000 % 10000 / 100 * 2 + 1 := qAN .u32 _ (by show (0 : Int) ≤ _; omega) (by show _ ≤ (4294967295 : Int); omega)
  have w9 : IntKind.u32.wrap (u % 100000000 / 10000 % 100 * 2) = u % 100000000 / 10000 % 100 * 2 := qAN .u32 _ (by show (0 : Int) ≤ _; omega) (by show _ ≤ (4294967295 : Int); omega)
  have w10 : IntKind.u32.wrap (u % 100000000 / 10000 % 100 * 2 + 1) = u % 100000000 / 10000 % 100 * 2 + 1 := qAN .u32 _ (by show (0 : Int) ≤ _; omega) (by show _ ≤ (4294967295 : Int); omega)
  have w11 : IntKind.u32.wrap (u % 100000000 / 10000 / 100 * 2) = u % 100000000 / 10000 / 100 * 2 := qAN .u32 _ (by show (0 : Int) ≤ _; omega) (by show _ ≤ (4294967295 : Int); omega)
  have w12 : IntKind.u32.wrap (u % 100000000 / 10000 / 100 * 2 + 1) = u % 100000000 / 10000 / 100 * 2 + 1 := qAN .u32 _ (by show (0 : Int) ≤ _; omega) (by show _ ≤ (4294967295 : Int); omega)
  have v1 : IntKind.i64.wrap ((i : Int) - 1) = ((i - 1 : Nat) : Int) := by rw [qAF _ (by omega) (by omega)]; omega
  have l1 : i - 1 < N := by omega
  have n1 : ((i - 1 : Nat) : Int).toNat = i - 1 := Int.toNat_natCast _
  have g1 : (0 : Int) ≤ ((i - 1 : Nat) : Int) := by omega
  have b1 : 1 + (i - 1) + 1 ≤ 24 := by omega
  have v2 : IntKind.i64.wrap ((i : Int) - 2) = ((i - 2 : Nat) : Int) := by rw [qAF _ (by omega) (by omega)]; omega
  have l2 : i - 2 < N := by omega
  have n2 : ((i - 2 : Nat) : Int).toNat = i - 2 := Int.toNat_natCast _
  have g2 : (0 : Int) ≤ ((i - 2 : Nat) : Int) := by omega
  have b2 : 1 + (i - 2) + 1 ≤ 24 := by omega
  have v3 : IntKind.i64.wrap ((i : Int) - 3) = ((i - 3 : Nat) : Int) := by rw [qAF _ (by omega) (by omega)]; omega
  have l3 : i - 3 < N := by omega
  have n3 : ((i - 3 : Nat) : Int).toNat = i - 3 := Int.toNat_natCast _
  have g3 : (0 : Int) ≤ ((i - 3 : Nat) : Int) := by omega
  have b3 : 1 + (i - 3) + 1 ≤ 24 := by omega
  have v4 : IntKind.i64.wrap ((i : Int) - 4) = ((i - 4 : Nat) : Int) := by rw [qAF _ (by omega) (by omega)]; omega
  have l4 : i - 4 < N := by omega
  have n4 : ((i - 4 : Nat) : Int).toNat = i - 4 := Int.toNat_natCast _
  have g4 : (0 : Int) ≤ ((i - 4 : Nat) : Int) := by omega
  have b4 : 1 + (i - 4) + 1 ≤ 24 := by omega
  have v5 : IntKind.i64.wrap ((i : Int) - 5) = ((i - 5 : Nat) : Int) := by rw [qAF _ (by omega) (by omega)]; omega
  have l5 : i - 5 < N := by omega
  have n5 : ((i - 5 : Nat) : Int).toNat = i - 5 := Int.toNat_natCast _
  have g5 : (0 : Int) ≤ ((i - 5 : Nat) : Int) := by omega
  have b5 : 1 + (i - 5) + 1 ≤ 24 := by omega
  have v6 : IntKind.i64.wrap ((i : Int) - 6) = ((i - 6 : Nat) : Int) := by rw [qAF _ (by omega) (by omega)]; omega
  have l6 : i - 6 < N := by omega
  have n6 : ((i - 6 : Nat) : Int).toNat = i - 6 := Int.toNat_natCast _
  have g6 : (0 : Int) ≤ ((i - 6 : Nat) : Int) := by omega
  have b6 : 1 + (i - 6) + 1 ≤ 24 := by omega
  have v7 : IntKind.i64.wrap ((i : Int) - 7) = ((i - 7 : Nat) : Int) := by rw [qAF _ (by omega) (by omega)]; omega
  have l7 : i - 7 < N := by omega
  have n7 : ((i - 7 : Nat) : Int).toNat = i - 7 := Int.toNat_natCast _
  have g7 : (0 : Int) ≤ ((i - 7 : Nat) : Int) := by omega
  have b7 : 1 + (i - 7) + 1 ≤ 24 := by omega
  have v8 : IntKind.i64.wrap ((i : Int) - 8) = ((i - 8 : Nat) : Int) := by rw [qAF _ (by omega) (by omega)]; omega
  have l8 : i - 8 < N := by omega
  have n8 : ((i - 8 : Nat) : Int).toNat = i - 8 := Int.toNat_natCast _
  have g8 : (0 : Int) ≤ ((i - 8 : Nat) : Int) := by omega
  have b8 : 1 + (i - 8) + 1 ≤ 24 := by omega
  have P1 : put1 cs (1 + (i - 1)) [dig (u % 100000000 % 10000 % 100)] = (cs.set i (dig (u))) := by
   rw [qAa _ _ _ (by omega), show 1 + (i - 1) = i by omega, qBN (show (u % 100000000 % 10000 % 100) % 10 = (u) % 10 by omega)]
  have P2 : put1 (cs.set i (dig (u))) (1 + (i - 2)) [dig (u % 100000000 % 10000 % 100 / 10)] = ((cs.set i (dig (u))).set (i - 1) (dig (u / 10))) := by
   rw [qAa _ _ _ (by simp only [List.length_set]; omega), show 1 + (i - 2) = (i - 1) by omega, qBN (show (u % 100000000 % 10000 % 100 / 10) % 10 = (u / 10) % 10 by omega)]
  have P3 : put1 ((cs.set i (dig (u))).set (i - 1) (dig (u / 10))) (1 + (i - 3)) [dig (u % 100000000 % 10000 / 100)] = (((cs.set i (dig (u))).set (i - 1) (dig (u / 10))).set (i - 2) (dig (u / 10 / 10))) := by
   rw [qAa _ _ _ (by simp only [List.length_set]; omega), show 1 + (i - 3) = (i - 2) by omega, qBN (show (u % 100000000 % 10000 / 100) % 10 = (u / 10 / 10) % 10 by omega)]
  have P4 : put1 (((cs.set i (dig (u))).set (i - 1) (dig (u / 10))).set (i - 2) (dig (u / 10 / 10))) (1 + (i - 4)) [dig (u % 100000000 % 10000 / 100 / 10)] = ((((cs.set i (dig (u))).set (i - 1) (dig (u / 10))).set (i - 2) (dig (u / 10 / 10))).set (i - 3) (dig (u / 10 / 10 / 10))) := by
   rw [qAa _ _ _ (by simp only [List.length_set]; omega), show 1 + (i - 4) = (i - 3) by omega, qBN (show (u % 100000000 % 10000 / 100 / 10) % 10 = (u / 10 / 10 / 10) % 10 by omega)]
  have P5 : put1 ((((cs.set i (dig (u))).set (i - 1) (dig (u / 10))).set (i - 2) (dig (u / 10 / 10))).set (i - 3) (dig (u / 10 / 10 / 10))) (1 + (i - 5)) [dig (u % 100000000 / 10000 % 100)] = (((((cs.set i (dig (u))).set (i - 1) (dig (u / 10))).set (i - 2) (dig (u / 10 / 10))).set (i - 3) (dig (u / 10 / 10 / 10))).set (i - 4) (dig (u / 10 / 10 / 10 / 10))) := by
   rw [qAa _ _ _ (by simp only [List.length_set]; omega), show 1 + (i - 5) = (i - 4) by omega, qBN (show (u % 100000000 / 10000 % 100) % 10 = (u / 10 / 10 / 10 / 10) % 10 by omega)]
  have P6 : put1 (((((cs.set i (dig (u))).set (i - 1) (dig (u / 10))).set (i - 2) (dig (u / 10 / 10))).set (i - 3) (dig (u / 10 / 10 / 10))).set (i - 4) (dig (u / 10 / 10 / 10 / 10))) (1 + (i - 6)) [dig (u % 100000000 / 10000 % 100 / 10)] = ((((((cs.set i (dig (u))).set (i - 1) (dig (u / 10))).set (i - 2) (dig (u / 10 / 10))).set (i - 3) (dig (u / 10 / 10 / 10))).set (i - 4) (dig (u / 10 / 10 / 10 / 10))).set (i - 5) (dig (u / 10 / 10 / 10 / 10 / 10))) := by
   rw [qAa _ _ _ (by simp only [List.length_set]; omega), show 1 + (i - 6) = (i - 5) by omega, qBN (show (u % 100000000 / 10000 % 100 / 10) % 10 = (u / 10 / 10 / 10 / 10 / 10) % 10 by omega)]
  have P7 : put1 ((((((cs.set i (dig (u))).set (i - 1) (dig (u / 10))).set (i - 2) (dig (u / 10 / 10))).set (i - 3) (dig (u / 10 / 10 / 10))).set (i - 4) (dig (u / 10 / 10 / 10 / 10))).set (i - 5) (dig (u / 10 / 10 / 10 / 10 / 10))) (1 + (i - 7)) [dig (u % 100000000 / 10000 / 100)] = (((((((cs.set i (dig (u))).set (i - 1) (dig (u / 10))).set (i - 2) (dig (u / 10 / 10))).set (i - 3) (dig (u / 10 / 10 / 10))).set (i - 4) (dig (u / 10 / 10 / 10 / 10))).set (i - 5) (dig (u / 10 / 10 / 10 / 10 / 10))).set (i - 6) (dig (u / 10 / 10 / 10 / 10 / 10 / 10))) := by
   rw [qAa _ _ _ (by simp only [List.length_set]; omega), show 1 + (i - 7) = (i - 6) by omega, qBN (show (u % 100000000 / 10000 / 100) % 10 = (u / 10 / 10 / 10 / 10 / 10 / 10) % 10 by omega)]
  have P8 : put1 (((((((cs.set i (dig (u))).set (i - 1) (dig (u / 10))).set (i - 2) (dig (u / 10 / 10))).set (i - 3) (dig (u / 10 / 10 / 10))).set (i - 4) (dig (u / 10 / 10 / 10 / 10))).set (i - 5) (dig (u / 10 / 10 / 10 / 10 / 10))).set (i - 6) (dig (u / 10 / 10 / 10 / 10 / 10 / 10))) (1 + (i - 8)) [dig (u % 100000000 / 10000 / 100 / 10)] = ((((((((cs.set i (dig (u))).set (i - 1) (dig (u / 10))).set (i - 2) (dig (u / 10 / 10))).set (i - 3) (dig (u / 10 / 10 / 10))).set (i - 4) (dig (u / 10 / 10 / 10 / 10))).set (i - 5) (dig (u / 10 / 10 / 10 / 10 / 10))).set (i - 6) (dig (u / 10 / 10 / 10 / 10 / 10 / 10))).set (i - 7) (dig (u / 10 / 10 / 10 / 10 / 10 / 10 / 10))) := by
   rw [qAa _ _ _ (by simp only [List.length_set]; omega), show 1 + (i - 8) = (i - 7) by omega, qBN (show (u % 100000000 / 10000 / 100 / 10) % 10 = (u / 10 / 10 / 10 / 10 / 10 / 10 / 10) % 10 by omega)]
  have q1 : (h.put (.im 0) (.cells (cs.set i (dig (u))) 0)).get (.im 0) = some (.cells (cs.set i (dig (u))) 0) := qAO h 0 _ _ (by rw [hg]; rfl)
  have q2 : ((h.put (.im 0) (.cells (cs.set i (dig (u))) 0)).put (.im 0) (.cells ((cs.set i (dig (u))).set (i - 1) (dig (u / 10))) 0)).get (.im 0) = some (.cells ((cs.set i (dig (u))).set (i - 1) (dig (u / 10))) 0) := qAO (h.put (.im 0) (.cells (cs.set i (dig (u))) 0)) 0 _ _ (by rw [q1]; rfl)
  have q3 : (((h.put (.im 0) (.cells (cs.set i (dig (u))) 0)).put (.im 0) (.cells ((cs.set i (dig (u))).set (i - 1) (dig (u / 10))) 0)).put (.im 0) (.cells (((cs.set i (dig (u))).set (i - 1) (dig (u / 10))).set (i - 2) (dig (u / 10 / 10))) 0)).get (.im 0) = some (.cells (((cs.set i (dig (u))).set (i - 1) (dig (u / 10))).set (i - 2) (dig (u / 10 / 10))) 0) := qAO ((h.put (.im 0) (.cells (cs.set i (dig (u))) 0)).put (.im 0) (.cells ((cs.set i (dig (u))).set (i - 1) (dig (u / 10))) 0)) 0 _ _ (by rw [q2]; rfl)
  have q4 : ((((h.put (.im 0) (.cells (cs.set i (dig (u))) 0)).put (.im 0) (.cells ((cs.set i (dig (u))).set (i - 1) (dig (u / 10))) 0)).put (.im 0) (.cells (((cs.set i (dig (u))).set (i - 1) (dig (u / 10))).set (i - 2) (dig (u / 10 / 10))) 0)).put (.im 0) (.cells ((((cs.set i (dig (u))).set (i - 1) (dig (u / 10))).set (i - 2) (dig (u / 10 / 10))).set (i - 3) (dig (u / 10 / 10 / 10))) 0)).get (.im 0) = some (.cells ((((cs.set i (dig (u))).set (i - 1) (dig (u / 10))).set (i - 2) (dig (u / 10 / 10))).set (i - 3) (dig (u / 10 / 10 / 10))) 0) := qAO (((h.put (.im 0) (.cells (cs.set i (dig (u))) 0)).put (.im 0) (.cells ((cs.set i (dig (u))).set (i - 1) (dig (u / 10))) 0)).put (.im 0) (.cells (((cs.set i (dig (u))).set (i - 1) (dig (u / 10))).set (i - 2) (dig (u / 10 / 10))) 0)) 0 _ _ (by rw [q3]; rfl)
  have q5 : (((((h.put (.im 0) (.cells (cs.set i (dig (u))) 0)).put (.im 0) (.cells ((cs.set i (dig (u))).set (i - 1) (dig (u / 10))) 0)).put (.im 0) (.cells (((cs.set i (dig (u))).set (i - 1) (dig (u / 10))).set (i - 2) (dig (u / 10 / 10))) 0)).put (.im 0) (.cells ((((cs.set i (dig (u))).set (i - 1) (dig (u / 10))).set (i - 2) (dig (u / 10 / 10))).set (i - 3) (dig (u / 10 / 10 / 10))) 0)).put (.im 0) (.cells (((((cs.set i (dig (u))).set (i - 1) (dig (u / 10))).set (i - 2) (dig (u / 10 / 10))).set (i - 3) (dig (u / 10 / 10 / 10))).set (i - 4) (dig (u / 10 / 10 / 10 / 10))) 0)).get (.im 0) = some (.cells (((((cs.set i (dig (u))).set (i - 1) (dig (u / 10))).set (i - 2) (dig (u / 10 / 10))).set (i - 3) (dig (u / 10 / 10 / 10))).set (i - 4) (dig (u / 10 / 10 / 10 / 10))) 0) := qAO ((((h.put (.im 0) (.cells (cs.set i (dig (u))) 0)).put (.im 0) (.cells ((cs.set i (dig (u))).set (i - 1) (dig (u / 10))) 0)).put (.im 0) (.cells (((cs.set i (dig (u))).set (i - 1) (dig (u / 10))).set (i - 2) (dig (u / 10 / 10))) 0)).put (.im 0) (.cells ((((cs.set i (dig (u))).set (i - 1) (dig (u / 10))).set (i - 2) (dig (u / 10 / 10))).set (i - 3) (dig (u / 10 / 10 / 10))) 0)) 0 _ _ (by rw [q4]; rfl)
  have q6 : ((((((h.put (.im 0) (.cells (cs.set i (dig (u))) 0)).put (.im 0) (.cells ((cs.set i (dig (u))).set (i - 1) (dig (u / 10))) 0)).put (.im 0) (.cells (((cs.set i (dig (u))).set (i - 1) (dig (u / 10))).set (i - 2) (dig (u / 10 / 10))) 0)).put (.im 0) (.cells ((((cs.set i (dig (u))).set (i - 1) (dig (u / 10))).set (i - 2) (dig (u / 10 / 10))).set (i - 3) (dig (u / 10 / 10 / 10))) 0)).put (.im 0) (.cells (((((cs.set i (dig (u))).set (i - 1) (dig (u / 10))).set (i - 2) (dig (u / 10 / 10))).set (i - 3) (dig (u / 10 / 10 / 10))).set (i - 4) (dig (u / 10 / 10 / 10 / 10))) 0)).put (.im 0) (.cells ((((((cs.set i (dig (u))).set (i - 1) (dig (u / 10))).set (i - 2) (dig (u / 10 / 10))).set (i - 3) (dig (u / 10 / 10 / 10))).set (i - 4) (dig (u / 10 / 10 / 10 / 10))).set (i - 5) (dig (u / 10 / 10 / 10 / 10 / 10))) 0)).get (.im 0) = some (.cells ((((((cs.set i (dig (u))).set (i - 1) (dig (u / 10))).set (i - 2) (dig (u / 10 / 10))).set (i - 3) (dig (u / 10 / 10 / 10))).set (i - 4) (dig (u / 10 / 10 / 10 / 10))).set (i - 5) (dig (u / 10 / 10 / 10 / 10 / 10))) 0) := qAO (((((h.put (.im 0) (.cells (cs.set i (dig (u))) 0)).put (.im 0) (.cells ((cs.set i (dig (u))).set (i - 1) (dig (u / 10))) 0)).put (.im 0) (.cells (((cs.set i (dig (u))).set (i - 1) (dig (u / 10))).set (i - 2) (dig (u / 10 / 10))) 0)).put (.im 0) (.cells ((((cs.set i (dig (u))).set (i - 1) (dig (u / 10))).set (i - 2) (dig (u / 10 / 10))).set (i - 3) (dig (u / 10 / 10 / 10))) 0)).put (.im 0) (.cells (((((cs.set i (dig (u))).set (i - 1) (dig (u / 10))).set (i - 2) (dig (u / 10 / 10))).set (i - 3) (dig (u / 10 / 10 / 10))).set (i - 4) (dig (u / 10 / 10 / 10 / 10))) 0)) 0 _ _ (by rw [q5]; rfl)
  have q7 : (((((((h.put (.im 0) (.cells (cs.set i (dig (u))) 0)).put (.im 0) (.cells ((cs.set i (dig (u))).set (i - 1) (dig (u / 10))) 0)).put (.im 0) (.cells (((cs.set i (dig (u))).set (i - 1) (dig (u / 10))).set (i - 2) (dig (u / 10 / 10))) 0)).put (.im 0) (.cells ((((cs.set i (dig (u))).set (i - 1) (dig (u / 10))).set (i - 2) (dig (u / 10 / 10))).set (i - 3) (dig (u / 10 / 10 / 10))) 0)).put (.im 0) (.cells (((((cs.set i (dig (u))).set (i - 1) (dig (u / 10))).set (i - 2) (dig (u / 10 / 10))).set (i - 3) (dig (u / 10 / 10 / 10))).set (i - 4) (dig (u / 10 / 10 / 10 / 10))) 0)).put (.im 0) (.cells ((((((cs.set i (dig (u))).set (i - 1) (dig (u / 10))).set (i - 2) (dig (u / 10 / 10))).set (i - 3) (dig (u / 10 / 10 / 10))).set (i - 4) (dig (u / 10 / 10 / 10 / 10))).set (i - 5) (dig (u / 10 / 10 / 10 / 10 / 10))) 0)).put (.im 0) (.cells (((((((cs.set i (dig (u))).set (i - 1) (dig (u / 10))).set (i - 2) (dig (u / 10 / 10))).set (i - 3) (dig (u / 10 / 10 / 10))).set (i - 4) (dig (u / 10 / 10 / 10 / 10))).set (i - 5) (dig (u / 10 / 10 / 10 / 10 / 10))).set (i - 6) (dig (u / 10 / 10 / 10 / 10 / 10 / 10))) 0)).get (.im 0) = some (.cells (((((((cs.set i (dig (u))).set (i - 1) (dig (u / 10))).set (i - 2) (dig (u / 10 / 10))).set (i - 3) (dig (u / 10 / 10 / 10))).set (i - 4) (dig (u / 10 / 10 / 10 / 10))).set (i - 5) (dig (u / 10 / 10 / 10 / 10 / 10))).set (i - 6) (dig (u / 10 / 10 / 10 / 10 / 10 / 10))) 0) := qAO ((((((h.put (.im 0) (.cells (cs.set i (dig (u))) 0)).put (.im 0) (.cells ((cs.set i (dig (u))).set (i - 1) (dig (u / 10))) 0)).put (.im 0) (.cells (((cs.set i (dig (u))).set (i - 1) (dig (u / 10))).set (i - 2) (dig (u / 10 / 10))) 0)).put (.im 0) (.cells ((((cs.set i (dig (u))).set (i - 1) (dig (u / 10))).set (i - 2) (dig (u / 10 / 10))).set (i - 3) (dig (u / 10 / 10 / 10))) 0)).put (.im 0) (.cells (((((cs.set i (dig (u))).set (i - 1) (dig (u / 10))).set (i - 2) (dig (u / 10 / 10))).set (i - 3) (dig (u / 10 / 10 / 10))).set (i - 4) (dig (u / 10 / 10 / 10 / 10))) 0)).put (.im 0) (.cells ((((((cs.set i (dig (u))).set (i - 1) (dig (u / 10))).set (i - 2) (dig (u / 10 / 10))).set (i - 3) (dig (u / 10 / 10 / 10))).set (i - 4) (dig (u / 10 / 10 / 10 / 10))).set (i - 5) (dig (u / 10 / 10 / 10 / 10 / 10))) 0)) 0 _ _ (by rw [q6]; rfl)
  have q8 : ((((((((h.put (.im 0) (.cells (cs.set i (dig (u))) 0)).put (.im 0) (.cells ((cs.set i (dig (u))).set (i - 1) (dig (u / 10))) 0)).put (.im 0) (.cells (((cs.set i (dig (u))).set (i - 1) (dig (u / 10))).set (i - 2) (dig (u / 10 / 10))) 0)).put (.im 0) (.cells ((((cs.set i (dig (u))).set (i - 1) (dig (u / 10))).set (i - 2) (dig (u / 10 / 10))).set (i - 3) (dig (u / 10 / 10 / 10))) 0)).put (.im 0) (.cells (((((cs.set i (dig (u))).set (i - 1) (dig (u / 10))).set (i - 2) (dig (u / 10 / 10))).set (i - 3) (dig (u / 10 / 10 / 10))).set (i - 4) (dig (u / 10 / 10 / 10 / 10))) 0)).put (.im 0) (.cells ((((((cs.set i (dig (u))).set (i - 1) (dig (u / 10))).set (i - 2) (dig (u / 10 / 10))).set (i - 3) (dig (u / 10 / 10 / 10))).set (i - 4) (dig (u / 10 / 10 / 10 / 10))).set (i - 5) (dig (u / 10 / 10 / 10 / 10 / 10))) 0)).put (.im 0) (.cells (((((((cs.set i (dig (u))).set (i - 1) (dig (u / 10))).set (i - 2) (dig (u / 10 / 10))).set (i - 3) (dig (u / 10 / 10 / 10))).set (i - 4) (dig (u / 10 / 10 / 10 / 10))).set (i - 5) (dig (u / 10 / 10 / 10 / 10 / 10))).set (i - 6) (dig (u / 10 / 10 / 10 / 10 / 10 / 10))) 0)).put (.im 0) (.cells ((((((((cs.set i (dig (u))).set (i - 1) (dig (u / 10))).set (i - 2) (dig (u / 10 / 10))).set (i - 3) (dig (u / 10 / 10 / 10))).set (i - 4) (dig (u / 10 / 10 / 10 / 10))).set (i - 5) (dig (u / 10 / 10 / 10 / 10 / 10))).set (i - 6) (dig (u / 10 / 10 / 10 / 10 / 10 / 10))).set (i - 7) (dig (u / 10 / 10 / 10 / 10 / 10 / 10 / 10))) 0)).get (.im 0) = some (.cells ((((((((cs.set i (dig (u))).set (i - 1) (dig (u / 10))).set (i - 2) (dig (u / 10 / 10))).set (i - 3) (dig (u / 10 / 10 / 10))).set (i - 4) (dig (u / 10 / 10 / 10 / 10))).set (i - 5) (dig (u / 10 / 10 / 10 / 10 / 10))).set (i - 6) (dig (u / 10 / 10 / 10 / 10 / 10 / 10))).set (i - 7) (dig (u / 10 / 10 / 10 / 10 / 10 / 10 / 10))) 0) := qAO (((((((h.put (.im 0) (.cells (cs.set i (dig (u))) 0)).put (.im 0) (.cells ((cs.set i (dig (u))).set (i - 1) (dig (u / 10))) 0)).put (.im 0) (.cells (((cs.set i (dig (u))).set (i - 1) (dig (u / 10))).set (i - 2) (dig (u / 10 / 10))) 0)).put (.im 0) (.cells ((((cs.set i (dig (u))).set (i - 1) (dig (u / 10))).set (i - 2) (dig (u / 10 / 10))).set (i - 3) (dig (u / 10 / 10 / 10))) 0)).put (.im 0) (.cells (((((cs.set i (dig (u))).set (i - 1) (dig (u / 10))).set (i - 2) (dig (u / 10 / 10))).set (i - 3) (dig (u / 10 / 10 / 10))).set (i - 4) (dig (u / 10 / 10 / 10 / 10))) 0)).put (.im 0) (.cells ((((((cs.set i (dig (u))).set (i - 1) (dig (u / 10))).set (i - 2) (dig (u / 10 / 10))).set (i - 3) (dig (u / 10 / 10 / 10))).set (i - 4) (dig (u / 10 / 10 / 10 / 10))).set (i - 5) (dig (u / 10 / 10 / 10 / 10 / 10))) 0)).put (.im 0) (.cells (((((((cs.set i (dig (u))).set (i - 1) (dig (u / 10))).set (i - 2) (dig (u / 10 / 10))).set (i - 3) (dig (u / 10 / 10 / 10))).set (i - 4) (dig (u / 10 / 10 / 10 / 10))).set (i - 5) (dig (u / 10 / 10 / 10 / 10 / 10))).set (i - 6) (dig (u / 10 / 10 / 10 / 10 / 10 / 10))) 0)) 0 _ _ (by rw [q7]; rfl)
  simp (maxSteps := 9999999) +contextual only [exa, ne_eq, not_false_eq_true, reduceAdd, reduceMul, reduceLT, reduceLeDiff, reduceEqDiff, Int.reduceLT, Int.reduceLE, Int.reduceEq, Int.reduceToNat, a, qBC 0 .u64 u 100000000 (by decide), qBO 0 .u64 u 100000000 (by decide), qBC 0 .u32 (u % 100000000) 10000 (by decide), qBO 0 .u32 (u % 100000000) 10000 (by decide), qBC 0 .u32 (u % 100000000 % 10000) 100 (by decide), qBO 0 .u32 (u % 100000000 % 10000) 100 (by decide), qBC 0 .u32 (u % 100000000 / 10000) 100 (by decide), qBO 0 .u32 (u % 100000000 / 10000) 100 (by decide), e1, e2, e3, e4, e5, e6, e7, e8, w0, w1, w2, w3, w4, w5, w6, w7, w8, w9, w10, w11, w12, v1, v2, v3, v4, v5, v6, v7, v8, qBs .u32 (u % 100000000 % 10000 % 100) (by omega) (by omega), qBo .u32 (u % 100000000 % 10000 % 100) (by omega) (by omega), qBs .u32 (u % 100000000 % 10000 / 100) (by omega) (by omega), qBo .u32 (u % 100000000 % 10000 / 100) (by omega) (by omega), qBs .u32 (u % 100000000 / 10000 % 100) (by omega) (by omega), qBo .u32 (u % 100000000 / 10000 % 100) (by omega) (by omega), qBs .u32 (u % 100000000 / 10000 / 100) (by omega) (by omega), qBo .u32 (u % 100000000 / 10000 / 100) (by omega) (by omega), l1, l2, l3, l4, l5, l6, l7, l8, n1, n2, n3, n4, n5, n6, n7, n8, g1, g2, g3, g4, g5, g6, g7, g8, hg, hl, List.length_set, Nat.mul_one, Nat.zero_le, P1, P2, P3, P4, P5, P6, P7, P8, b1, b2, b3, b4, b5, b6, b7, b8, q1, q2, q3, q4, q5, q6, q7]
  have r : wr cs i u i = wr ((((((((cs.set i (dig (u))).set (i - 1) (dig (u / 10))).set (i - 2) (dig (u / 10 / 10))).set (i - 3) (dig (u / 10 / 10 / 10))).set (i - 4) (dig (u / 10 / 10 / 10 / 10))).set (i - 5) (dig (u / 10 / 10 / 10 / 10 / 10))).set (i - 6) (dig (u / 10 / 10 / 10 / 10 / 10 / 10))).set (i - 7) (dig (u / 10 / 10 / 10 / 10 / 10 / 10 / 10))) (i - 8) (u / 100000000) (i - 8) := by
   obtain ⟨m, rfl⟩ : ∃ m, i = m + 8 := ⟨i - 8, by omega⟩
   rw [wr, wr, wr, wr, wr, wr, wr, wr]
   have : u / 10 / 10 / 10 / 10 / 10 / 10 / 10 / 10 = u / 100000000 := by omega
   rw [this]
   rfl
  rw [r]
  refine ih (i - 8) (by omega) (u / 100000000) _ _ (qAV (qAV (qAV (qAV (qAV (qAV (qAV (qAV (hp) _ _) _ _) _ _) _ _) _ _) _ _) _ _) _ _) (by simp only [List.length_set]; exact hl) q8 (by omega) (by omega) (by omega) ?_
  obtain ⟨m, rfl⟩ : ∃ m, i = m + 8 := ⟨i - 8, by omega⟩
  rw [Int.pow_add, show (10 : Int) ^ 8 = 100000000 by decide] at h1
  rw [Nat.add_sub_cancel]
  generalize (10 : Int) ^ m = y at h1
  omega
 ·have a : (i : Int) < 8 := by omega
  simp (maxSteps := 9999999) +contextual only [exa, ne_eq, not_false_eq_true, reduceAdd, reduceMul, reduceLT, reduceLeDiff, reduceEqDiff, Int.reduceLT, Int.reduceLE, Int.reduceEq, Int.reduceToNat, a]
  exact fb2 N i u cs h hp hl hg (by omega) hiN hN h0 h1
open Go Go.AI
theorem qQP (N : Nat) (u : Int) (cs : List Cell) (hp : plainC cs) (hl : cs.length = 24) (hN : N ≤ 23) (h0 : 0 ≤ u) (hu : u < 18446744073709551616) (h1 : u < 10 ^ N) :
  Om 90 [bufP N, kN .u64 u] [.cells cs 0] = some (.tup [], [.cells (wr cs N u N) 0]) := by
 refine (qAC rfl).trans ?_
 show lim tab.get S 90 1 0 [bufP N, kN .u64 u] { ims := [.cells cs 0], owns := .nil } = _
 rw [w90_0, b90_0]
 simp (maxSteps := 9999999) +contextual only [exa, ne_eq, not_false_eq_true, reduceAdd, reduceMul, reduceLT, reduceLeDiff, reduceEqDiff, Int.reduceLT, Int.reduceLE, Int.reduceEq, Int.reduceToNat, exU]
 exact fb1 N hN (N + 1) N (Nat.lt_succ_self _) u cs _ hp hl rfl (Nat.le_refl _) h0 hu h1
theorem qKT : ∀ (k : Nat) (cs : List Cell) (i : Nat) (u : Int) (j : Nat), k ≤ i → i < cs.length → (wr cs i u k)[j]? = if i < j + k ∧ j ≤ i then some (dig (u / 10 ^ (i - j))) else cs[j]?
 | 0, cs, i, u, j, _, _ => by
  rw [wr, if_neg (by omega)]
 | k + 1, cs, i, u, j, hk, hi => by
  rw [wr, qKT k _ _ _ _ (by omega) (by rw [List.length_set]; omega), List.getElem?_set]
  by_cases h1 : j = i
  ·subst h1
   rw [if_neg (by omega), if_pos rfl, if_pos hi, if_pos ⟨by omega, Nat.le_refl _⟩, Nat.sub_self]
   simp
  ·by_cases h2 : i - 1 < j + k ∧ j ≤ i - 1
   ·rw [if_pos h2, if_pos ⟨by omega, by omega⟩, Int.ediv_ediv_of_nonneg (by decide)]
    rw [show i - j = (i - 1 - j) + 1 by omega, Int.pow_succ, Int.mul_comm]
   ·rw [if_neg h2, if_neg (fun e => h1 e.symm), if_neg (by omega)]
theorem qEv : ∀ (N u : Nat), u < 10 ^ (N + 1) → (10 ^ N ≤ u ∨ N = 0) → Lib.decDigits u = (List.range (N + 1)).map fun j => UInt8.ofNat (48 + u / 10 ^ (N - j) % 10)
 | 0, u, h, _ => by
  have hu : u < 10 := by simpa using h
  rw [Lib.decDigits, dif_pos hu]
  simp [Nat.mod_eq_of_lt hu]
 | N + 1, u, h, h2 => by
  have h3 : 10 ^ (N + 1) ≤ u := by rcases h2 with h2 | h2; exact h2; omega
  have h4 : 10 ≤ u := by
   have : 10 ^ 1 ≤ 10 ^ (N + 1) := Nat.pow_le_pow_right (by decide) (by omega)
   omega
  rw [Lib.decDigits, dif_neg (by omega), qEv N (u / 10) (by rw [Nat.pow_succ] at h; omega) (.inl (by rw [Nat.pow_succ] at h3; omega)), List.range_succ (n := N + 1), List.map_append]
  congr 1
  ·refine List.map_congr_left fun j hj => ?_
   have hj' := List.mem_range.1 hj
   rw [Nat.div_div_eq_div_mul, Nat.mul_comm, ← Nat.pow_succ, show (N - j).succ = N + 1 - j by omega]
  ·simp
open Go Go.AI
theorem qMI (u m : Nat) : dig ((u : Int) / 10 ^ m) = .p (.int .u8 ((UInt8.ofNat (48 + u / 10 ^ m % 10)).toNat : Int)) := by
 unfold dig
 rw [UInt8.toNat_ofNat', Nat.mod_eq_of_lt (by omega)]
 have : ((48 + u / 10 ^ m % 10 : Nat) : Int) = 48 + (u : Int) / 10 ^ m % 10 := by
  rw [Int.natCast_add, Int.natCast_emod, Int.natCast_ediv, Int.natCast_pow]; rfl
 rw [this]
theorem qPd (n u : Nat) (cs : List Cell) (hl : cs.length = 24) (hN : n + 1 ≤ 23) (h1 : u < 10 ^ (n + 1)) (h2 : 10 ^ n ≤ u ∨ n = 0) :
  ((wr cs (n + 1) (u : Int) (n + 1)).drop 1).take (n + 1) = (Lib.decDigits u).map fun b => Cell.p (.int .u8 (b.toNat : Int)) := by
 rw [qEv n u h1 h2, List.map_map]
 refine List.ext_getElem? fun j => ?_
 rw [List.getElem?_take, List.getElem?_map]
 by_cases hj : j < n + 1
 ·rw [if_pos hj, List.getElem?_drop, qKT _ _ _ _ _ (Nat.le_refl _) (by omega), if_pos ⟨by omega, by omega⟩, List.getElem?_range hj]
  show some (dig _) = some _
  rw [show n + 1 - (1 + j) = n - j by omega, qMI]; rfl
 ·rw [if_neg hj]
  rw [List.getElem?_eq_none (by simpa using hj)]; rfl
open Go Go.AI
def isStrR (r : Res1) (x : List UInt8) : Bool := match r with
 | some (.v (.c (.p (.str y))), []) => y == x
 | _ => false
theorem qJc {r : Res1} {x : List UInt8} (h : isStrR r x = true) : r = some (kS x, []) := by
 unfold isStrR at h
 split at h
 ·simp only [beq_iff_eq] at h; subst h; rfl
 ·cases h
def smallL (n : Nat) : List UInt8 := bif Nat.blt n 10 then [UInt8.ofNat (48 + n)] else [UInt8.ofNat (48 + n / 10), UInt8.ofNat (48 + n % 10)]
theorem qJ8 (n : Nat) (hn : n < 100) : smallL n = Lib.decDigits n := by
 unfold smallL
 by_cases h : n < 10
 ·rw [Lib.decDigits, dif_pos h, show Nat.blt n 10 = true from Nat.ble_eq_true_of_le h]; rfl
 ·have : Nat.blt n 10 = false := Bool.eq_false_iff.2 fun e => h (Nat.le_of_ble_eq_true e)
  rw [Lib.decDigits, dif_neg h, Lib.decDigits, dif_pos (by omega), this]
  rfl
theorem qLI : ((List.range 100).all fun n => isStrR (machU blks.get S 500 88 0 0 [kN .i64 (.ofNat n)] h0) (smallL n)) = true := by kernel_rfl
theorem qLb (n : Nat) (hn : n < 100) : Om 88 [kI (n : Int)] [] = some (kS (Lib.decDigits n), []) := by
 refine (qAC rfl).trans ?_
 rw [← qJ8 n hn]
 exact qBA blks_ok 500 88 0 0 _ _ _ (qJc (List.all_eq_true.1 qLI n (List.mem_range.2 hn)))
theorem qK1 (n : Int) (u g : Nat) (h : Heap) (cs : List Cell) (hp : plainC cs) (hl : cs.length = 24) (hg : h.get (.own 5 g) = some (.cells cs 0)) (hu : 1 ≤ u) (hu2 : u < 18446744073709551616) :
  lim tab.get S 56 0 1 [kI n, .v (.c (.ptr (.own 5 g) 0)), kN .u64 (u : Int)] h = some (kS (if n < 0 then 45 :: Lib.decDigits u else Lib.decDigits u), []) := by
 obtain ⟨N, hN, l1, l2, e185⟩ := qKc (u : Int) (by omega) (by omega)
 have l2 : 1 ≤ N ∧ (10 : Int) ^ (N - 1) ≤ u := by rcases l2 with l2 | l2; exact absurd l2 (by omega); exact l2
 obtain ⟨m, rfl⟩ : ∃ m, N = m + 1 := ⟨N - 1, by omega⟩
 have l1' : u < 10 ^ (m + 1) := by
  have : ((u : Nat) : Int) < ((10 ^ (m + 1) : Nat) : Int) := by rw [Int.natCast_pow]; exact l1
  omega
 have l2' : 10 ^ m ≤ u := by
  have : ((10 ^ m : Nat) : Int) ≤ ((u : Nat) : Int) := by rw [Int.natCast_pow]; exact l2.2
  omega
 have hw := qPd m u cs hl (by omega) l1' (.inl l2')
 have hwl : (wr cs (m + 1) (u : Int) (m + 1)).length = 24 := by rw [qJ9, hl]
 have c1 : CAL 89 [kN .u64 (u : Int)] (kI ((m + 1 : Nat) : Int)) := qAG 89 _ _ rfl e185 rfl
 have w1 : IntKind.i64.wrap (1 + ((m + 1 : Nat) : Int)) = ((m + 2 : Nat) : Int) := by rw [qAF _ (by omega) (by omega)]; omega
 have s1 : ∀ {β : Type} {k : TVal → Heap → Option β} {d : Nat}, vop Om (.sliceA 24 1 (.k (.v (.c (.ptr (.own 5 g) 0)))) (some (.k (kI 1))) (some (.k (kI ((m + 2 : Nat) : Int))))) h d k = k (.v (.c (.sref (.own 5 g) 1 (m + 1) (some 23) 1))) h :=
  fun {β k d} => (qGh 24 1 (.own 5 g) 0 1 (m + 2) cs 0 (by omega) (by omega) (by omega) hg (by omega)).trans (by rw [show m + 2 - 1 = m + 1 by omega])
 have e186 := qQP (m + 1) (u : Int) cs hp hl (by omega) (by omega) (by omega) l1
 obtain ⟨xs, hxs⟩ := hp
 obtain ⟨ys, hys⟩ := qGO (m + 1) cs (m + 1) (u : Int) ⟨xs, hxs⟩
 have hin : (TVal.v (.c (.sref (.own 5 g) 1 (m + 1) (some 23) 1))).ren (inn [.own 5 g]) = bufP (m + 1) := by
  show TVal.v (.c (match inn [Ref.own 5 g] (.own 5 g) with | some s => Cell.sref s 1 (m + 1) (some 23) 1 | none => .junk)) = _
  have : inn [Ref.own 5 g] (.own 5 g) = some (.im 0) := by simp [inn, idx]
  rw [this]
 have c2 : ∀ {β : Type} {k : TVal → Heap → Option β} {d : Nat}, vcall Om (.v (.c (.func 90 []))) [.v (.c (.sref (.own 5 g) 1 (m + 1) (some 23) 1)), kN .u64 (u : Int)] h d k = k (.tup []) (h.own 5 g (.cells (wr cs (m + 1) (u : Int) (m + 1)) 0)) :=
  fun {β k d} => qMl 90 (.own 5 g) (.v (.c (.sref (.own 5 g) 1 (m + 1) (some 23) 1))) (bufP (m + 1)) [] [kN .u64 (u : Int)] _ (.cells (wr cs (m + 1) (u : Int) (m + 1)) 0) (.tup []) rfl rfl
   hin rfl rfl hg (by rw [hxs]; exact qAI xs 0) (by rw [hys]; exact qAI ys 0) rfl e186
 have hg2 : (h.own 5 g (.cells (wr cs (m + 1) (u : Int) (m + 1)) 0)).get (.own 5 g) = some (.cells (wr cs (m + 1) (u : Int) (m + 1)) 0) := qBJ _ _ _ _ _ (by omega)
 rw [w56_1, b56_1]
 by_cases hn : n < 0
 ·have i1 : ∀ {β : Type} {k : TVal → Heap → Option β} {h : Heap} {d : Nat}, vop Om (.iaddrA 24 1 (.k (.v (.c (.ptr (.own 5 g) 0)))) (.k (kI 0))) h d k = k (.v (.c (.ptr (.own 5 g) 0))) h := fun {β k h d} => qCG 24 1 _ 0 0 (by omega)
  have hp2 : put1 (wr cs (m + 1) (u : Int) (m + 1)) 0 [.p (.int .u8 45)] = .p (.int .u8 45) :: (wr cs (m + 1) (u : Int) (m + 1)).drop 1 := by
   unfold put1 splice; simp
  have hg3 : ((h.own 5 g (.cells (wr cs (m + 1) (u : Int) (m + 1)) 0)).own 5 g (.cells (.p (.int .u8 45) :: (wr cs (m + 1) (u : Int) (m + 1)).drop 1) 0)).get (.own 5 g) = some (.cells (.p (.int .u8 45) :: (wr cs (m + 1) (u : Int) (m + 1)).drop 1) 0) := qBJ _ _ _ _ _ (by omega)
  have s2 : ∀ {β : Type} {k : TVal → Heap → Option β} {d : Nat}, vop Om (.sliceA 24 1 (.k (.v (.c (.ptr (.own 5 g) 0)))) none (some (.k (kI ((m + 2 : Nat) : Int))))) ((h.own 5 g (.cells (wr cs (m + 1) (u : Int) (m + 1)) 0)).own 5 g (.cells (.p (.int .u8 45) :: (wr cs (m + 1) (u : Int) (m + 1)).drop 1) 0)) d k = k (.v (.c (.sref (.own 5 g) 0 (m + 2) (some 24) 1))) ((h.own 5 g (.cells (wr cs (m + 1) (u : Int) (m + 1)) 0)).own 5 g (.cells (.p (.int .u8 45) :: (wr cs (m + 1) (u : Int) (m + 1)).drop 1) 0)) := fun {β k d} => by
   refine qEB _ (.own 5 g) (fun
    | .cells cs _ => if 0 + 24 * 1 ≤ cs.length then some (.v (.c (.sref (.own 5 g) (0 + 0 * 1) (m + 2 - 0) (some (24 - 0)) 1))) else none
    | _ => none) _ _ ?_ hg3 ?_
   ·show (if 0 ≤ m + 2 ∧ m + 2 ≤ 24 ∧ 0 < 24 then some (Plan.read _ _) else none) = _
    rw [if_pos ⟨by omega, by omega, by omega⟩]
    rfl
   ·show (if _ then _ else _) = _
    rw [if_pos (by simp; omega)]
    rfl
  have t2 : ∀ {β : Type} {k : TVal → Heap → Option β} {d : Nat}, vop Om (.toStr (.k (.v (.c (.sref (.own 5 g) 0 (m + 2) (some 24) 1))))) ((h.own 5 g (.cells (wr cs (m + 1) (u : Int) (m + 1)) 0)).own 5 g (.cells (.p (.int .u8 45) :: (wr cs (m + 1) (u : Int) (m + 1)).drop 1) 0)) d k = k (kS (45 :: Lib.decDigits u)) ((h.own 5 g (.cells (wr cs (m + 1) (u : Int) (m + 1)) 0)).own 5 g (.cells (.p (.int .u8 45) :: (wr cs (m + 1) (u : Int) (m + 1)).drop 1) 0)) :=
   fun {β k d} => qDo (.own 5 g) 0 (m + 2) (some 24) _ 0 _ hg3 (by simp; omega) (by
    rw [List.drop_zero, List.take_succ_cons, hw]
    exact qD1 (45 :: Lib.decDigits u))
  have q1 : 0 + 1 ≤ (wr cs (m + 1) (u : Int) (m + 1)).length := by omega
  simp (maxSteps := 9999999) +contextual only [exa, ne_eq, not_false_eq_true, reduceAdd, reduceMul, reduceLT, reduceLeDiff, reduceEqDiff, Int.reduceLT, Int.reduceLE, Int.reduceEq, Int.reduceToNat, c1, w1, s1, c2, hn, i1, hg2, q1, hp2, s2, t2, oneOf, if_true]
 ·have s2 : ∀ {β : Type} {k : TVal → Heap → Option β} {d : Nat}, vop Om (.sliceA 24 1 (.k (.v (.c (.ptr (.own 5 g) 0)))) (some (.k (kI 1))) (some (.k (kI ((m + 2 : Nat) : Int))))) (h.own 5 g (.cells (wr cs (m + 1) (u : Int) (m + 1)) 0)) d k = k (.v (.c (.sref (.own 5 g) 1 (m + 1) (some 23) 1))) (h.own 5 g (.cells (wr cs (m + 1) (u : Int) (m + 1)) 0)) :=
   fun {β k d} => (qGh 24 1 (.own 5 g) 0 1 (m + 2) _ 0 (by omega) (by omega) (by omega) hg2 (by omega)).trans (by rw [show m + 2 - 1 = m + 1 by omega])
  have t2 : ∀ {β : Type} {k : TVal → Heap → Option β} {d : Nat}, vop Om (.toStr (.k (.v (.c (.sref (.own 5 g) 1 (m + 1) (some 23) 1))))) (h.own 5 g (.cells (wr cs (m + 1) (u : Int) (m + 1)) 0)) d k = k (kS (Lib.decDigits u)) (h.own 5 g (.cells (wr cs (m + 1) (u : Int) (m + 1)) 0)) :=
   fun {β k d} => qDo (.own 5 g) 1 (m + 1) (some 23) _ 0 _ hg2 (by omega) (by rw [hw]; exact qD1 _)
  simp (maxSteps := 9999999) +contextual only [exa, ne_eq, not_false_eq_true, reduceAdd, reduceMul, reduceLT, reduceLeDiff, reduceEqDiff, Int.reduceLT, Int.reduceLE, Int.reduceEq, Int.reduceToNat, c1, w1, s1, c2, hn, s2, t2, oneOf, if_false]
theorem qIA : plainC (List.replicate 24 (.p (.int .u8 0))) := ⟨List.replicate 24 (.int .u8 0), by unfold pcells; rw [List.map_replicate]⟩
theorem qO8 (n : Int) (h1 : -9223372036854775808 ≤ n) (h2 : n ≤ 9223372036854775807) : Om 56 [kI n, kI 10] [] = some (kS (Lib.itoa n), []) := by
 refine (qAC rfl).trans ?_
 show lim tab.get S 56 0 0 [kI n, kI 10] h0 = _
 rw [w56_0, b56_0]
 by_cases hn : n < 0
 ·have e1 : IntKind.u64.wrap (0 - IntKind.u64.wrap n) = ((n.natAbs : Nat) : Int) := by
   have w : ∀ z : Int, IntKind.u64.wrap z = z % 18446744073709551616 := fun z => rfl
   rw [w, w]
   omega
  have hx : ¬ (0 : Int) ≤ n := by omega
  simp (maxSteps := 9999999) +contextual only [exa, ne_eq, not_false_eq_true, reduceAdd, reduceMul, reduceLT, reduceLeDiff, reduceEqDiff, Int.reduceLT, Int.reduceLE, Int.reduceEq, Int.reduceToNat, hn, hx, e1]
  refine (qK1 n n.natAbs 1 _ (List.replicate 24 (.p (.int .u8 0))) qIA rfl (qBJ h0 5 1 _ 0 (by decide)) (by omega) (by omega)).trans ?_
  rw [if_pos hn]
  unfold Lib.itoa
  rw [if_pos hn]
 ·by_cases hs : n < 100
  ·obtain ⟨m, rfl⟩ : ∃ m : Nat, n = m := ⟨n.toNat, by omega⟩
   have c1 : CAL 88 [kI (m : Int)] (kS (Lib.decDigits m)) := qAG 88 _ _ rfl (qLb m (by omega)) rfl
   simp (maxSteps := 9999999) +contextual only [exa, ne_eq, not_false_eq_true, reduceAdd, reduceMul, reduceLT, reduceLeDiff, reduceEqDiff, Int.reduceLT, Int.reduceLE, Int.reduceEq, Int.reduceToNat, hn, hs, c1, oneOf]
   unfold Lib.itoa
   rw [if_neg hn, Int.toNat_natCast]
  ·obtain ⟨m, rfl⟩ : ∃ m : Nat, n = m := ⟨n.toNat, by omega⟩
   have e1 : IntKind.u64.wrap (m : Int) = (m : Int) := qCS _ (by omega) (by omega)
   simp (maxSteps := 9999999) +contextual only [exa, ne_eq, not_false_eq_true, reduceAdd, reduceMul, reduceLT, reduceLeDiff, reduceEqDiff, Int.reduceLT, Int.reduceLE, Int.reduceEq, Int.reduceToNat, hn, hs, e1]
   refine (qK1 (m : Int) m 1 _ (List.replicate 24 (.p (.int .u8 0))) qIA rfl (qBJ h0 5 1 _ 0 (by decide)) (by omega) (by omega)).trans ?_
   rw [if_neg hn]
   unfold Lib.itoa
   rw [if_neg hn, Int.toNat_natCast]
theorem qOy (n : Int) (h1 : -9223372036854775808 ≤ n) (h2 : n ≤ 9223372036854775807) : Om 30 [kI n, kI 10] [] = some (kS (Lib.itoa n), []) := by
 have c1 : CAL 56 [kI n, kI 10] (kS (Lib.itoa n)) := qAG 56 _ _ rfl (qO8 n h1 h2) rfl
 refine (qAC rfl).trans ?_
 show lim tab.get S 30 0 0 [kI n, kI 10] h0 = _
 rw [w30_0, b30_0]
 simp (maxSteps := 9999999) +contextual only [exa, ne_eq, not_false_eq_true, reduceAdd, reduceMul, reduceLT, reduceLeDiff, reduceEqDiff, Int.reduceLT, Int.reduceLE, Int.reduceEq, Int.reduceToNat, c1, oneOf]
end Go.Proofs.YtiahgnkffnokfaaGreatDoor.Ab
set_option maxHeartbeats 4000000
namespace Go.Proofs.YtiahgnkffnokfaaGreatDoor.Ab
open Go Go.AI
theorem qGz (s p : List UInt8) : Om 103 [kS s, kS p] [] = some (kB (decide (s.take p.length = p)), []) := by
 refine (qAC rfl).trans ?_
 show lim tab.get S 103 0 0 [kS s, kS p] h0 = _
 rw [w103_0, b103_0, qEb, qEb, qG0]
 by_cases hl : p.length ≤ s.length
 ·have e : (!decide ((s.length : Int) < (p.length : Int))) = true := by simp; omega
  simp only [e, qFj, qEb, qCP s p.length hl, qFg, qIg, qAc]
  rw [qAS _ _ rfl]; rfl
 ·have e : (!decide ((s.length : Int) < (p.length : Int))) = false := by simp; omega
  have e2 : ¬ s.take p.length = p := fun hh => by have := congrArg List.length hh; simp at this; omega
  simp only [e, qFv, qH6, qAc]
  rw [qAS _ _ rfl, decide_eq_false e2]; rfl
theorem qF6 (s p : List UInt8) : Om 75 [kS s, kS p] [] = some (kB (decide (s.take p.length = p)), []) := by
 refine (qAC rfl).trans ?_
 show lim tab.get S 75 0 0 [kS s, kS p] h0 = _
 rw [w75_0, b75_0, qAG 103 _ _ rfl (qGz s p) rfl, qAc, qAS _ _ rfl]; rfl

theorem u75 {β : Type} {k : TVal → Heap → Option β} {h : Heap} {d : Nat} (s p : List UInt8) : vcall Om (.v (.c (.func 75 []))) [kS s, kS p] h d k = k (kB (decide (s.take p.length = p))) h := qAG 75 _ _ rfl (qF6 s p) rfl
def isStart (n : Nat) : Bool := Nat.beq n 110 || Nat.beq n 116 || Nat.beq n 102 || Nat.beq n 45 || (Nat.ble 48 n && Nat.ble n 57) || Nat.beq n 34 || Nat.beq n 91 || Nat.beq n 123
def isNtf (n : Nat) : Bool := Nat.beq n 110 || Nat.beq n 116 || Nat.beq n 102
def startS : List UInt8 := [110, 116, 102, 45, 48, 49, 50, 51, 52, 53, 54, 55, 56, 57, 34, 91, 123]
theorem qOZ (b : UInt8) : Om 46 [kS startS, kS [b]] [] = some (kB (isStart b.toNat), []) := by
 refine (qAC rfl).trans ?_
 have := qEQ (T := tab.get) (S := S) blks_ok (f := 46) (p := isStart) (N := 60) (av := fun n => [kS startS, kS [UInt8.ofNat n]]) (by kernel_rfl) b
 rw [UInt8.ofNat_toNat] at this
 exact this
theorem qP0 (b : UInt8) : Om 46 [kS [110, 116, 102], kS [b]] [] = some (kB (isNtf b.toNat), []) := by
 refine (qAC rfl).trans ?_
 have := qEQ (T := tab.get) (S := S) blks_ok (f := 46) (p := isNtf) (N := 60) (av := fun n => [kS [110, 116, 102], kS [UInt8.ofNat n]]) (by kernel_rfl) b
 rw [UInt8.ofNat_toNat] at this
 exact this
def isBl (n : Nat) : Bool := Nat.beq n 32 || Nat.beq n 9 || Nat.beq n 10 || Nat.beq n 13
def blS : List UInt8 := [32, 9, 10, 13]
def setL : List PVal := (List.range 256).map fun n => .bool (isBl n)
theorem qP3 : Om 85 [kS blS] [] = some (.tup [.agg (pcells setL), .c (.p (.bool true))], []) := (qAC rfl).trans (qBA blks_ok 300 85 0 0 _ _ _ (by kernel_rfl))
abbrev P0 : TVal := .v (.c (.ptr (.im 0) 0))
abbrev setO : AObj := .cells (pcells setL) 0
theorem qA3 : plainO setO := qAI _ 0
theorem qLa {β : Type} {O : Oracle} {h : Heap} {d : Nat} {k : TVal → Heap → Option β} (r : Ref) (b : UInt8) : vop O (.iaddrA 256 1 (.k (.v (.c (.ptr r 0)))) (.k (kU b))) h d k = k (.v (.c (.ptr r b.toNat))) h := qAd _ _ (by
 have hb : b.toNat < 256 := b.toNat_lt
 show (if b.toNat < 256 then some (Plan.pure (.v (.c (.ptr r (0 + b.toNat * 1))))) else none) = _
 rw [if_pos hb, Nat.zero_add, Nat.mul_one])
theorem qPC (b : UInt8) : setL[b.toNat]? = some (.bool (isBl b.toNat)) := by
 have hb : b.toNat < 256 := b.toNat_lt
 unfold setL
 rw [List.getElem?_map, List.getElem?_range hb]
 rfl
theorem qPf (b : UInt8) : Om 107 [P0, kU b] [setO] = some (kB (isBl b.toNat), [setO]) := by
 refine (qAC rfl).trans ?_
 show lim tab.get S 107 1 0 [P0, kU b] { ims := [setO], owns := .nil } = _
 rw [w107_0, b107_0]
 have hg : (Heap.mk [setO] .nil).get (.im 0) = some setO := rfl
 simp (maxSteps := 9999999) +contextual only [exa, ne_eq, not_false_eq_true, reduceAdd, reduceMul, reduceLT, reduceLeDiff, reduceEqDiff, Int.reduceLT, Int.reduceLE, Int.reduceEq, Int.reduceToNat, exW, exY, qLa, hg, qPC, oneOf]
theorem u107 {β : Type} {k : TVal → Heap → Option β} {h : Heap} {d : Nat} (r : Ref) (b : UInt8) (hg : h.get r = some setO) : vcall Om (.v (.c (.func 107 []))) [.v (.c (.ptr r 0)), kU b] h d k = k (kB (isBl b.toNat)) (h.put r setO) :=
 qAZ 107 r 0 [] [kU b] _ _ _ rfl rfl hg qA3 qA3 rfl (qPf b)
def noB (s : List UInt8) : Prop := ∀ b, s[0]? = some b → isBl b.toNat = false
theorem qPK (s : List UInt8) (hb : noB s) : Om 86 [kS s, P0] [setO] = some (kS s, [setO]) := by
 refine (qAC rfl).trans ?_
 show lim tab.get S 86 1 0 [kS s, P0] { ims := [setO], owns := .nil } = _
 have hg : (Heap.mk [setO] .nil).get (.im 0) = some setO := rfl
 have hp : (Heap.mk [setO] .nil).put (.im 0) setO = Heap.mk [setO] .nil := rfl
 rw [w86_0, b86_0, w86_1, b86_1]
 cases s with
 | nil =>
  have h0 : ¬ (0 : Int) < ((0 : Nat) : Int) := by decide
  simp (maxSteps := 9999999) +contextual only [exa, ne_eq, not_false_eq_true, reduceAdd, reduceMul, reduceLT, reduceLeDiff, reduceEqDiff, Int.reduceLT, Int.reduceLE, Int.reduceEq, Int.reduceToNat, List.length_nil, h0, oneOf]
 | cons b s =>
  have h1 : (0 : Int) < ((s.length + 1 : Nat) : Int) := by omega
  have h2 : (b :: s)[0]? = some b := rfl
  have h3 := hb b rfl
  have c := fun {β : Type} {k : TVal → Heap → Option β} {d : Nat} => u107 (β := β) (k := k) (d := d) (.im 0) b hg
  rw [h3, hp] at c
  simp (maxSteps := 9999999) +contextual only [exa, ne_eq, not_false_eq_true, reduceAdd, reduceMul, reduceLT, reduceLeDiff, reduceEqDiff, Int.reduceLT, Int.reduceLE, Int.reduceEq, Int.reduceToNat, h1, h2, c, oneOf]
theorem u86 {β : Type} {k : TVal → Heap → Option β} {h : Heap} {d : Nat} (r : Ref) (s : List UInt8) (hb : noB s) (hg : h.get r = some setO) : vcall Om (.v (.c (.func 86 []))) [kS s, .v (.c (.ptr r 0))] h d k = k (kS s) (h.put r setO) :=
 qAZ 86 r 0 [kS s] [] _ _ _ rfl rfl hg qA3 qA3 rfl (qPK s hb)
theorem u85 {β : Type} {k : TVal → Heap → Option β} {h : Heap} {d : Nat} : vcall Om (.v (.c (.func 85 []))) [kS blS] h d k = k (.tup [.agg (pcells setL), .c (.p (.bool true))]) h := qAG 85 _ _ rfl qP3 (by simp only [exP])
theorem qDj : setL.length = 256 := by unfold setL; simp
theorem qPr (s : List UInt8) (hb : noB s) : Om 54 [kS s, kS blS] [] = some (kS s, []) := by
 refine (qAC rfl).trans ?_
 show lim tab.get S 54 0 0 [kS s, kS blS] h0 = _
 rw [w54_0, b54_0]
 by_cases hs : s = []
 ·subst hs
  simp (maxSteps := 9999999) +contextual only [exa, ne_eq, not_false_eq_true, reduceAdd, reduceMul, reduceLT, reduceLeDiff, reduceEqDiff, Int.reduceLT, Int.reduceLE, Int.reduceEq, Int.reduceToNat, oneOf]
 ·have hl : ¬ ((blS.length : Nat) : Int) = 1 := by decide
  have hbl : ¬ blS = [] := by decide
  have P : ∀ Z : List Cell, Z.length = 256 → put1 Z 0 (pcells setL) = pcells setL := fun Z hz => qAk _ _ (by rw [qAL, qDj, hz])
  simp (maxSteps := 9999999) +contextual only [exa, ne_eq, not_false_eq_true, reduceAdd, reduceMul, reduceLT, reduceLeDiff, reduceEqDiff, Int.reduceLT, Int.reduceLE, Int.reduceEq, Int.reduceToNat, exY, hs, hbl, hl, qDj, u85, P, u86 _ s hb, List.length_cons, List.length_nil, oneOf]
end Go.Proofs.YtiahgnkffnokfaaGreatDoor.Ab
set_option maxHeartbeats 4000000
namespace Go.Proofs.YtiahgnkffnokfaaGreatDoor.Ab
open Go Go.AI
def isD (b : UInt8) : Bool := decide (48 ≤ b.toNat) && decide (b.toNat ≤ 57)
def valD : List UInt8 → Nat → Nat
 | [], a => a
 | b :: l, a => valD l (10 * a + (b.toNat - 48))
theorem qHV : ∀ (l m : List UInt8) (a : Nat), valD (l ++ m) a = valD m (valD l a)
 | [], _, _ => rfl
 | b :: l, m, a => by rw [List.cons_append, valD, qHV l m]; rfl
theorem qIa : ∀ (l : List UInt8) (a : Nat), (∀ b ∈ l, isD b = true) → valD l a < (a + 1) * 10 ^ l.length
 | [], a, _ => by rw [valD]; simp
 | b :: l, a, h => by
  have hb := h b (by simp)
  unfold isD at hb
  simp only [Bool.and_eq_true, decide_eq_true_eq] at hb
  have := qIa l (10 * a + (b.toNat - 48)) (fun x hx => h x (by simp [hx]))
  rw [valD, List.length_cons, Nat.pow_succ]
  refine Nat.lt_of_lt_of_le this ?_
  have h10 : 10 * a + (b.toNat - 48) + 1 ≤ (a + 1) * 10 := by omega
  calc (10 * a + (b.toNat - 48) + 1) * 10 ^ l.length ≤ ((a + 1) * 10) * 10 ^ l.length := Nat.mul_le_mul_right _ h10
   _ = (a + 1) * (10 ^ l.length * 10) := by rw [Nat.mul_assoc, Nat.mul_comm 10]
abbrev r2 : TVal := .v (.c (.ptr (.own 2 1) 0))

abbrev rO (s : List UInt8) (e : Int) : AObj := .cells (pcells [.str s, .int .i64 e]) 0
theorem qAX (a b : PVal) : (pcells [a, b])[0]? = some (.p a) := rfl
theorem qAY (a b : PVal) : (pcells [a, b])[1]? = some (.p b) := rfl
theorem qB8 (a b x : PVal) : put1 (pcells [a, b]) 0 [.p x] = pcells [x, b] := rfl
theorem qCb (a b x : PVal) : put1 (pcells [a, b]) 1 [.p x] = pcells [a, x] := rfl
theorem qAU (a b : PVal) : (pcells [a, b]).length = 2 := rfl
theorem qAH (s : List UInt8) (e : Int) : plainO (rO s e) := qAI _ 0
theorem qBl (s : List UInt8) (e : Int) : (Heap.mk [rO s e] .nil).get (.im 0) = some (rO s e) := rfl
theorem u54 {β : Type} {k : TVal → Heap → Option β} {h : Heap} {d : Nat} (s : List UInt8) (hb : noB s) : vcall Om (.v (.c (.func 54 []))) [kS s, kS [32, 9, 10, 13]] h d k = k (kS s) h := qAG 54 _ _ rfl (qPr s hb) rfl
theorem qLr (s : List UInt8) (e : Int) (hb : noB s) : Om 27 [P0] [rO s e] = some (.tup [], [rO s e]) := by
 refine (qAC rfl).trans ?_
 show lim tab.get S 27 1 0 [P0] { ims := [rO s e], owns := .nil } = _
 have c := fun {β : Type} {k : TVal → Heap → Option β} {h : Heap} {d : Nat} => u54 (β := β) (k := k) (h := h) (d := d) s hb
 rw [w27_0, b27_0]
 simp (maxSteps := 9999999) +contextual only [exa, ne_eq, not_false_eq_true, reduceAdd, reduceMul, reduceLT, reduceLeDiff, reduceEqDiff, Int.reduceLT, Int.reduceLE, Int.reduceEq, Int.reduceToNat, exY, qBl, qAX, qAY, qB8, qCb, qAU, c, oneOf]
theorem qPn (s w : List UInt8) : Om 48 [P0, kS w] [rO s 0] = some (kB (decide (s.take w.length = w)), [rO (if s.take w.length = w then s.drop w.length else s) 0]) := by
 refine (qAC rfl).trans ?_
 show lim tab.get S 48 1 0 [P0, kS w] { ims := [rO s 0], owns := .nil } = _
 rw [w48_0, b48_0]
 by_cases h : s.take w.length = w
 ·have hl : w.length ≤ s.length := by have := congrArg List.length h; simp at this; omega
  have c := fun {β : Type} {k : TVal → Heap → Option β} {hh : Heap} {d : Nat} => u75 (β := β) (k := k) (h := hh) (d := d) s w
  rw [decide_eq_true h] at c
  have sl : ∀ {β : Type} {k : TVal → Heap → Option β} {hh : Heap} {d : Nat}, vop Om (.slice 0 true (.k (kS s)) (some (.k (kI (w.length : Int)))) none none) hh d k = k (kS (s.drop w.length)) hh := fun {β k hh d} => qCw s w.length hl
  simp (maxSteps := 9999999) +contextual only [exa, ne_eq, not_false_eq_true, reduceAdd, reduceMul, reduceLT, reduceLeDiff, reduceEqDiff, Int.reduceLT, Int.reduceLE, Int.reduceEq, Int.reduceToNat, exY, qBl, qAX, qAY, qB8, qCb, qAU, c, h, hl, sl, if_true, oneOf]
 ·have c := fun {β : Type} {k : TVal → Heap → Option β} {hh : Heap} {d : Nat} => u75 (β := β) (k := k) (h := hh) (d := d) s w
  rw [decide_eq_false h] at c
  simp (maxSteps := 9999999) +contextual only [exa, ne_eq, not_false_eq_true, reduceAdd, reduceMul, reduceLT, reduceLeDiff, reduceEqDiff, Int.reduceLT, Int.reduceLE, Int.reduceEq, Int.reduceToNat, exY, qBl, qAX, qAY, qB8, qCb, qAU, c, h, if_false, oneOf]
theorem qGA {b : UInt8} (h : isD b = true) : 48 ≤ b.toNat ∧ b.toNat ≤ 57 := by
 simpa [isD] using h
theorem qMW (ds : List UInt8) (hd : ∀ b ∈ ds, isD b = true) (hz : ds[0]? = some 48 → ds.length = 1) (hn : ds ≠ []) : Om 76 [kS ds] [] = some (kI (ds.length : Int), []) := by
 refine (qAC rfl).trans ?_
 show lim tab.get S 76 0 0 [kS ds] h0 = _
 rw [w76_0, b76_0, qFD]
 obtain ⟨b0, hb0⟩ : ∃ b, ds[0]? = some b := ⟨ds[0]'(by cases ds with | nil => exact absurd rfl hn | cons a l => simp), by simp⟩
 have loop : ∀ (m pos : Nat) (h : Heap), ds.length - pos = m → pos ≤ ds.length → h.get (.own 6 1) = some (.siter ds pos) → lim tab.get S 76 0 1 [kS ds, .v (.c (.ptr (.own 6 1) 0))] h = some (kI (ds.length : Int), []) := by
  intro m
  induction m with
  | zero =>
   intro pos h hm hl hh
   rw [w76_1, b76_1, qEm ds pos _ hh (by omega), qAi _ 0 (.c (.p (.bool false))) rfl, qDf, w76_2, b76_2]
   by_cases h1 : (1 : Int) < (ds.length : Int)
   ·have h2 : ¬ ((b0.toNat : Nat) : Int) = 48 := fun e => by
     have e2 : b0 = 48 := UInt8.toNat_inj.1 (by show b0.toNat = 48; omega)
     have := hz (by rw [hb0, e2])
     omega
    simp (maxSteps := 9999999) +contextual only [exa, ne_eq, not_false_eq_true, reduceAdd, reduceMul, reduceLT, reduceLeDiff, reduceEqDiff, Int.reduceLT, Int.reduceLE, Int.reduceEq, Int.reduceToNat, h1, hb0, h2, oneOf]
   ·simp (maxSteps := 9999999) +contextual only [exa, ne_eq, not_false_eq_true, reduceAdd, reduceMul, reduceLT, reduceLeDiff, reduceEqDiff, Int.reduceLT, Int.reduceLE, Int.reduceEq, Int.reduceToNat, h1, oneOf]
  | succ m ih =>
   intro pos h hm hl hh
   obtain ⟨b, hb⟩ : ∃ b, ds[pos]? = some b := ⟨ds[pos]'(by omega), by simp⟩
   obtain ⟨q1, q2⟩ := qGA (hd b (List.mem_of_getElem? hb))
   have r1 : ¬ ((b.toNat : Nat) : Int) < 48 := by omega
   have r2 : ¬ (57 : Int) < ((b.toNat : Nat) : Int) := by omega
   have ih := ih (pos + 1) (h.own 6 1 (.siter ds (pos + 1))) (by omega) (by omega) (Heap.own_get h 6 1 _ (by decide) (fun e => by cases e))
   rw [w76_1, b76_1, qBt ds pos _ hh (by omega), qAi _ 0 (.c (.p (.bool true))) rfl, qCU, qB9 ds pos b hb (by omega), qAi _ 1 (.c (.p (.int .i64 (pos : Int)))) rfl, qAi _ 2 (.c (.p (.int .i32 (b.toNat : Int)))) rfl]
   by_cases hp : (pos : Int) = 1
   ·have h2 : ¬ ((b0.toNat : Nat) : Int) = 48 := fun e => by
     have e2 : b0 = 48 := UInt8.toNat_inj.1 (by show b0.toNat = 48; omega)
     have := hz (by rw [hb0, e2])
     omega
    simp (maxSteps := 9999999) +contextual only [exa, ne_eq, not_false_eq_true, reduceAdd, reduceMul, reduceLT, reduceLeDiff, reduceEqDiff, Int.reduceLT, Int.reduceLE, Int.reduceEq, Int.reduceToNat, r1, r2, hp, hb0, h2, ih, oneOf]
   ·simp (maxSteps := 9999999) +contextual only [exa, ne_eq, not_false_eq_true, reduceAdd, reduceMul, reduceLT, reduceLeDiff, reduceEqDiff, Int.reduceLT, Int.reduceLE, Int.reduceEq, Int.reduceToNat, r1, r2, hp, ih, oneOf]
 refine (loop ds.length 0 _ (by omega) (by omega) (Heap.own_get _ 6 1 _ (by decide) (fun e => by cases e))).trans ?_
 rfl
end Go.Proofs.YtiahgnkffnokfaaGreatDoor.Ab
set_option maxHeartbeats 4000000
namespace Go.Proofs.YtiahgnkffnokfaaGreatDoor.Ab
open Go Go.AI
def numV (n : Int) : VT := .mk 2 false n [] .nil .nil
abbrev Z6 : List Cell := [.p (.int .i64 0), .p (.bool false), .p (.int .i64 0), .p (.str []), .p .nilslice, .p .nilslice]
abbrev R2 : TVal := .v (.c (.ptr (.own 2 1) 0))
theorem u48 {β : Type} {k : TVal → Heap → Option β} {h : Heap} {d : Nat} (r : Ref) (s w : List UInt8) (hg : h.get r = some (rO s 0)) : vcall Om (.v (.c (.func 48 []))) [.v (.c (.ptr r 0)), kS w] h d k = k (kB (decide (s.take w.length = w))) (h.put r (rO (if s.take w.length = w then s.drop w.length else s) 0)) :=
 qAZ 48 r 0 [] [kS w] _ _ _ rfl rfl hg (qAH _ _) (qAH _ _) rfl (qPn s w)
def sgn (b : Bool) (x : Nat) : Int := if b then -(x : Int) else x
def lim53 (b : Bool) : Nat := if b then 9223372036854775808 else 9223372036854775807
theorem qMs (x : Nat) (hx : x ≤ 9223372036854775808) : IntKind.i64.wrap (0 - IntKind.i64.wrap (x : Int)) = -(x : Int) := by
 by_cases h : x ≤ 9223372036854775807
 ·rw [qAF (x : Int) (by omega) (by omega), qAF _ (by omega) (by omega)]; omega
 ·obtain rfl : x = 9223372036854775808 := by omega
  rfl
theorem qFZ (l : List UInt8) (b : UInt8) : valD (l ++ [b]) 0 = 10 * valD l 0 + (b.toNat - 48) := by rw [qHV]; rfl
end Go.Proofs.YtiahgnkffnokfaaGreatDoor.Ab
set_option maxHeartbeats 4000000
namespace Go.Proofs.YtiahgnkffnokfaaGreatDoor.Ab
open Go Go.AI
def numT (b : Bool) (ds : List UInt8) : List UInt8 := if b then 45 :: ds else ds
structure NumOk (b : Bool) (ds : List UInt8) : Prop where
 hd : ∀ c ∈ ds, isD c = true
 hn : ds ≠ []
 hl : ds.length ≤ 19
 hz : ds[0]? = some 48 → ds.length = 1
 hx : valD ds 0 ≤ lim53 b
theorem qET {b : Bool} {ds : List UInt8} (h : NumOk b ds) : ∃ c l, numT b ds = c :: l ∧ (c = 45 ∧ b = true ∧ l = ds ∨ b = false ∧ isD c = true ∧ c :: l = ds) := by
 cases b
 ·cases hds : ds with
  | nil => exact absurd hds h.hn
  | cons c l => exact ⟨c, l, rfl, .inr ⟨rfl, h.hd c (by rw [hds]; simp), rfl⟩⟩
 ·exact ⟨45, ds, rfl, .inl ⟨rfl, rfl, rfl⟩⟩
theorem qCD (h : Heap) (i : Nat) (o : AObj) (hg : h.get (.im i) = some o) : h.put (.im i) o = h := by
 obtain ⟨ims, owns⟩ := h
 have hg2 : ims[i]? = some o := by
  unfold Heap.get at hg
  cases hi : ims[i]? with
  | none => simp only [hi] at hg; cases hg
  | some a => simp only [hi] at hg; cases a <;> first | exact hg | cases hg
 show Heap.mk (ims.set i o) owns = Heap.mk ims owns
 have : ims.set i o = ims := by
  apply List.ext_getElem?
  intro j
  rw [List.getElem?_set]
  by_cases hj : i = j
  ·subst hj
   have := (List.getElem?_eq_some_iff.1 hg2).1
   rw [if_pos rfl, if_pos this, hg2]
  ·rw [if_neg hj]
 rw [this]
theorem u27 {β : Type} {k : TVal → Heap → Option β} {h : Heap} {d : Nat} (r : Ref) (s : List UInt8) (e : Int) (hb : noB s) (hg : h.get r = some (rO s e)) : vcall Om (.v (.c (.func 27 []))) [.v (.c (.ptr r 0))] h d k = k (.tup []) (h.put r (rO s e)) :=
 qAZ 27 r 0 [] [] _ _ _ rfl rfl hg (qAH _ _) (qAH _ _) rfl (qLr s e hb)
theorem qLX {β : Type} {k : TVal → Heap → Option β} {h : Heap} {d : Nat} (b : UInt8) : vcall Om (.v (.c (.func 46 []))) [kS [110, 116, 102, 45, 48, 49, 50, 51, 52, 53, 54, 55, 56, 57, 34, 91, 123], kS [b]] h d k = k (kB (isStart b.toNat)) h := qAG 46 _ _ rfl (qOZ b) rfl
theorem u46n {β : Type} {k : TVal → Heap → Option β} {h : Heap} {d : Nat} (b : UInt8) : vcall Om (.v (.c (.func 46 []))) [kS [110, 116, 102], kS [b]] h d k = k (kB (isNtf b.toNat)) h := qAG 46 _ _ rfl (qP0 b) rfl
theorem qIs {β : Type} {k : TVal → Heap → Option β} {h : Heap} {d : Nat} (s w : List UInt8) (hg : h.get (.im 0) = some (rO s 0)) (hw : ¬ s.take w.length = w) : vcall Om (.v (.c (.func 48 []))) [P0, kS w] h d k = k (kB false) h := by
 rw [u48 (.im 0) s w hg, if_neg hw, decide_eq_false hw, qCD h 0 _ hg]
end Go.Proofs.YtiahgnkffnokfaaGreatDoor.Ab
set_option maxHeartbeats 4000000
namespace Go.Proofs.YtiahgnkffnokfaaGreatDoor.Ab
open Go Go.AI
abbrev rC (s : List UInt8) : AObj := .cells [.p (.str s), .p (.int .i64 0)] 0
theorem qNS (t : List UInt8) (v : List PVal) (hv : v.length = 6) (ht : t.length ≤ 20000) (H26 : Om 26 [P0, kI 1] [rO t 0] = some (kA v, [rO [] 0])) (H24 : Om 24 [kA v] [] = some (kI 0, [])) :
  Om 13 [kS t] [] = some (.tup [.agg (pcells v), .c (.p (.int .i64 0))], []) := by
 refine (qAC rfl).trans ?_
 show lim tab.get S 13 0 0 [kS t] h0 = _
 have l : ¬ (20000 : Int) < ((t.length : Nat) : Int) := by omega
 have c26 : ∀ {β : Type} {k : TVal → Heap → Option β} {h : Heap} {d : Nat} (r : Ref), h.get r = some (rC t) → vcall Om (.v (.c (.func 26 []))) [.v (.c (.ptr r 0)), kI 1] h d k = k (kA v) (h.put r (rC [])) := fun {β k h d} r hg =>
  qAZ 26 r 0 [] [kI 1] _ _ _ rfl rfl hg (qAH _ _) (qAH _ _) (by simp only [exP]) H26
 have c27 : ∀ {β : Type} {k : TVal → Heap → Option β} {h : Heap} {d : Nat} (r : Ref), h.get r = some (rC []) → vcall Om (.v (.c (.func 27 []))) [.v (.c (.ptr r 0))] h d k = k (.tup []) (h.put r (rC [])) := fun {β k h d} r hg => u27 r [] 0 (fun b hb => by cases hb) hg
 have c24 : CAL 24 [kA v] (kI 0) := fun {β k h d} => qAG 24 _ _ (by simp only [exP]) H24 rfl
 have pa : ∀ Z : List Cell, Z.length = 6 → put1 Z 0 (pcells v) = pcells v := fun Z hz => qAk _ _ (by rw [qAL, hv, hz])
 have pl : (pcells v).length = 6 := by rw [qAL, hv]
 have pt : (pcells v).take 6 = pcells v := List.take_of_length_le (by omega)
 rw [w13_0, b13_0]
 simp (maxSteps := 9999999) +contextual only [exa, ne_eq, not_false_eq_true, reduceAdd, reduceMul, reduceLT, reduceLeDiff, reduceEqDiff, Int.reduceLT, Int.reduceLE, Int.reduceEq, Int.reduceToNat, exW, exY, qBl, qAX, qAY, qAU, l, c26, c27, c24, pa, pl, pt, if_false, oneOf, w13_1, b13_1, w13_2, b13_2]
end Go.Proofs.YtiahgnkffnokfaaGreatDoor.Ab
set_option maxHeartbeats 4000000
namespace Go.AI
section
variable {β : Type} {O : Oracle} {h : Heap} {d : Nat} {k : TVal → Heap → Option β}
theorem qF4 {D : List Nat} {sz by' : Nat} {v : Cell} {rows new : List (List PVal)} (t : Bool) (G : Grow D sz v rows h) (hD : d ∈ D) (hn : new ≠ []) (hsz : ∀ r ∈ new, r.length = sz) (hb : (rows.length + new.length) * by' ≤ 1099511627776) (hd : d + 1 < 1048576) :
  ∃ v' h', Grow D sz v' (rows ++ new) h' ∧ (∀ (β : Type) (O : Oracle) (k : TVal → Heap → Option β), vop O (.append sz by' false (.k (.v (.c v))) (.k (kSl sz t new))) h d k = k (.v (.c v')) h') ∧
   (∀ e g o, e ≠ d → h.get (.own e g) = some o → o ≠ .cells [] 0 → h'.get (.own e g) = some o) ∧ (∀ i, h'.get (.im i) = h.get (.im i)) := by
 have hnl : new.length ≠ 0 := by simpa using hn
 have slowEq : ∀ (O : Oracle) (v' : TVal) (h' : Heap), (plan .nil (.append sz by' false (.k (.v (.c v))) (.k (kSl sz t new)))).bind (fun p => (p.exec O d h).map fun x => (x.1, x.2.1)) = some (v', h') →
   ∀ (β : Type) (k : TVal → Heap → Option β), vop O (.append sz by' false (.k (.v (.c v))) (.k (kSl sz t new))) h d k = k v' h' := by
  intro O v' h' e β k
  show opK O _ .nil h d k = _
  rw [qAn]
  show (Option.bind (Option.bind _ _) _) = _
  rw [e]; rfl
 have gr : ∀ ups, growRow sz by' rows (pcells new.flatten) new.length ups = some ⟨fun r => .v (.c (.tsl sz (rows ++ new) r)), ups, some (.cells [] 0), false⟩ := by
  intro ups
  unfold growRow
  rw [qEx sz new hsz]
  dsimp only
  rw [if_pos (by omega)]
 rcases G with ⟨rfl, rfl⟩ | ⟨hne, e, g, _, rfl, hh⟩
 ·refine ⟨.tsl sz new (.own d (h.gen d + 1)), h.own d (h.gen d + 1) (.cells [] 0), .inr ⟨hn, d, _, hD, rfl, Heap.own_get h d _ _ hd (fun e => by cases e)⟩, fun β O k => slowEq O _ _ ?_ β k, fun e g o he ho _ => (Heap.own_get_ne h d _ _ e g (Ne.symm he)).trans ho, fun i => rfl⟩
  have ea : appendTo sz by' false kNil none (pcells new.flatten) new.length = some ⟨fun r => .v (.c (.tsl sz ([] ++ new) r)), [], some (.cells [] 0), false⟩ := by
   unfold appendTo
   rw [if_neg hnl]
   exact gr []
  show ((Plan.go [] _).exec O d h).map _ = _
  simp only [Plan.exec, goOp, List.mapM_nil, Option.pure_def, zipNeeds, splitNeeds, srcCells, dstRef, srcRef]
  simp only [if_true, Option.bind_eq_bind, Option.bind_some, ea]
  rfl
 ·have hgen : (h.put (.own e g) .dead).gen d = (if e = d then g else h.gen d) := by
   show (h.own e g .dead).gen d = _
   split
   ·rename_i hh; subst hh; exact Heap.own_gen h e g _ hd
   ·rename_i hh; exact Heap.own_gen_ne h e g _ d hh
  refine ⟨.tsl sz (rows ++ new) (.own d (h.gen d + 1)), (h.put (.own e g) .dead).own d (h.gen d + 1) (.cells [] 0), .inr ⟨by simp [hne], d, _, hD, rfl, Heap.own_get _ d _ _ hd (fun e => by cases e)⟩, fun β O k => slowEq O _ _ ?_ β k, fun e' g' o he ho hx => ?_, fun i => rfl⟩
  ·have ea : appendTo sz by' false (.v (.c (.tsl sz rows (.own e g)))) (some (.cells [] 0)) (pcells new.flatten) new.length = some ⟨fun r => .v (.c (.tsl sz (rows ++ new) r)), [(.own e g, .dead)], some (.cells [] 0), false⟩ := by
    unfold appendTo
    rw [if_neg hnl]
    show (if sz = sz then growRow sz by' rows (pcells new.flatten) new.length [(.own e g, .dead)] else none) = _
    rw [if_pos rfl]
    exact gr _
   show ((Plan.go [.own e g] _).exec O d h).map _ = _
   simp only [Plan.exec, goOp, qB6, hh, Option.map_some, zipNeeds, splitNeeds, srcCells, dstRef, srcRef]
   simp only [if_true, Option.bind_eq_bind, Option.bind_some, ea]
   simp
   rfl
  ·refine (Heap.own_get_ne _ d _ _ e' g' (Ne.symm he)).trans ?_
   show (h.own e g .dead).get (.own e' g') = some o
   by_cases e1 : e = e'
   ·subst e1
    exfalso
    letI : Sym := ⟨fun _ => 0⟩
    have h1 := (Heap.get_own_gen hh)
    have h2 := (Heap.get_own_gen ho)
    obtain ⟨a1, b1⟩ := h1
    obtain ⟨a2, b2⟩ := h2
    rw [b1] at b2
    simp only [Option.some.injEq, Prod.mk.injEq] at b2
    exact hx b2.2.symm
   ·exact (Heap.own_get_ne h e g _ e' g' e1).trans ho
end
end Go.AI
namespace Go.Proofs.YtiahgnkffnokfaaGreatDoor.Ab
open Go Go.AI
def meantM (c : UInt8) : Option UInt8 := if c.toNat = 110 then some 10 else if c.toNat = 116 then some 9 else if c.toNat = 34 then some c else if c.toNat = 92 then some c else none
def meantV (c : UInt8) : TVal := match meantM c with
 | some x => .tup [.c (.p (.int .u8 (x.toNat : Int))), .c (.p (.bool true))]
 | none => .tup [.c (.p (.int .u8 0)), .c (.p (.bool false))]
theorem qLs (c : UInt8) : Om 78 [kU c] [] = some (meantV c, []) := by
 refine (qAC rfl).trans ?_
 show lim tab.get S 78 0 0 [kU c] h0 = _
 rw [w78_0, b78_0, qCK, qCo]
 unfold meantV meantM
 by_cases h1 : c.toNat = 110
 ·rw [if_pos (decide_eq_true (by omega)), if_pos h1, qAc, qAc, qAS _ _ rfl]; rfl
 rw [if_neg (by rw [decide_eq_true_eq]; omega), if_neg h1, qCK, qCo]
 by_cases h2 : c.toNat = 116
 ·rw [if_pos (decide_eq_true (by omega)), if_pos h2, qAc, qAc, qAS _ _ rfl]; rfl
 rw [if_neg (by rw [decide_eq_true_eq]; omega), if_neg h2, qCK, qCo]
 by_cases h3 : c.toNat = 34
 ·rw [if_pos (decide_eq_true (by omega)), if_pos h3, w78_1, b78_1, decide_eq_true (by omega), qCU, qAc, qAc, qAS _ _ rfl]; rfl
 rw [if_neg (by rw [decide_eq_true_eq]; omega), if_neg h3, qCK, w78_1, b78_1, qCo]
 by_cases h4 : c.toNat = 92
 ·rw [if_pos (decide_eq_true (by omega)), if_pos h4, qAc, qAc, qAS _ _ rfl]; rfl
 rw [if_neg (by rw [decide_eq_true_eq]; omega), if_neg h4, qAc, qAc, qAS _ _ rfl]; rfl
theorem qPZ (s : List UInt8) (e : Int) : Om 28 [P0, kI e] [rO s 0] = some (.tup [], [rO s e]) := by
 refine (qAC rfl).trans ?_
 show lim tab.get S 28 1 0 [P0, kI e] { ims := [rO s 0], owns := .nil } = _
 rw [w28_0, b28_0]
 simp (maxSteps := 9999999) +contextual only [exa, ne_eq, not_false_eq_true, reduceAdd, reduceMul, reduceLT, reduceLeDiff, reduceEqDiff, Int.reduceLT, Int.reduceLE, Int.reduceEq, Int.reduceToNat, exY, qBl, qAX, qAY, qB8, qCb, qAU, oneOf]
theorem qNt (s : List UInt8) (e f : Int) (hf : ¬ f = 0) : Om 28 [P0, kI e] [rO s f] = some (.tup [], [rO s f]) := by
 refine (qAC rfl).trans ?_
 show lim tab.get S 28 1 0 [P0, kI e] { ims := [rO s f], owns := .nil } = _
 rw [w28_0, b28_0]
 simp (maxSteps := 9999999) +contextual only [exa, ne_eq, not_false_eq_true, reduceAdd, reduceMul, reduceLT, reduceLeDiff, reduceEqDiff, Int.reduceLT, Int.reduceLE, Int.reduceEq, Int.reduceToNat, exY, qBl, qAX, qAY, qB8, qCb, qAU, hf, oneOf]
theorem u28 {β : Type} {k : TVal → Heap → Option β} {h : Heap} {d : Nat} (r : Ref) (s : List UInt8) (e : Int) (hg : h.get r = some (rO s 0)) : vcall Om (.v (.c (.func 28 []))) [.v (.c (.ptr r 0)), kI e] h d k = k (.tup []) (h.put r (rO s e)) :=
 qAZ 28 r 0 [] [kI e] _ _ _ rfl rfl hg (qAH _ _) (qAH _ _) rfl (qPZ s e)
theorem u28b {β : Type} {k : TVal → Heap → Option β} {h : Heap} {d : Nat} (r : Ref) (s : List UInt8) (e f : Int) (hf : ¬ f = 0) (hg : h.get r = some (rO s f)) : vcall Om (.v (.c (.func 28 []))) [.v (.c (.ptr r 0)), kI e] h d k = k (.tup []) (h.put r (rO s f)) :=
 qAZ 28 r 0 [] [kI e] _ _ _ rfl rfl hg (qAH _ _) (qAH _ _) rfl (qNt s e f hf)
theorem qF2 (s : List UInt8) (b : UInt8) : byteRows s ++ [[.int .u8 (b.toNat : Int)]] = byteRows (s ++ [b]) := by simp [byteRows]
def tGo : List UInt8 → List UInt8 → Option (List UInt8 × List UInt8)
 | [], _ => none
 | [c], acc => if c.toNat < 32 then none else if c.toNat = 34 then some (acc, []) else none
 | c :: d :: s, acc =>
  if c.toNat < 32 then none
  else if c.toNat = 34 then some (acc, d :: s)
  else if c.toNat = 92 then (match meantM d with
   | none => none
   | some x => tGo s (acc ++ [x]))
  else tGo (d :: s) (acc ++ [c])
def tRes (s : List UInt8) : Option (List UInt8 × List UInt8) → Res1
 | none => some (kS [], [rO s 11])
 | some (o, r) => some (kS o, [rO r 0])
theorem qF0 (s : List UInt8) (h : Heap) (v : Cell) (hg : h.get (.im 0) = some (rO s 0)) : lim tab.get S 49 1 3 [P0] h = some (kS [], [rO s 11]) := by
 rw [w49_3, b49_3, u28 (.im 0) s 11 hg, qAc]
 exact qAg false [.c (.p (.str []))] _ (by simp only [exP]) (qAO h 0 _ _ (by rw [hg]; rfl)) (qAH s 11)
theorem qJE (s : List UInt8) (hs : s.length ≤ 1073741824) : ∀ (m i : Nat) (acc : List UInt8) (v : Cell) (h : Heap), s.length - i ≤ m → i ≤ s.length → acc.length ≤ i → Grow [26, 78] 1 v (byteRows acc) h → h.get (.im 0) = some (rO s 0) →
  lim tab.get S 49 1 1 [P0, .v (.c v), kI (i : Int)] h = tRes s (tGo (s.drop i) acc) := by
 intro m
 induction m with
 | zero =>
  intro i acc v h hm hl ha G hg
  have lt : ¬ (i : Int) < (s.length : Int) := by omega
  rw [w49_1, b49_1]
  simp (maxSteps := 9999999) +contextual only [exa, ne_eq, not_false_eq_true, reduceAdd, reduceMul, reduceLT, reduceLeDiff, reduceEqDiff, Int.reduceLT, Int.reduceLE, Int.reduceEq, Int.reduceToNat, exY, hg, qAX, qAY, qAU, lt, if_false, oneOf]
  rw [qF0 s h v hg, List.drop_eq_nil_of_le (by omega)]; rfl
 | succ m ih =>
  intro i acc v h hm hl ha G hg
  by_cases hi : i < s.length
  ·obtain ⟨c, hcb⟩ : ∃ c, s[i]? = some c := ⟨s[i]'hi, by simp⟩
   have hd : s.drop i = c :: s.drop (i + 1) := by
    obtain ⟨h1, h2⟩ := List.getElem?_eq_some_iff.1 hcb
    rw [List.drop_eq_getElem_cons h1, h2]
   have lt : (i : Int) < (s.length : Int) := by omega
   have ew : IntKind.i64.wrap ((i : Int) + 1) = ((i + 1 : Nat) : Int) := by rw [qAF _ (by omega) (by omega)]; omega
   rw [hd]
   by_cases h1 : c.toNat < 32
   ·have h1' : ((c.toNat : Nat) : Int) < 32 := by omega
    rw [w49_1, b49_1]
    have fin : vfin false 1 [.c (.p (.str []))] (h.put (.im 0) (rO s 11)) = some (oneOf [.c (.p (.str []))], [rO s 11]) := qAg false [.c (.p (.str []))] _ (by simp only [exP]) (qAO h 0 _ _ (by rw [hg]; rfl)) (qAH s 11)
    have cf := fun {β : Type} {k : TVal → Heap → Option β} {d : Nat} => u28 (β := β) (k := k) (h := h) (d := d) (.im 0) s 11 hg
    simp (maxSteps := 9999999) +contextual only [exa, ne_eq, not_false_eq_true, reduceAdd, reduceMul, reduceLT, reduceLeDiff, reduceEqDiff, Int.reduceLT, Int.reduceLE, Int.reduceEq, Int.reduceToNat, exY, hg, qAX, qAY, qAU, lt, hcb, h1', cf, if_true, oneOf]
    cases s.drop (i + 1) <;> simp [tGo, h1, tRes]
   have h1' : ¬ ((c.toNat : Nat) : Int) < 32 := by omega
   by_cases h2 : c.toNat = 34
   ·have h2' : ((c.toNat : Nat) : Int) = 34 := by omega
    have sl : ∀ {β : Type} {k : TVal → Heap → Option β} {hh : Heap} {d : Nat}, vop Om (.slice 0 true (.k (kS s)) (some (.k (kI ((i + 1 : Nat) : Int)))) none none) hh d k = k (kS (s.drop (i + 1))) hh := fun {β k hh d} => qCw s (i + 1) (by omega)
    have ts : ∀ {β : Type} {k : TVal → Heap → Option β} {d : Nat}, vop Om (.toStr (.k (.v (.c v)))) (h.put (.im 0) (rO (s.drop (i + 1)) 0)) d k = k (kS acc) (h.put (.im 0) (rO (s.drop (i + 1)) 0)) := fun {β k d} => qHk (G.keep fun e _ g hh => hh)
    have fin := qAg false [.c (.p (.str acc))] _ (by simp only [exP]) (qAO h 0 (pcells [.str (s.drop (i + 1)), .int .i64 0]) 0 (by rw [hg]; rfl)) (qAH (s.drop (i + 1)) 0)
    rw [w49_1, b49_1]
    simp (maxSteps := 9999999) +contextual only [exa, ne_eq, not_false_eq_true, reduceAdd, reduceMul, reduceLT, reduceLeDiff, reduceEqDiff, Int.reduceLT, Int.reduceLE, Int.reduceEq, Int.reduceToNat, exY, hg, qAX, qAY, qB8, qAU, lt, hcb, h1', h2', ew, sl, ts, if_true, oneOf]
    cases s.drop (i + 1) <;> simp [tGo, h1, h2, tRes]
   have h2' : ¬ ((c.toNat : Nat) : Int) = 34 := by omega
   have plain : ∀ (hn : ¬ (c.toNat = 92 ∧ i + 1 < s.length)), tGo (c :: s.drop (i + 1)) acc = tGo (s.drop (i + 1)) (acc ++ [c]) := by
    intro hn
    cases hr : s.drop (i + 1) with
    | nil => simp [tGo, h1, h2]
    | cons d t =>
     have : i + 1 < s.length := by
      have := congrArg List.length hr; simp at this; omega
     have : ¬ c.toNat = 92 := fun e => hn ⟨e, this⟩
     simp [tGo, h1, h2, this]
   have go : ∀ (x : UInt8) (j : Nat) (hj : i ≤ j) (hjl : j + 1 ≤ s.length) (dd : Nat) (hd0 : dd ∈ [26, 78]) (hd2 : dd + 1 < 1048576) (t' : Nat), 
     (vop (orc S (lim tab.get S)) (.bslice 1 1 [(.p (.int .u8 0))] [(0, (.k (kU x)))] false) h t' fun x67 h => vop (orc S (lim tab.get S)) (.append 1 1 false (.k (.v (.c v))) (.k x67)) h dd fun x68 h => lim tab.get S 49 1 2 [P0, x68, kI (j : Int)] h) = tRes s (tGo (s.drop (j + 1)) (acc ++ [x])) := by
    intro x j hj hjl dd hd0 hd2 t'
    rw [qAd (.bslice 1 1 [(.p (.int .u8 0))] [(0, (.k (kU x)))] false) (kSl 1 true [[.int .u8 (x.toNat : Int)]]) rfl]
    obtain ⟨v', h', G', e', _, keep⟩ := qF4 (by' := 1) (new := [[.int .u8 (x.toNat : Int)]]) true G hd0 (by simp) (by simp) (by simp [byteRows]; omega) hd2
    rw [e', w49_2, b49_2, qCL, qAF _ (by omega) (by omega)]
    rw [qF2] at G'
    have := ih (j + 1) (acc ++ [x]) v' h' (by omega) hjl (by simp; omega) G' ((keep 0).trans hg)
    rw [show ((j : Int) + 1) = ((j + 1 : Nat) : Int) by omega]
    exact this
   by_cases h4 : c.toNat = 92
   ·have h4' : ((c.toNat : Nat) : Int) = 92 := by omega
    by_cases h5 : i + 1 < s.length
    ·have h5' : ((i + 1 : Nat) : Int) < (s.length : Int) := by omega
     obtain ⟨d, hdb⟩ : ∃ d, s[i + 1]? = some d := ⟨s[i + 1]'h5, by simp⟩
     have hd' : s.drop (i + 1) = d :: s.drop (i + 1 + 1) := by
      obtain ⟨q1, q2⟩ := List.getElem?_eq_some_iff.1 hdb
      rw [List.drop_eq_getElem_cons q1, q2]
     have key : tGo (c :: s.drop (i + 1)) acc = match meantM d with | none => none | some x => tGo (s.drop (i + 1 + 1)) (acc ++ [x]) := by
      rw [hd']; simp [tGo, h1, h2, h4]
     have cm : ∀ {β : Type} {k : TVal → Heap → Option β} {hh : Heap} {e : Nat}, vcall Om (.v (.c (.func 78 []))) [kU d] hh e k = k (meantV d) hh := qAG 78 _ _ rfl (qLs d) (by unfold meantV; split <;> rfl)
     rw [key, w49_1, b49_1]
     cases hmd : meantM d with
     | none =>
      have mv : meantV d = .tup [.c (.p (.int .u8 0)), .c (.p (.bool false))] := by unfold meantV; rw [hmd]
      rw [mv] at cm
      have fin : vfin false 1 [.c (.p (.str []))] (h.put (.im 0) (rO s 11)) = some (oneOf [.c (.p (.str []))], [rO s 11]) := qAg false [.c (.p (.str []))] _ (by simp only [exP]) (qAO h 0 _ _ (by rw [hg]; rfl)) (qAH s 11)
      have cf := fun {β : Type} {k : TVal → Heap → Option β} {d : Nat} => u28 (β := β) (k := k) (h := h) (d := d) (.im 0) s 11 hg
      simp (maxSteps := 9999999) +contextual only [exa, ne_eq, not_false_eq_true, reduceAdd, reduceMul, reduceLT, reduceLeDiff, reduceEqDiff, Int.reduceLT, Int.reduceLE, Int.reduceEq, Int.reduceToNat, exY, hg, qAX, qAY, qAU, lt, hcb, h1', h2', h4', ew, h5', hdb, cm, cf, if_true, if_false, tRes, oneOf]
     | some x =>
      have mv : meantV d = .tup [.c (.p (.int .u8 (x.toNat : Int))), .c (.p (.bool true))] := by unfold meantV; rw [hmd]
      rw [mv] at cm
      have g2 := go x (i + 1) (by omega) (by omega) 78 (by decide) (by decide) 77
      simp (maxSteps := 9999999) +contextual only [exa, ne_eq, not_false_eq_true, reduceAdd, reduceMul, reduceLT, reduceLeDiff, reduceEqDiff, Int.reduceLT, Int.reduceLE, Int.reduceEq, Int.reduceToNat, exY, hg, qAX, qAY, qAU, lt, hcb, h1', h2', h4', ew, h5', hdb, cm, if_true, if_false, oneOf] at g2 ⊢
      exact g2
    ·have h5' : ¬ ((i + 1 : Nat) : Int) < (s.length : Int) := by omega
     have g2 := go c i (by omega) (by omega) 26 (by decide) (by decide) 25
     rw [plain (fun q => h5 q.2), w49_1, b49_1]
     simp (maxSteps := 9999999) +contextual only [exa, ne_eq, not_false_eq_true, reduceAdd, reduceMul, reduceLT, reduceLeDiff, reduceEqDiff, Int.reduceLT, Int.reduceLE, Int.reduceEq, Int.reduceToNat, exY, hg, qAX, qAY, qAU, lt, hcb, h1', h2', h4', ew, h5', if_true, if_false, oneOf] at g2 ⊢
     exact g2
   ·have h4' : ¬ ((c.toNat : Nat) : Int) = 92 := by omega
    have g2 := go c i (by omega) (by omega) 26 (by decide) (by decide) 25
    rw [plain (fun q => h4 q.1), w49_1, b49_1]
    simp (maxSteps := 9999999) +contextual only [exa, ne_eq, not_false_eq_true, reduceAdd, reduceMul, reduceLT, reduceLeDiff, reduceEqDiff, Int.reduceLT, Int.reduceLE, Int.reduceEq, Int.reduceToNat, exY, hg, qAX, qAY, qAU, lt, hcb, h1', h2', h4', ew, if_true, if_false, oneOf] at g2 ⊢
    exact g2
  ·have lt : ¬ (i : Int) < (s.length : Int) := by omega
   rw [w49_1, b49_1]
   simp (maxSteps := 9999999) +contextual only [exa, ne_eq, not_false_eq_true, reduceAdd, reduceMul, reduceLT, reduceLeDiff, reduceEqDiff, Int.reduceLT, Int.reduceLE, Int.reduceEq, Int.reduceToNat, exY, hg, qAX, qAY, qAU, lt, if_false, oneOf]
   rw [qF0 s h v hg, List.drop_eq_nil_of_le (by omega)]; rfl
theorem qPF (s : List UInt8) (hs : s.length ≤ 1073741824) : Om 49 [P0] [rO s 0] = tRes s (tGo s []) := by
 refine (qAC rfl).trans ?_
 show lim tab.get S 49 1 0 [P0] { ims := [rO s 0], owns := .nil } = _
 rw [w49_0, b49_0]
 exact qJE s hs s.length 0 [] _ _ (by omega) (by omega) (by simp) (Grow.nil _ 1 _) rfl
end Go.Proofs.YtiahgnkffnokfaaGreatDoor.Ab
set_option maxHeartbeats 4000000
namespace Go.Proofs.YtiahgnkffnokfaaGreatDoor.Ab
open Go Go.AI
def trimB : List UInt8 → List UInt8
 | [] => []
 | b :: s => if isBl b.toNat = true then trimB s else b :: s
theorem qH9 : ∀ (s : List UInt8) (h : Heap), h.get (.im 0) = some setO → lim tab.get S 86 1 1 [kS s, P0] h = some (kS (trimB s), [setO])
 | [], h, hg => by
  have h0 : ¬ (0 : Int) < ((0 : Nat) : Int) := by decide
  have fin := qAg true [.c (.p (.str []))] _ (by simp only [exP]) hg qA3
  rw [w86_1, b86_1]
  simp (maxSteps := 9999999) +contextual only [exa, ne_eq, not_false_eq_true, reduceAdd, reduceMul, reduceLT, reduceLeDiff, reduceEqDiff, Int.reduceLT, Int.reduceLE, Int.reduceEq, Int.reduceToNat, List.length_nil, h0, fin, if_false, trimB, oneOf]
 | b :: s, h, hg => by
  have h1 : (0 : Int) < ((s.length + 1 : Nat) : Int) := by omega
  have h2 : (b :: s)[0]? = some b := rfl
  have hp : h.put (.im 0) setO = h := qCD h 0 _ hg
  have c := fun {β : Type} {k : TVal → Heap → Option β} {d : Nat} => u107 (β := β) (k := k) (d := d) (.im 0) b hg
  rw [hp] at c
  rw [w86_1, b86_1]
  cases h3 : isBl b.toNat
  ·rw [h3] at c
   have fin := qAg true [.c (.p (.str (b :: s)))] _ (by simp only [exP]) hg qA3
   simp (maxSteps := 9999999) +contextual only [exa, ne_eq, not_false_eq_true, reduceAdd, reduceMul, reduceLT, reduceLeDiff, reduceEqDiff, Int.reduceLT, Int.reduceLE, Int.reduceEq, Int.reduceToNat, List.length_cons, h1, h2, c, fin, trimB, h3, oneOf, if_false, Bool.false_eq_true]
  ·rw [h3] at c
   have sl : ∀ {β : Type} {k : TVal → Heap → Option β} {hh : Heap} {d : Nat}, vop Om (.slice 0 true (.k (kS (b :: s))) (some (.k (kI 1))) none none) hh d k = k (kS s) hh := fun {β k hh d} => qCw (b :: s) 1 (by simp)
   simp (maxSteps := 9999999) +contextual only [exa, ne_eq, not_false_eq_true, reduceAdd, reduceMul, reduceLT, reduceLeDiff, reduceEqDiff, Int.reduceLT, Int.reduceLE, Int.reduceEq, Int.reduceToNat, List.length_cons, h1, h2, c, sl, qH9 s h hg, trimB, h3, oneOf, if_true]
theorem u86G {β : Type} {k : TVal → Heap → Option β} {h : Heap} {d : Nat} (r : Ref) (s : List UInt8) (hg : h.get r = some setO) : vcall Om (.v (.c (.func 86 []))) [kS s, .v (.c (.ptr r 0))] h d k = k (kS (trimB s)) (h.put r setO) :=
 qAZ 86 r 0 [kS s] [] _ _ _ rfl rfl hg qA3 qA3 rfl (by
  refine (qAC rfl).trans ?_
  show lim tab.get S 86 1 0 [kS s, P0] { ims := [setO], owns := .nil } = _
  rw [w86_0, b86_0]
  exact qH9 s _ rfl)
theorem qNf (s : List UInt8) : Om 54 [kS s, kS blS] [] = some (kS (trimB s), []) := by
 refine (qAC rfl).trans ?_
 show lim tab.get S 54 0 0 [kS s, kS blS] h0 = _
 rw [w54_0, b54_0]
 by_cases hs : s = []
 ·subst hs
  simp (maxSteps := 9999999) +contextual only [exa, ne_eq, not_false_eq_true, reduceAdd, reduceMul, reduceLT, reduceLeDiff, reduceEqDiff, Int.reduceLT, Int.reduceLE, Int.reduceEq, Int.reduceToNat, trimB, oneOf]
 ·have hl : ¬ ((blS.length : Nat) : Int) = 1 := by decide
  have hbl : ¬ blS = [] := by decide
  have P : ∀ Z : List Cell, Z.length = 256 → put1 Z 0 (pcells setL) = pcells setL := fun Z hz => qAk _ _ (by rw [qAL, qDj, hz])
  simp (maxSteps := 9999999) +contextual only [exa, ne_eq, not_false_eq_true, reduceAdd, reduceMul, reduceLT, reduceLeDiff, reduceEqDiff, Int.reduceLT, Int.reduceLE, Int.reduceEq, Int.reduceToNat, exY, hs, hbl, hl, qDj, u85, P, u86G _ s, List.length_cons, List.length_nil, oneOf]
theorem u54G {β : Type} {k : TVal → Heap → Option β} {h : Heap} {d : Nat} (s : List UInt8) : vcall Om (.v (.c (.func 54 []))) [kS s, kS [32, 9, 10, 13]] h d k = k (kS (trimB s)) h := qAG 54 _ _ rfl (qNf s) rfl
theorem qKw (s : List UInt8) (e : Int) : Om 27 [P0] [rO s e] = some (.tup [], [rO (trimB s) e]) := by
 refine (qAC rfl).trans ?_
 show lim tab.get S 27 1 0 [P0] { ims := [rO s e], owns := .nil } = _
 have c := fun {β : Type} {k : TVal → Heap → Option β} {h : Heap} {d : Nat} => u54G (β := β) (k := k) (h := h) (d := d) s
 rw [w27_0, b27_0]
 simp (maxSteps := 9999999) +contextual only [exa, ne_eq, not_false_eq_true, reduceAdd, reduceMul, reduceLT, reduceLeDiff, reduceEqDiff, Int.reduceLT, Int.reduceLE, Int.reduceEq, Int.reduceToNat, exY, qBl, qAX, qAY, qB8, qCb, qAU, c, oneOf]
theorem qDJ {β : Type} {k : TVal → Heap → Option β} {h : Heap} {d : Nat} (r : Ref) (s : List UInt8) (e : Int) (hg : h.get r = some (rO s e)) : vcall Om (.v (.c (.func 27 []))) [.v (.c (.ptr r 0))] h d k = k (.tup []) (h.put r (rO (trimB s) e)) :=
 qAZ 27 r 0 [] [] _ _ _ rfl rfl hg (qAH _ _) (qAH _ _) rfl (qKw s e)
def txtV (s : List UInt8) : VT := .mk 3 false 0 s .nil .nil
def qV : Option (List UInt8 × List UInt8) → List UInt8
 | none => []
 | some (o, _) => o
def qL (s : List UInt8) : Option (List UInt8 × List UInt8) → List UInt8
 | none => s
 | some (_, r) => r
def qE : Option (List UInt8 × List UInt8) → Int
 | none => 11
 | some _ => 0
theorem qOn (s : List UInt8) (hs : s.length ≤ 1073741824) : Om 49 [P0] [rO s 0] = some (kS (qV (tGo s [])), [rO (qL s (tGo s [])) (qE (tGo s []))]) := by
 rw [qPF s hs]
 cases tGo s [] with
 | none => rfl
 | some p => obtain ⟨o, r⟩ := p; rfl
theorem u49 {β : Type} {k : TVal → Heap → Option β} {h : Heap} {d : Nat} (r : Ref) (s : List UInt8) (hs : s.length ≤ 1073741824) (hg : h.get r = some (rO s 0)) : vcall Om (.v (.c (.func 49 []))) [.v (.c (.ptr r 0))] h d k = k (kS (qV (tGo s []))) (h.put r (rO (qL s (tGo s [])) (qE (tGo s [])))) :=
 qAZ 49 r 0 [] [] _ _ _ rfl rfl hg (qAH _ _) (qAH _ _) rfl (qOn s hs)
theorem x71 (o : List UInt8) : Om 71 [kA (txtV o).row] [] = some (kB false, []) := (qAC rfl).trans (qBA blks_ok 300 71 0 0 _ _ _ (by kernel_rfl))
theorem x72 : Om 72 [.v (.c (.p .nilslice))] [] = some (kI 0, []) := (qAC rfl).trans (qBA blks_ok 300 72 0 0 _ _ _ (by kernel_rfl))
theorem qHH {β : Type} {O : Oracle} {h : Heap} {d : Nat} {kt : TVal → Heap → AI.Touch → Option β} : vtouch O (.build Z6 []) h d kt = kt (.v (.agg Z6)) h noTouch := qBI _ _ rfl
theorem qGT {β : Type} {O : Oracle} {h : Heap} {d : Nat} {kt : TVal → Heap → AI.Touch → Option β} (r : Ref) (i : Nat) : vtouch O (.nilck (.k (.v (.c (.ptr r i))))) h d kt = kt (.v (.c (.ptr r i))) h noTouch := qBI _ _ rfl
theorem ap12 : AI.Touch.apart ⟨[(Ref.own 12 1).site], [], false⟩ ⟨[(Ref.own 2 1).site], [(Ref.own 2 1).site], false⟩ = true := rfl
theorem qL6 (t : List UInt8) (v : List PVal) (r : List UInt8) (e : Int) (hv : v.length = 6) (ht : t.length ≤ 20000) (he : ¬ e = 0) (H26 : Om 26 [P0, kI 1] [rO t 0] = some (kA v, [rO r e])) :
  Om 13 [kS t] [] = some (.tup [.agg Z6, .c (.p (.int .i64 e))], []) := by
 refine (qAC rfl).trans ?_
 show lim tab.get S 13 0 0 [kS t] h0 = _
 have l : ¬ (20000 : Int) < ((t.length : Nat) : Int) := by omega
 have c26 : ∀ {β : Type} {k : TVal → Heap → Option β} {h : Heap} {d : Nat} (x : Ref), h.get x = some (rC t) → vcall Om (.v (.c (.func 26 []))) [.v (.c (.ptr x 0)), kI 1] h d k = k (kA v) (h.put x (.cells [.p (.str r), .p (.int .i64 e)] 0)) := fun {β k h d} x hg =>
  qAZ 26 x 0 [] [kI 1] _ _ _ rfl rfl hg (qAH _ _) (qAH _ _) (by simp only [exP]) H26
 have c27 : ∀ {β : Type} {k : TVal → Heap → Option β} {h : Heap} {d : Nat} (x : Ref), h.get x = some (.cells [.p (.str r), .p (.int .i64 e)] 0) → vcall Om (.v (.c (.func 27 []))) [.v (.c (.ptr x 0))] h d k = k (.tup []) (h.put x (.cells [.p (.str (trimB r)), .p (.int .i64 e)] 0)) := fun {β k h d} x hg => qDJ x r e hg
 have c28 : ∀ {β : Type} {k : TVal → Heap → Option β} {h : Heap} {d : Nat} (x : Ref), h.get x = some (.cells [.p (.str (trimB r)), .p (.int .i64 e)] 0) → vcall Om (.v (.c (.func 28 []))) [.v (.c (.ptr x 0)), kI 12] h d k = k (.tup []) (h.put x (.cells [.p (.str (trimB r)), .p (.int .i64 e)] 0)) := fun {β k h d} x hg => u28b x (trimB r) 12 e he hg
 have pa : ∀ Z : List Cell, Z.length = 6 → put1 Z 0 (pcells v) = pcells v := fun Z hz => qAk _ _ (by rw [qAL, hv, hz])
 have pl : (pcells v).length = 6 := by rw [qAL, hv]
 have pt : (pcells v).take 6 = pcells v := List.take_of_length_le (by omega)
 rw [w13_0, b13_0]
 by_cases hr : trimB r = []
 ·simp (maxSteps := 9999999) +contextual only [exa, ne_eq, not_false_eq_true, reduceAdd, reduceMul, reduceLT, reduceLeDiff, reduceEqDiff, Int.reduceLT, Int.reduceLE, Int.reduceEq, Int.reduceToNat, exW, exY, qBl, qAX, qAY, qAU, l, c26, c27, hr, he, pa, pl, pt, if_false, oneOf, qHH, qGT, qFC, ap12, w13_1, b13_1, w13_2, b13_2]
  exact qAS _ _ rfl
 ·simp (maxSteps := 9999999) +contextual only [exa, ne_eq, not_false_eq_true, reduceAdd, reduceMul, reduceLT, reduceLeDiff, reduceEqDiff, Int.reduceLT, Int.reduceLE, Int.reduceEq, Int.reduceToNat, exW, exY, qBl, qAX, qAY, qAU, l, c26, c27, c28, hr, he, pa, pl, pt, if_false, oneOf, qHH, qGT, qFC, ap12, w13_1, b13_1, w13_2, b13_2]
  exact qAS _ _ rfl
end Go.Proofs.YtiahgnkffnokfaaGreatDoor.Ab
set_option maxHeartbeats 4000000
namespace Go.Proofs.YtiahgnkffnokfaaGreatDoor.Ab
open Go Go.AI
def bytesOf (l : List Int) : List UInt8 := l.map fun n => UInt8.ofNat n.toNat
end Go.Proofs.YtiahgnkffnokfaaGreatDoor.Ab
set_option maxHeartbeats 4000000
namespace Go.AI
section
variable {β : Type} {O : Oracle} {h : Heap} {d : Nat} {k : TVal → Heap → Option β}
theorem qIj {sz by' : Nat} {j lb : Nat} {capb : Option Nat} {ys : List Cell} {ib : Nat} (hb : lb ≠ 0) (hm : lb * by' ≤ 1099511627776) (gb : h.get (.im j) = some (.cells ys ib)) (ly : ys.length = lb * sz) :
  vop O (.append sz by' true (.k (.v (.c (.p .nilslice)))) (.k (.v (.c (.sref (.im j) 0 lb capb sz))))) h d k = k (.v (.c (.sref (.im h.ims.length) 0 lb none sz))) (h.push (.cells ys 0)) := by
 have ea : appendTo sz by' true (.v (.c (.p .nilslice))) none ys lb = some ⟨fun r => .v (.c (.sref r 0 lb none sz)), [], some (.cells ys 0), true⟩ := by
  unfold appendTo
  rw [if_neg hb]
  dsimp only
  unfold freshRow
  rw [if_pos rfl, if_pos (by omega)]
 show opK O _ .nil h d k = _
 rw [qAn]
 have : slow O (.append sz by' true (.k (.v (.c (.p .nilslice)))) (.k (.v (.c (.sref (.im j) 0 lb capb sz))))) .nil h d = some (.v (.c (.sref (.im h.ims.length) 0 lb none sz)), h.push (.cells ys 0)) := by
  unfold slow
  show ((Plan.go [.im j] _).exec O d h).map _ = _
  simp only [Plan.exec, goOp, List.mapM_cons, List.mapM_nil, gb, Option.pure_def, Option.bind_eq_bind, Option.bind_some, dstRef, srcRef, splitNeeds, qHI sz j lb capb ys ib ly, ea]
  rfl
 rw [this]; rfl
theorem qHM (q : Nat) (h : Heap) (fr : List Ref) (e : reach h fuelReach ((ims (q + 1)).flatMap fun r => match h.get r with | some o => o.refs | none => []) (ims (q + 1)) = fr) : vfin true (q + 1) [] h = some (.tup [], fr.map fun r => match h.get r with | some o => o.ren (inn fr) | none => .dead) := by
 letI : Sym := ⟨fun _ => 0⟩
 rw [qDi]
 unfold finV
 simp only [oneOf, freezeT, List.mapM_nil, Option.pure_def, Option.map_some, List.flatMap_nil, settle, TVal.refs, List.append_nil, List.map_nil, TVal.ren, if_true, ite_self]
 subst e
 rfl
end
end Go.AI
namespace Go.Proofs.YtiahgnkffnokfaaGreatDoor.Ab
open Go Go.AI
theorem qO2 (s w t : List UInt8) (hw : trimB s = w ++ t) : Om 79 [P0, kS w] [rO s 0] = some (.tup [], [rO t 0]) := by
 refine (qAC rfl).trans ?_
 show lim tab.get S 79 1 0 [P0, kS w] { ims := [rO s 0], owns := .nil } = _
 have c27 := fun {β : Type} {k : TVal → Heap → Option β} {h : Heap} {d : Nat} (hg : h.get (.im 0) = some (rO s 0)) => qDJ (β := β) (k := k) (h := h) (d := d) (.im 0) s 0 hg
 have c48 : ∀ {β : Type} {k : TVal → Heap → Option β} {h : Heap} {d : Nat}, h.get (.im 0) = some (rO (trimB s) 0) → vcall Om (.v (.c (.func 48 []))) [P0, kS w] h d k = k (kB true) (h.put (.im 0) (rO t 0)) := fun {β k h d} hg => by
  rw [u48 (.im 0) (trimB s) w hg, hw]
  simp
 rw [w79_0, b79_0, c27 (qBl s 0)]
 have g1 : ((Heap.mk [rO s 0] .nil).put (.im 0) (rO (trimB s) 0)).get (.im 0) = some (rO (trimB s) 0) := rfl
 rw [c48 g1]
 simp (maxSteps := 9999999) +contextual only [exa, ne_eq, not_false_eq_true, reduceAdd, reduceMul, reduceLT, reduceLeDiff, reduceEqDiff, Int.reduceLT, Int.reduceLE, Int.reduceEq, Int.reduceToNat, oneOf]
 rfl
theorem qGJ {β : Type} {k : TVal → Heap → Option β} {h : Heap} {d : Nat} (r : Ref) (s w t : List UInt8) (hw : trimB s = w ++ t) (hg : h.get r = some (rO s 0)) : vcall Om (.v (.c (.func 79 []))) [.v (.c (.ptr r 0)), kS w] h d k = k (.tup []) (h.put r (rO t 0)) :=
 qAZ 79 r 0 [] [kS w] _ _ _ rfl rfl hg (qAH _ _) (qAH _ _) rfl (qO2 s w t hw)
structure Ent (d : Int) (s : List UInt8) (key : List UInt8) (v : VT) (t : List UInt8) : Prop where
 q : ∃ q q2 q3, trimB s = [34] ++ q ∧ q.length ≤ 1073741824 ∧ tGo q [] = some (key, q2) ∧ trimB q2 = [58] ++ q3 ∧ Om 26 [P0, kI (d + 1)] [rO q3 0] = some (kA v.row, [rO t 0])
 hd : 0 ≤ d ∧ d ≤ 100
abbrev boxO (i : Nat) : AObj := .cells [.ptr (.im i) 0] 0
abbrev intO (d : Int) : AObj := .cells [.p (.int .i64 d)] 0
def eRow (key : List UInt8) (v : VT) : List PVal := .str key :: v.row
def H4 (a : List UInt8) (d : Int) (L : AObj) : Heap := .mk [boxO 1, rO a 0, intO d, L] .nil
theorem H4_0 (a : List UInt8) (d : Int) (L : AObj) : (H4 a d L).get (.im 0) = some (boxO 1) := id rfl
theorem H4_1 (a : List UInt8) (d : Int) (L : AObj) : (H4 a d L).get (.im 1) = some (rO a 0) := id rfl
theorem H4_2 (a : List UInt8) (d : Int) (L : AObj) : (H4 a d L).get (.im 2) = some (intO d) := id rfl
theorem H4_3 (a : List UInt8) (d : Int) (cs : List Cell) (i : Nat) : (H4 a d (.cells cs i)).get (.im 3) = some (.cells cs i) := id rfl
theorem qPz (a b : List UInt8) (d : Int) (L : AObj) : (H4 a d L).put (.im 1) (rO b 0) = H4 b d L := id rfl
theorem qQA (a : List UInt8) (d : Int) (L L' : AObj) : (H4 a d L).put (.im 3) L' = H4 a d L' := id rfl
theorem H4_l (a : List UInt8) (d : Int) (L : AObj) : (H4 a d L).ims.length = 4 := id rfl
theorem qII (h : Heap) (d g : Nat) (o x : AObj) (i : Nat) : (h.own d g o).put (.im i) x = (h.put (.im i) x).own d g o := id rfl
theorem qOq (a : List UInt8) (d : Int) (L : AObj) (i : Nat) : (H4 a d L).gen i = 0 := id rfl
theorem qIV (h : Heap) (d g : Nat) (o : AObj) : (h.own d g o).ims.length = h.ims.length := id rfl
theorem push_len (h : Heap) (o : AObj) : (h.push o).ims.length = h.ims.length + 1 := by show (h.ims ++ [o]).length = _; simp
theorem qHR (h : Heap) (cs : List Cell) (i n : Nat) (hn : h.ims.length = n) : (h.push (.cells cs i)).get (.im n) = some (.cells cs i) := by rw [← hn]; exact qHE h _ (fun e => by cases e)
theorem qDq (h : Heap) (o : AObj) (i : Nat) (hi : i < h.ims.length) : (h.push o).get (.im i) = h.get (.im i) := by
 unfold Heap.push Heap.get
 simp only [List.getElem?_append_left hi]
theorem qGQ (h : Heap) (o x : AObj) (i : Nat) (hi : i < h.ims.length) : (h.push o).put (.im i) x = (h.put (.im i) x).push o := by
 show Heap.mk ((h.ims ++ [o]).set i x) h.owns = Heap.mk (h.ims.set i x ++ [o]) h.owns
 rw [List.set_append_left _ _ hi]
theorem qNE {β : Type} {k : TVal → Heap → Option β} {h : Heap} {d : Nat} (z c0 c1 c2 c3 c4 c5 c6 : Cell) (zs : List Cell) (hz : zs.length = 6) : vop Om (.bslice 7 1 (z :: zs) [(0, .k (.v (.agg [c0, c1, c2, c3, c4, c5, c6])))] true) h d k = k (.v (.c (.sref (.im h.ims.length) 0 1 (some 1) 7))) (h.push (.cells [c0, c1, c2, c3, c4, c5, c6] 0)) := by
 match zs, hz with
 | [z1, z2, z3, z4, z5, z6], _ =>
  show opK Om _ .nil h d k = _
  rw [qAn]; rfl
theorem qNW (d : Int) (s key : List UInt8) (v : VT) (t : List UInt8) (E : Ent d s key v t) :
  Om 80 [P0, .v (.c (.ptr (.im 2) 0)), .v (.c (.ptr (.im 3) 0))] [boxO 1, rO s 0, intO d, .cells [.p .nilslice] 0] =
   some (.tup [], [boxO 1, rO t 0, intO d, .cells [.sref (.im 4) 0 1 none 7] 0, .cells (pcells (eRow key v)) 0]) := by
 obtain ⟨⟨q, q2, q3, e1, el, e2, e3, e4⟩, hd⟩ := E
 refine (qAC rfl).trans ?_
 show lim tab.get S 80 4 0 [P0, .v (.c (.ptr (.im 2) 0)), .v (.c (.ptr (.im 3) 0))] (H4 s d (.cells [.p .nilslice] 0)) = _
 have c1 := fun {β : Type} {k : TVal → Heap → Option β} {h : Heap} {e : Nat} (hg : h.get (.im 1) = some (rO s 0)) => qGJ (β := β) (k := k) (h := h) (d := e) (.im 1) s [34] q e1 hg
 have c2 := fun {β : Type} {k : TVal → Heap → Option β} {h : Heap} {e : Nat} (hg : h.get (.im 1) = some (rO q 0)) => u49 (β := β) (k := k) (h := h) (d := e) (.im 1) q el hg
 have c3 := fun {β : Type} {k : TVal → Heap → Option β} {h : Heap} {e : Nat} (hg : h.get (.im 1) = some (rO q2 0)) => qGJ (β := β) (k := k) (h := h) (d := e) (.im 1) q2 [58] q3 e3 hg
 have c4 : ∀ {β : Type} {k : TVal → Heap → Option β} {h : Heap} {e : Nat}, h.get (.im 1) = some (rO q3 0) → vcall Om (.v (.c (.func 26 []))) [.v (.c (.ptr (.im 1) 0)), kI (d + 1)] h e k = k (kA v.row) (h.put (.im 1) (rO t 0)) := fun {β k h e} hg =>
  qAZ 26 (.im 1) 0 [] [kI (d + 1)] _ _ _ rfl rfl hg (qAH _ _) (qAH _ _) (by simp only [exP]) e4
 rw [e2] at c2
 have ed : IntKind.i64.wrap (d + 1) = d + 1 := qAF _ (by omega) (by omega)
 obtain ⟨a1, a2, a3, a4, a5, a6, hrow⟩ : ∃ a1 a2 a3 a4 a5 a6, v.row = [a1, a2, a3, a4, a5, a6] := by cases v; exact ⟨_, _, _, _, _, _, rfl⟩
 unfold eRow
 rw [hrow] at c4 ⊢
 have pr : pcells [a1, a2, a3, a4, a5, a6] = [.p a1, .p a2, .p a3, .p a4, .p a5, .p a6] := rfl
 have ap := fun {β : Type} {k : TVal → Heap → Option β} {h : Heap} {e : Nat} (gb : h.get (.im 4) = some (.cells [.p (.str key), .p a1, .p a2, .p a3, .p a4, .p a5, .p a6] 0)) => qIj (O := Om) (k := k) (d := e) (sz := 7) (by' := 104) (lb := 1) (capb := some 1) (by omega) (by omega) gb rfl
 rw [w80_0, b80_0]
 simp (maxSteps := 9999999) +contextual only [exa, ne_eq, not_false_eq_true, reduceAdd, reduceMul, reduceLT, reduceLeDiff, reduceEqDiff, Int.reduceLT, Int.reduceLE, Int.reduceEq, Int.reduceToNat, exY, H4_0, H4_1, H4_2, H4_3, qPz, qQA, H4_l, qII, qAX, qAY, qAU, c1, c2, c3, c4, qV, qL, qE, ed, if_false, pr, qNE, qOq, qIV, push_len, qHR, qGQ, qDq, ap, oneOf]
 exact (qHM 3 _ [.im 0, .im 1, .im 2, .im 3, .im 5] rfl).trans rfl
def H5 (a : List UInt8) (d : Int) (L E : AObj) : Heap := .mk [boxO 1, rO a 0, intO d, L, E] .nil
theorem H5_0 (a : List UInt8) (d : Int) (L E : AObj) : (H5 a d L E).get (.im 0) = some (boxO 1) := id rfl
theorem H5_1 (a : List UInt8) (d : Int) (L E : AObj) : (H5 a d L E).get (.im 1) = some (rO a 0) := id rfl
theorem H5_2 (a : List UInt8) (d : Int) (L E : AObj) : (H5 a d L E).get (.im 2) = some (intO d) := id rfl
theorem H5_3 (a : List UInt8) (d : Int) (cs : List Cell) (i : Nat) (E : AObj) : (H5 a d (.cells cs i) E).get (.im 3) = some (.cells cs i) := id rfl
theorem H5_4 (a : List UInt8) (d : Int) (cs : List Cell) (i : Nat) (L : AObj) : (H5 a d L (.cells cs i)).get (.im 4) = some (.cells cs i) := id rfl
theorem qQO (a b : List UInt8) (d : Int) (L E : AObj) : (H5 a d L E).put (.im 1) (rO b 0) = H5 b d L E := id rfl
theorem qPx (a : List UInt8) (d : Int) (L L' E : AObj) : (H5 a d L E).put (.im 3) L' = H5 a d L' E := id rfl
theorem qQL (a : List UInt8) (d : Int) (L E E' : AObj) : (H5 a d L E).put (.im 4) E' = H5 a d L E' := id rfl
theorem H5_l (a : List UInt8) (d : Int) (L E : AObj) : (H5 a d L E).ims.length = 5 := id rfl
theorem qPP (a : List UInt8) (d : Int) (L E : AObj) (i : Nat) : (H5 a d L E).gen i = 0 := id rfl
theorem qMz (n : Nat) (xs : List PVal) (hx : xs.length = n * 7) (hn : n ≤ 100000) (d : Int) (s key : List UInt8) (v : VT) (t : List UInt8) (E : Ent d s key v t) :
  Om 80 [P0, .v (.c (.ptr (.im 2) 0)), .v (.c (.ptr (.im 3) 0))] [boxO 1, rO s 0, intO d, .cells [.sref (.im 4) 0 n none 7] 0, .cells (pcells xs) 0] =
   some (.tup [], [boxO 1, rO t 0, intO d, .cells [.sref (.im 5) 0 (n + 1) none 7] 0, .dead, .cells (pcells (xs ++ eRow key v)) 0]) := by
 obtain ⟨⟨q, q2, q3, e1, el, e2, e3, e4⟩, hd⟩ := E
 refine (qAC rfl).trans ?_
 show lim tab.get S 80 5 0 [P0, .v (.c (.ptr (.im 2) 0)), .v (.c (.ptr (.im 3) 0))] (H5 s d (.cells [.sref (.im 4) 0 n none 7] 0) (.cells (pcells xs) 0)) = _
 have c1 := fun {β : Type} {k : TVal → Heap → Option β} {h : Heap} {e : Nat} (hg : h.get (.im 1) = some (rO s 0)) => qGJ (β := β) (k := k) (h := h) (d := e) (.im 1) s [34] q e1 hg
 have c2 := fun {β : Type} {k : TVal → Heap → Option β} {h : Heap} {e : Nat} (hg : h.get (.im 1) = some (rO q 0)) => u49 (β := β) (k := k) (h := h) (d := e) (.im 1) q el hg
 have c3 := fun {β : Type} {k : TVal → Heap → Option β} {h : Heap} {e : Nat} (hg : h.get (.im 1) = some (rO q2 0)) => qGJ (β := β) (k := k) (h := h) (d := e) (.im 1) q2 [58] q3 e3 hg
 have c4 : ∀ {β : Type} {k : TVal → Heap → Option β} {h : Heap} {e : Nat}, h.get (.im 1) = some (rO q3 0) → vcall Om (.v (.c (.func 26 []))) [.v (.c (.ptr (.im 1) 0)), kI (d + 1)] h e k = k (kA v.row) (h.put (.im 1) (rO t 0)) := fun {β k h e} hg =>
  qAZ 26 (.im 1) 0 [] [kI (d + 1)] _ _ _ rfl rfl hg (qAH _ _) (qAH _ _) (by simp only [exP]) e4
 rw [e2] at c2
 have ed : IntKind.i64.wrap (d + 1) = d + 1 := qAF _ (by omega) (by omega)
 obtain ⟨a1, a2, a3, a4, a5, a6, hrow⟩ : ∃ a1 a2 a3 a4 a5 a6, v.row = [a1, a2, a3, a4, a5, a6] := by cases v; exact ⟨_, _, _, _, _, _, rfl⟩
 unfold eRow
 rw [hrow] at c4 ⊢
 have pr : pcells [a1, a2, a3, a4, a5, a6] = [.p a1, .p a2, .p a3, .p a4, .p a5, .p a6] := rfl
 have ap := fun {β : Type} {k : TVal → Heap → Option β} {h : Heap} {e : Nat} (ga : h.get (.im 4) = some (.cells (pcells xs) 0)) (gb : h.get (.im 5) = some (.cells [.p (.str key), .p a1, .p a2, .p a3, .p a4, .p a5, .p a6] 0)) => qJA (O := Om) (k := k) (d := e) (sz := 7) (by' := 104) (la := n) (lb := 1) (capb := some 1) (by omega) (by omega) ga gb (by rw [qAL, hx]) rfl
 rw [w80_0, b80_0]
 simp (maxSteps := 9999999) +contextual only [exa, ne_eq, not_false_eq_true, reduceAdd, reduceMul, reduceLT, reduceLeDiff, reduceEqDiff, Int.reduceLT, Int.reduceLE, Int.reduceEq, Int.reduceToNat, exY, H5_0, H5_1, H5_2, H5_3, H5_4, qQL, qQO, qPx, H5_l, qII, qAX, qAY, qAU, c1, c2, c3, c4, qV, qL, qE, ed, if_false, pr, qNE, qPP, qIV, push_len, qHR, qGQ, qDq, ap, oneOf]
 have pa : pcells xs ++ [.p (.str key), .p a1, .p a2, .p a3, .p a4, .p a5, .p a6] = pcells (xs ++ [.str key, a1, a2, a3, a4, a5, a6]) := by unfold pcells; simp
 rw [pa]
 have pl := qAI (xs ++ [.str key, a1, a2, a3, a4, a5, a6]) 0
 generalize pcells (xs ++ [.str key, a1, a2, a3, a4, a5, a6]) = Y at pl
 refine (qHM 4 _ [.im 0, .im 1, .im 2, .im 3, .im 4, .im 6] ?_).trans ?_
 ·show reach _ (397 + 1 + 1 + 1) [.im 1, .im 6] (ims 5) = _
  rw [qDE _ _ _ _ (by decide), qAT _ (.im 6) [] (ims 5) (.cells Y 0) (by decide) rfl, pl.1]
  rfl
 ·show some (TVal.tup [], [boxO 1, rO t 0, intO d, AObj.cells [Cell.sref (Ref.im 5) 0 (n + 1) none 7] 0, AObj.dead, (AObj.cells Y 0).ren (inn [.im 0, .im 1, .im 2, .im 3, .im 4, .im 6])]) = _
  rw [pl.2]
end Go.Proofs.YtiahgnkffnokfaaGreatDoor.Ab
set_option maxHeartbeats 4000000
namespace Go.Proofs.YtiahgnkffnokfaaGreatDoor.Ab
open Go Go.AI
theorem qKD {β : Type} {O : Oracle} {k : TVal → Heap → Option β} {h : Heap} {d : Nat} (g : FuncId) (a b c : Ref) : vcall O (.v (.c (.func g [a, b, c]))) [] h d k = vcall O (.v (.c (.func g []))) [.v (.c (.ptr a 0)), .v (.c (.ptr b 0)), .v (.c (.ptr c 0))] h d k := rfl
structure St0 (h : Heap) (s : List UInt8) (d : Int) : Prop where
 g0 : h.get (.im 0) = some (rO s 0)
 g1 : h.get (.im 1) = some (boxO 0)
 g2 : h.get (.im 2) = some (intO d)
 g3 : h.get (.im 3) = some (.cells [.p .nilslice] 0)
structure St1 (h : Heap) (s : List UInt8) (d : Int) (n : Nat) (xs : List PVal) (j : Nat) : Prop where
 g0 : h.get (.im 0) = some (rO s 0)
 g1 : h.get (.im 1) = some (boxO 0)
 g2 : h.get (.im 2) = some (intO d)
 hj : 4 ≤ j
 g3 : h.get (.im 3) = some (.cells [.sref (.im j) 0 n none 7] 0)
 gj : h.get (.im j) = some (.cells (pcells xs) 0)
 hx : xs.length = n * 7
 hn : n ≤ 90000
theorem St0.put {h : Heap} {s t : List UInt8} {d : Int} (A : St0 h s d) : St0 (h.put (.im 0) (rO t 0)) t d :=
 ⟨Heap.zput_self A.g0 (fun e => by cases e), (Heap.zput_ne A.g0 (by decide)).trans A.g1, (Heap.zput_ne A.g0 (by decide)).trans A.g2, (Heap.zput_ne A.g0 (by decide)).trans A.g3⟩
theorem St1.put {h : Heap} {s t : List UInt8} {d : Int} {n : Nat} {xs : List PVal} {j : Nat} (A : St1 h s d n xs j) : St1 (h.put (.im 0) (rO t 0)) t d n xs j :=
 ⟨Heap.zput_self A.g0 (fun e => by cases e), (Heap.zput_ne A.g0 (by decide)).trans A.g1, (Heap.zput_ne A.g0 (by decide)).trans A.g2, A.hj, (Heap.zput_ne A.g0 (by decide)).trans A.g3, (Heap.zput_ne A.g0 (fun e => by cases e; have := A.hj; omega)).trans A.gj, A.hx, A.hn⟩
theorem qNz {h : Heap} {s key t : List UInt8} {v : VT} {d : Int} (A : St0 h s d) (E : Ent d s key v t) :
  ∃ h' j, (∀ {β : Type} (e : Nat) (k : TVal → Heap → Option β), vcall Om (.v (.c (.func 80 [.im 1, .im 2, .im 3]))) [] h e k = k (.tup []) h') ∧ St1 h' t d 1 (eRow key v) j := by
 have n0 : (Ref.im 0) ∉ ([.im 1] : List Ref) := by decide
 have hr : reach h fuelReach ([.v (.c (.ptr (.im 1) 0)), .v (.c (.ptr (.im 2) 0)), .v (.c (.ptr (.im 3) 0))].flatMap TVal.refs) [] = [.im 1, .im 0, .im 2, .im 3] := by
  show reach h (395 + 1 + 1 + 1 + 1 + 1) [.im 1, .im 2, .im 3] [] = _
  rw [qAT _ (.im 1) _ _ _ (by decide) A.g1]
  show reach h (395 + 1 + 1 + 1 + 1) [.im 0, .im 2, .im 3] [.im 1] = _
  rw [qAT _ (.im 0) _ _ _ (by decide) A.g0]
  show reach h (395 + 1 + 1 + 1) [.im 2, .im 3] [.im 1, .im 0] = _
  rw [qAT _ (.im 2) _ _ _ (by decide) A.g2]
  show reach h (395 + 1 + 1) [.im 3] [.im 1, .im 0, .im 2] = _
  rw [qAT _ (.im 3) _ _ _ (by decide) A.g3]
  exact qBa _ _
 have hm : ([.im 1, .im 0, .im 2, .im 3] : List Ref).mapM h.get = some [boxO 0, rO s 0, intO d, .cells [.p .nilslice] 0] := by
  simp only [List.mapM_cons, List.mapM_nil, A.g0, A.g1, A.g2, A.g3, Option.pure_def, Option.bind_eq_bind, Option.bind_some]
 have pl := qAI (eRow key v) 0
 obtain ⟨h', hc, B⟩ := qE7 (O := Om) (h := h) 80 [.v (.c (.ptr (.im 1) 0)), .v (.c (.ptr (.im 2) 0)), .v (.c (.ptr (.im 3) 0))] _ [P0, .v (.c (.ptr (.im 2) 0)), .v (.c (.ptr (.im 3) 0))] _ _ _ _ _ (.tup []) rfl hr hm rfl rfl (qNW d s key v t E) (show (4 : Nat) ≤ 5 by decide) (by decide) rfl
 refine ⟨h', h.ims.length + 0, fun e k => (qKD 80 _ _ _).trans (hc e k), ?_⟩
 have hl : 4 ≤ h.ims.length := by
  have := (Heap.get_im_some A.g3).1
  have := (List.getElem?_eq_some_iff.1 this).1
  omega
 exact ⟨B.own 1 (.im 0) _ rfl rfl (fun e => by cases e), B.own 0 (.im 1) _ rfl rfl (fun e => by cases e), B.own 2 (.im 2) _ rfl rfl (fun e => by cases e), by omega, B.own 3 (.im 3) _ rfl rfl (fun e => by cases e),
  B.new 0 (.cells (pcells (eRow key v)) 0) (congrArg some (pl.2 _)) (fun e => by cases e), by unfold eRow; simp [VT.row_len], by omega⟩
theorem qP5 {j : Nat} (hj : 4 ≤ j) : inn [.im 1, .im 0, .im 2, .im 3, .im j] (.im j) = some (.im 4) := by
 have ne : ∀ i : Nat, i < 4 → decide (Ref.im j = Ref.im i) = false := fun i hi => decide_eq_false (fun e => by cases e; omega)
 unfold inn
 simp only [idx, ne 1 (by decide), ne 0 (by decide), ne 2 (by decide), ne 3 (by decide), cond_false, decide_true, cond_true]
 rfl
theorem qMj {h : Heap} {s key t : List UInt8} {v : VT} {d : Int} {n j : Nat} {xs : List PVal} (A : St1 h s d n xs j) (hn : n ≤ 80000) (E : Ent d s key v t) :
  ∃ h' j, (∀ {β : Type} (e : Nat) (k : TVal → Heap → Option β), vcall Om (.v (.c (.func 80 [.im 1, .im 2, .im 3]))) [] h e k = k (.tup []) h') ∧ St1 h' t d (n + 1) (xs ++ eRow key v) j := by
 have hj := A.hj
 have nj : ∀ i : Nat, i < 4 → Ref.im j ≠ Ref.im i := fun i hi e => by cases e; omega
 have nm : Ref.im j ∉ ([.im 1, .im 0, .im 2, .im 3] : List Ref) := by
  simp only [List.mem_cons, List.not_mem_nil, or_false, not_or]
  exact ⟨nj 1 (by decide), nj 0 (by decide), nj 2 (by decide), nj 3 (by decide)⟩
 have pl := qAI (xs ++ eRow key v) 0
 have px := qAI xs 0
 have hr : reach h fuelReach ([.v (.c (.ptr (.im 1) 0)), .v (.c (.ptr (.im 2) 0)), .v (.c (.ptr (.im 3) 0))].flatMap TVal.refs) [] = [.im 1, .im 0, .im 2, .im 3, .im j] := by
  show reach h (394 + 1 + 1 + 1 + 1 + 1 + 1) [.im 1, .im 2, .im 3] [] = _
  rw [qAT _ (.im 1) _ _ _ (by decide) A.g1]
  show reach h (394 + 1 + 1 + 1 + 1 + 1) [.im 0, .im 2, .im 3] [.im 1] = _
  rw [qAT _ (.im 0) _ _ _ (by decide) A.g0]
  show reach h (394 + 1 + 1 + 1 + 1) [.im 2, .im 3] [.im 1, .im 0] = _
  rw [qAT _ (.im 2) _ _ _ (by decide) A.g2]
  show reach h (394 + 1 + 1 + 1) [.im 3] [.im 1, .im 0, .im 2] = _
  rw [qAT _ (.im 3) _ _ _ (by decide) A.g3]
  show reach h (394 + 1 + 1) [.im j] [.im 1, .im 0, .im 2, .im 3] = _
  rw [qAT _ (.im j) _ _ _ nm A.gj, px.1]
  exact qBa _ _
 have hm : ([.im 1, .im 0, .im 2, .im 3, .im j] : List Ref).mapM h.get = some [boxO 0, rO s 0, intO d, .cells [.sref (.im j) 0 n none 7] 0, .cells (pcells xs) 0] := by
  simp only [List.mapM_cons, List.mapM_nil, A.g0, A.g1, A.g2, A.g3, A.gj, Option.pure_def, Option.bind_eq_bind, Option.bind_some]
 have e5 : ([boxO 0, rO s 0, intO d, .cells [.sref (.im j) 0 n none 7] 0, .cells (pcells xs) 0] : List AObj).map (AObj.ren (inn [.im 1, .im 0, .im 2, .im 3, .im j])) = [boxO 1, rO s 0, intO d, .cells [.sref (.im 4) 0 n none 7] 0, .cells (pcells xs) 0] := by
  show [boxO 1, rO s 0, intO d, AObj.cells [match inn [.im 1, .im 0, .im 2, .im 3, .im j] (.im j) with | some s => .sref s 0 n none 7 | none => .junk] 0, (AObj.cells (pcells xs) 0).ren _] = _
  rw [qP5 hj, px.2]
 have hnd : ([.im 1, .im 0, .im 2, .im 3, .im j] : List Ref).Nodup := by
  have : ([.im 1, .im 0, .im 2, .im 3] : List Ref).Nodup := by decide
  rw [show ([.im 1, .im 0, .im 2, .im 3, .im j] : List Ref) = [.im 1, .im 0, .im 2, .im 3] ++ [.im j] from rfl, List.nodup_append]
  refine ⟨this, by simp, ?_⟩
  intro a ha b hb e
  rw [List.mem_singleton.1 hb] at e
  exact nm (e ▸ ha)
 obtain ⟨h', hc, B⟩ := qE7 (O := Om) (h := h) 80 [.v (.c (.ptr (.im 1) 0)), .v (.c (.ptr (.im 2) 0)), .v (.c (.ptr (.im 3) 0))] _ [P0, .v (.c (.ptr (.im 2) 0)), .v (.c (.ptr (.im 3) 0))] _ _ _ _ _ (.tup []) rfl hr hm rfl e5 (qMz n xs A.hx (by have := A.hn; omega) d s key v t E) (show (5 : Nat) ≤ 6 by decide) hnd rfl
 refine ⟨h', h.ims.length + 0, fun e k => (qKD 80 _ _ _).trans (hc e k), ?_⟩
 have hl : 4 ≤ h.ims.length := by
  have := (Heap.get_im_some A.g3).1
  have := (List.getElem?_eq_some_iff.1 this).1
  omega
 exact ⟨B.own 1 (.im 0) _ rfl rfl (fun e => by cases e), B.own 0 (.im 1) _ rfl rfl (fun e => by cases e), B.own 2 (.im 2) _ rfl rfl (fun e => by cases e), by omega, B.own 3 (.im 3) _ rfl rfl (fun e => by cases e),
  B.new 0 (.cells (pcells (xs ++ eRow key v)) 0) (congrArg some (pl.2 _)) (fun e => by cases e), by have := A.hx; unfold eRow; simp [VT.row_len]; omega, by omega⟩
inductive Tail (d : Int) : List UInt8 → List (List UInt8 × VT) → List UInt8 → Prop
 | done (t : List UInt8) : Tail d (125 :: t) [] t
 | more (u s1 t key : List UInt8) (v : VT) (es : List (List UInt8 × VT)) (E : Ent d u key v s1) (T : Tail d (trimB s1) es t) : Tail d (44 :: u) ((key, v) :: es) t
def eRows (es : List (List UInt8 × VT)) : List PVal := es.flatMap fun p => eRow p.1 p.2
theorem qEy : ∀ s : List UInt8, trimB (trimB s) = trimB s
 | [] => rfl
 | b :: s => by
  by_cases h : isBl b.toNat = true
  ·rw [trimB, if_pos h]; exact qEy s
  ·rw [trimB, if_neg h, trimB, if_neg h]
theorem qAm {b : UInt8} (s : List UInt8) (h : isBl b.toNat = false) : trimB (b :: s) = b :: s := by rw [trimB, h]; rfl
abbrev F80 : TVal := .v (.c (.func 80 [.im 1, .im 2, .im 3]))
theorem qON {h : Heap} {t : List UInt8} {d : Int} {n j : Nat} {xs : List PVal} (A : St1 h (125 :: t) d n xs j) :
  lim tab.get S 50 4 2 [P0, kS [125]] h = some (.tup [], [rO t 0, boxO 0, intO d, .cells [.sref (.im 4) 0 n none 7] 0, .cells (pcells xs) 0]) := by
 have hj := A.hj
 rw [w50_2, b50_2, qGJ (.im 0) (125 :: t) [125] t rfl A.g0]
 have B := A.put (t := t)
 have px := qAI xs 0
 have nm : Ref.im j ∉ (ims 4 : List Ref) := by
  show Ref.im j ∉ [.im 0, .im 1, .im 2, .im 3]
  simp only [List.mem_cons, List.not_mem_nil, or_false, not_or, Ref.im.injEq]
  omega
 generalize h.put (.im 0) (rO t 0) = h at B
 have e : (ims (3 + 1)).flatMap (fun r => match h.get r with | some o => o.refs | none => []) = [.im 0, .im j] := by
  show ([.im 0, .im 1, .im 2, .im 3] : List Ref).flatMap _ = _
  simp only [List.flatMap_cons, List.flatMap_nil, B.g0, B.g1, B.g2, B.g3]
  rfl
 refine (qHM 3 h [.im 0, .im 1, .im 2, .im 3, .im j] ?_).trans ?_
 ·refine (congrArg (fun l => reach h fuelReach l (ims 4)) e).trans ?_
  show reach h (397 + 1 + 1 + 1) [.im 0, .im j] (ims 4) = _
  rw [qDE _ _ _ _ (by decide), qAT _ (.im j) [] (ims 4) _ nm B.gj, px.1]
  exact qBa _ _
 ·have ij : inn [.im 0, .im 1, .im 2, .im 3, .im j] (.im j) = some (.im 4) := by
   have ne : ∀ i : Nat, i < 4 → decide (Ref.im j = Ref.im i) = false := fun i hi => decide_eq_false (fun e => by cases e; omega)
   unfold inn
   simp only [idx, ne 1 (by decide), ne 0 (by decide), ne 2 (by decide), ne 3 (by decide), cond_false, decide_true, cond_true]
   rfl
  simp only [List.map_cons, List.map_nil, B.g0, B.g1, B.g2, B.g3, B.gj, px.2]
  show some (TVal.tup [], [rO t 0, boxO 0, intO d, AObj.cells [match inn [.im 0, .im 1, .im 2, .im 3, .im j] (.im j) with | some s => .sref s 0 n none 7 | none => .junk] 0, AObj.cells (pcells xs) 0]) = _
  rw [ij]
theorem qMc {d : Int} : ∀ {u t : List UInt8} {es : List (List UInt8 × VT)}, Tail d u es t → ∀ (h : Heap) (n j : Nat) (xs : List PVal), St1 h u d n xs j → n + es.length ≤ 80000 →
  lim tab.get S 50 4 1 [P0, kS [125], F80] h = some (.tup [], [rO t 0, boxO 0, intO d, .cells [.sref (.im 4) 0 (n + es.length) none 7] 0, .cells (pcells (xs ++ eRows es)) 0]) := by
 intro u t es T
 induction T with
 | done t =>
  intro h n j xs A hn
  rw [w50_1, b50_1, qIs (125 :: t) [44] A.g0 (by simp), qDf, qON A]
  simp [eRows]
 | more u s1 t key v es E T ih =>
  intro h n j xs A hn
  have hn : n + (es.length + 1) ≤ 80000 := hn
  have tk : (44 :: u).take ([44] : List UInt8).length = [44] := rfl
  rw [w50_1, b50_1, u48 (.im 0) (44 :: u) [44] A.g0, if_pos tk, decide_eq_true tk, qCU]
  show vcall Om F80 [] (h.put (.im 0) (rO u 0)) 20 _ = _
  obtain ⟨h1, j1, hc, B⟩ := qMj (A.put (t := u)) (by omega) E
  rw [hc, qDJ (.im 0) s1 0 B.g0]
  have := ih (h1.put (.im 0) (rO (trimB s1) 0)) (n + 1) j1 (xs ++ eRow key v) B.put (by omega)
  rw [show n + 1 + es.length = n + (es.length + 1) by omega] at this
  refine this.trans ?_
  simp [eRows]
theorem qL9 {d : Int} {s key t : List UInt8} {v : VT} (E : Ent d s key v t) : ∃ q, trimB s = 34 :: q := by
 obtain ⟨⟨q, _, _, e, _⟩, _⟩ := E
 exact ⟨q, e⟩
theorem qMx (s s1 t key : List UInt8) (v : VT) (d : Int) (es : List (List UInt8 × VT)) (E : Ent d (trimB s) key v s1) (T : Tail d (trimB s1) es t) (hn : es.length ≤ 1000) :
  Om 50 [P0, kS [125], F80] [rO s 0, boxO 0, intO d, .cells [.p .nilslice] 0] = some (.tup [], [rO t 0, boxO 0, intO d, .cells [.sref (.im 4) 0 (1 + es.length) none 7] 0, .cells (pcells (eRows ((key, v) :: es))) 0]) := by
 refine (qAC rfl).trans ?_
 show lim tab.get S 50 4 0 [P0, kS [125], F80] (Heap.mk [rO s 0, boxO 0, intO d, .cells [.p .nilslice] 0] .nil) = _
 have A : St0 (Heap.mk [rO s 0, boxO 0, intO d, .cells [.p .nilslice] 0] .nil) s d := ⟨rfl, rfl, rfl, rfl⟩
 generalize Heap.mk [rO s 0, boxO 0, intO d, .cells [.p .nilslice] 0] .nil = h at A
 obtain ⟨q, hq⟩ := qL9 E
 rw [qEy] at hq
 have A1 := A.put (t := trimB s)
 rw [w50_0, b50_0, qDJ (.im 0) s 0 A.g0, qIs (trimB s) [125] A1.g0 (by rw [hq]; simp), qDf]
 obtain ⟨h1, j1, hc, B⟩ := qNz A1 E
 rw [hc, qDJ (.im 0) s1 0 B.g0]
 refine (qMc T (h1.put (.im 0) (rO (trimB s1) 0)) 1 j1 (eRow key v) B.put (by omega)).trans ?_
 rfl
end Go.Proofs.YtiahgnkffnokfaaGreatDoor.Ab
set_option maxHeartbeats 4000000
namespace Go.Proofs.YtiahgnkffnokfaaGreatDoor.Ab
open Go Go.AI
def cmpM (x y : List UInt8) : Int := if bless x y = true then -1 else if (!(bless x y || x == y)) = true then 1 else 0
theorem qG3 (x y : List UInt8) : decide (cmpM x y < 0) = bless x y := by
 unfold cmpM
 cases bless x y
 ·rw [if_neg (by decide)]
  split <;> rfl
 ·rfl
theorem qPS (x : List UInt8) : Om 106 [kS x] [] = some (kB false, []) := by
 refine (qAC rfl).trans ?_
 show lim tab.get S 106 0 0 [kS x] h0 = _
 rw [w106_0, b106_0]
 simp (maxSteps := 9999999) +contextual only [exa, ne_eq, not_false_eq_true, reduceAdd, reduceMul, reduceLT, reduceLeDiff, reduceEqDiff, Int.reduceLT, Int.reduceLE, Int.reduceEq, Int.reduceToNat, oneOf]
theorem qPH (x y : List UInt8) : Om 83 [kS x, kS y] [] = some (kI (cmpM x y), []) := by
 refine (qAC rfl).trans ?_
 show lim tab.get S 83 0 0 [kS x, kS y] h0 = _
 have c := fun {β : Type} {k : TVal → Heap → Option β} {h : Heap} {d : Nat} (x : List UInt8) => qAG (O := Om) (k := k) (h := h) (d := d) 106 [kS x] _ rfl (qPS x) rfl
 rw [w83_0, b83_0]
 unfold cmpM
 cases h1 : bless x y
 ·cases h2 : (x == y)
  ·simp (maxSteps := 9999999) +contextual only [exa, ne_eq, not_false_eq_true, reduceAdd, reduceMul, reduceLT, reduceLeDiff, reduceEqDiff, Int.reduceLT, Int.reduceLE, Int.reduceEq, Int.reduceToNat, c, h1, h2, oneOf, if_true, if_false, Bool.false_eq_true]
  ·simp (maxSteps := 9999999) +contextual only [exa, ne_eq, not_false_eq_true, reduceAdd, reduceMul, reduceLT, reduceLeDiff, reduceEqDiff, Int.reduceLT, Int.reduceLE, Int.reduceEq, Int.reduceToNat, c, h1, h2, oneOf, if_true, if_false, Bool.false_eq_true]
 ·simp (maxSteps := 9999999) +contextual only [exa, ne_eq, not_false_eq_true, reduceAdd, reduceMul, reduceLT, reduceLeDiff, reduceEqDiff, Int.reduceLT, Int.reduceLE, Int.reduceEq, Int.reduceToNat, c, h1, oneOf, if_true]
theorem qE6 (v : VT) : ∃ a1 a2 a3 a4 a5 a6, v.row = [a1, a2, a3, a4, a5, a6] := by cases v; exact ⟨_, _, _, _, _, _, rfl⟩
theorem qPA (p q : List UInt8 × VT) : Om 82 [kA (eRow p.1 p.2), kA (eRow q.1 q.2)] [] = some (kI (cmpM p.1 q.1), []) := by
 refine (qAC rfl).trans ?_
 obtain ⟨a1, a2, a3, a4, a5, a6, ha⟩ := qE6 p.2
 obtain ⟨b1, b2, b3, b4, b5, b6, hb⟩ := qE6 q.2
 unfold eRow
 rw [ha, hb]
 show lim tab.get S 82 0 0 [.v (.agg [.p (.str p.1), .p a1, .p a2, .p a3, .p a4, .p a5, .p a6]), .v (.agg [.p (.str q.1), .p b1, .p b2, .p b3, .p b4, .p b5, .p b6])] h0 = _
 have c := fun {β : Type} {k : TVal → Heap → Option β} {h : Heap} {d : Nat} => qAG (O := Om) (k := k) (h := h) (d := d) 83 [kS p.1, kS q.1] _ rfl (qPH p.1 q.1) rfl
 rw [w82_0, b82_0]
 simp (maxSteps := 9999999) +contextual only [exa, ne_eq, not_false_eq_true, reduceAdd, reduceMul, reduceLT, reduceLeDiff, reduceEqDiff, Int.reduceLT, Int.reduceLE, Int.reduceEq, Int.reduceToNat, c, oneOf]
abbrev Es := List (List UInt8 × VT)
theorem qAw (k : List UInt8) (v : VT) : (eRow k v).length = 7 := by unfold eRow; simp [VT.row_len]
theorem qCg : ∀ l : Es, (eRows l).length = l.length * 7
 | [] => rfl
 | p :: l => by
  have := qCg l
  show (eRow p.1 p.2 ++ eRows l).length = _
  rw [List.length_append, qAw, this, List.length_cons]; omega
theorem qCy : ∀ (l : Es) (i : Nat), (eRows l).drop (i * 7) = eRows (l.drop i)
 | l, 0 => by simp
 | [], i + 1 => by simp [eRows]
 | p :: l, i + 1 => by
  show (eRow p.1 p.2 ++ eRows l).drop ((i + 1) * 7) = _
  rw [List.drop_append, List.drop_eq_nil_of_le (by rw [qAw]; omega), qAw, List.nil_append, show (i + 1) * 7 - 7 = i * 7 by omega, qCy l i]
  rfl
theorem qE1 : ∀ (l : Es) (i : Nat), (eRows l).take (i * 7) = eRows (l.take i)
 | l, 0 => by simp [eRows]
 | [], i + 1 => by simp [eRows]
 | p :: l, i + 1 => by
  show (eRow p.1 p.2 ++ eRows l).take ((i + 1) * 7) = _
  rw [List.take_append, List.take_of_length_le (by rw [qAw]; omega), qAw, show (i + 1) * 7 - 7 = i * 7 by omega, qE1 l i]
  rfl
theorem qCV (l : Es) (i : Nat) (p : List UInt8 × VT) (h : l[i]? = some p) : ((pcells (eRows l)).drop (i * 7)).take 7 = pcells (eRow p.1 p.2) := by
 have hd : l.drop i = p :: l.drop (i + 1) := by
  obtain ⟨h1, h2⟩ := List.getElem?_eq_some_iff.1 h
  rw [List.drop_eq_getElem_cons h1, h2]
 unfold pcells
 rw [← List.map_drop, ← List.map_take, qCy, hd]
 show ((eRow p.1 p.2 ++ eRows (l.drop (i + 1))).take 7).map _ = _
 rw [List.take_append, List.take_of_length_le (by rw [qAw]; omega), qAw, Nat.sub_self, List.take_zero, List.append_nil]
theorem qJy (a b : Es) : eRows (a ++ b) = eRows a ++ eRows b := by unfold eRows; rw [List.flatMap_append]
theorem qFd (l : Es) (i : Nat) (p : List UInt8 × VT) (h : i < l.length) : put1 (pcells (eRows l)) (i * 7) (pcells (eRow p.1 p.2)) = pcells (eRows (l.set i p)) := by
 unfold put1 splice pcells
 have ll : (List.map Cell.p (eRow p.1 p.2)).length = 7 := by rw [List.length_map, qAw]
 rw [ll, ← List.map_take, ← List.map_drop, qE1, show i * 7 + 7 = (i + 1) * 7 by omega, qCy, ← List.map_append, ← List.map_append]
 congr 1
 have hs : l.set i p = l.take i ++ p :: l.drop (i + 1) := by
  rw [List.set_eq_take_append_cons_drop, if_pos h]
 rw [hs, qJy]
 show _ = eRows (l.take i) ++ (eRow p.1 p.2 ++ eRows (l.drop (i + 1)))
 rw [List.append_assoc]
def down : Nat → Es → Es
 | 0, l => l
 | i + 1, l => match l[i + 1]?, l[i]? with
  | some p, some q => if bless p.1 q.1 = true then down i ((l.set (i + 1) q).set i p) else l
  | _, _ => l
theorem qCJ : ∀ (i : Nat) (l : Es), (down i l).length = l.length
 | 0, _ => rfl
 | i + 1, l => by
  unfold down
  split
  ·split
   ·rw [qCJ]; simp
   ·rfl
  ·rfl
def sortM : Nat → Nat → Es → Es
 | 0, _, l => l
 | m + 1, i, l => sortM m (i + 1) (down i l)
abbrev sE0 (n : Nat) : TVal := .v (.c (.sref (.im 0) 0 n none 7))
abbrev F82 : TVal := .v (.c (.func 82 []))
theorem v82 {β : Type} {k : TVal → Heap → Option β} {h : Heap} {d : Nat} (p q : List UInt8 × VT) : vcall Om F82 [.v (.agg (pcells (eRow p.1 p.2))), .v (.agg (pcells (eRow q.1 q.2)))] h d k = k (kI (cmpM p.1 q.1)) h := qAG 82 _ _ (by simp only [exP]) (qPA p q) rfl
theorem qFc (n : Nat) (i0 : Nat) : ∀ (i : Nat) (l : Es) (h : Heap), l.length = n → n ≤ 1000 → i < n → h.get (.im 0) = some (.cells (pcells (eRows l)) 0) →
  ∃ h', h'.get (.im 0) = some (.cells (pcells (eRows (down i l))) 0) ∧ lim tab.get S 125 1 2 [sE0 n, kI 0, kI (n : Int), F82, kI (i0 : Int), kI (i : Int)] h = lim tab.get S 125 1 3 [sE0 n, kI 0, kI (n : Int), F82, kI (i0 : Int)] h'
 | 0, l, h, hl, hn, hi, hg => by
  refine ⟨h, hg, ?_⟩
  have q : ¬ (0 : Int) < ((0 : Nat) : Int) := by decide
  rw [w125_2, b125_2]
  simp (maxSteps := 9999999) +contextual only [exa, ne_eq, not_false_eq_true, reduceAdd, reduceMul, reduceLT, reduceLeDiff, reduceEqDiff, Int.reduceLT, Int.reduceLE, Int.reduceEq, Int.reduceToNat, q, if_false]
 | i + 1, l, h, hl, hn, hi, hg => by
  obtain ⟨p, hp⟩ : ∃ p, l[i + 1]? = some p := ⟨l[i + 1]'(by omega), by simp⟩
  obtain ⟨q, hq⟩ : ∃ q, l[i]? = some q := ⟨l[i]'(by omega), by simp⟩
  have t1 : (0 : Int) < ((i + 1 : Nat) : Int) := by omega
  have t2 : (0 : Int) ≤ ((i + 1 : Nat) : Int) := by omega
  have t3 : (0 : Int) ≤ ((i : Nat) : Int) := by omega
  have t4 : i < n := by omega
  have ew : IntKind.i64.wrap (((i + 1 : Nat) : Int) - 1) = ((i : Nat) : Int) := by rw [qAF _ (by omega) (by omega)]; omega
  have gp := qCV l (i + 1) p hp
  have gq := qCV l i q hq
  have pp : (pcells (eRow p.1 p.2)).length = 7 := by rw [qAL, qAw]
  have pq : (pcells (eRow q.1 q.2)).length = 7 := by rw [qAL, qAw]
  have le1 : (i + 1) * 7 + 7 ≤ (eRows l).length := by rw [qCg]; omega
  have le2 : i * 7 + 7 ≤ (eRows l).length := by rw [qCg]; omega
  have s1 := qFd l (i + 1) q (by omega)
  have s2 := qFd (l.set (i + 1) q) i p (by simp; omega)
  have le3 : i * 7 + 7 ≤ (eRows (l.set (i + 1) q)).length := by rw [qCg]; simp; omega
  have hgp : (h.put (.im 0) (.cells (pcells (eRows (l.set (i + 1) q))) 0)).get (.im 0) = some (.cells (pcells (eRows (l.set (i + 1) q))) 0) := Heap.zput_self hg (fun e => by cases e)
  cases hb : bless p.1 q.1
  ·refine ⟨h, ?_, ?_⟩
   ·rw [hg]; unfold down; simp [hp, hq, hb]
   ·rw [w125_2, b125_2]
    simp (maxSteps := 9999999) +contextual only [exa, ne_eq, not_false_eq_true, reduceAdd, reduceMul, reduceLT, reduceLeDiff, reduceEqDiff, Int.reduceLT, Int.reduceLE, Int.reduceEq, Int.reduceToNat, exW, exY, t1, t2, t3, t4, hi, ew, Int.toNat_natCast, hg, gp, gq, pp, pq, v82, qG3, hb, if_false]
  ·have hg2 : ((h.put (.im 0) (.cells (pcells (eRows (l.set (i + 1) q))) 0)).put (.im 0) (.cells (pcells (eRows ((l.set (i + 1) q).set i p))) 0)).get (.im 0) = some (.cells (pcells (eRows ((l.set (i + 1) q).set i p))) 0) := Heap.zput_self hgp (fun e => by cases e)
   obtain ⟨h', a1, a2⟩ := qFc n i0 i ((l.set (i + 1) q).set i p) _ (by simp [hl]) hn (by omega) hg2
   refine ⟨h', ?_, ?_⟩
   ·rw [a1]
    have : down (i + 1) l = down i ((l.set (i + 1) q).set i p) := by rw [down]; simp [hp, hq, hb]
    rw [this]
   ·rw [← a2, w125_2, b125_2]
    simp (maxSteps := 9999999) +contextual only [exa, ne_eq, not_false_eq_true, reduceAdd, reduceMul, reduceLT, reduceLeDiff, reduceEqDiff, Int.reduceLT, Int.reduceLE, Int.reduceEq, Int.reduceToNat, exW, exY, t1, t2, t3, t4, hi, ew, Int.toNat_natCast, hg, gp, gq, pp, pq, v82, qG3, hb, le1, le2, le3, s1, s2, hgp, Nat.zero_le, if_false]
theorem qFw (n : Nat) (hn : n ≤ 1000) : ∀ (m i : Nat) (l : Es) (h : Heap), i + m = n → l.length = n → h.get (.im 0) = some (.cells (pcells (eRows l)) 0) →
  lim tab.get S 125 1 1 [sE0 n, kI 0, kI (n : Int), F82, kI (i : Int)] h = some (.tup [], [.cells (pcells (eRows (sortM m i l))) 0])
 | 0, i, l, h, hi, hl, hg => by
  have t : ¬ (i : Int) < (n : Int) := by omega
  have fin := qAg true [] _ rfl hg (qAI (eRows l) 0)
  rw [w125_1, b125_1]
  simp (maxSteps := 9999999) +contextual only [exa, ne_eq, not_false_eq_true, reduceAdd, reduceMul, reduceLT, reduceLeDiff, reduceEqDiff, Int.reduceLT, Int.reduceLE, Int.reduceEq, Int.reduceToNat, t, fin, sortM, if_false, oneOf]
 | m + 1, i, l, h, hi, hl, hg => by
  have t : (i : Int) < (n : Int) := by omega
  have ew : IntKind.i64.wrap ((i : Int) + 1) = ((i + 1 : Nat) : Int) := by rw [qAF _ (by omega) (by omega)]; omega
  obtain ⟨h', a1, a2⟩ := qFc n i i l h hl hn (by omega) hg
  have ih := qFw n hn m (i + 1) (down i l) h' (by omega) (by rw [qCJ, hl]) a1
  rw [w125_1, b125_1, qHF, qCo, if_pos (decide_eq_true t), a2, w125_3, b125_3, qCL, ew]
  exact ih
theorem qNi (n : Nat) (hn : n ≤ 1000) (l : Es) (hl : l.length = n) (h1 : 1 ≤ n) : Om 125 [sE0 n, kI 0, kI (n : Int), F82] [.cells (pcells (eRows l)) 0] = some (.tup [], [.cells (pcells (eRows (sortM (n - 1) 1 l))) 0]) := by
 refine (qAC rfl).trans ?_
 show lim tab.get S 125 1 0 [sE0 n, kI 0, kI (n : Int), F82] (Heap.mk [.cells (pcells (eRows l)) 0] .nil) = _
 rw [w125_0, b125_0]
 simp (maxSteps := 9999999) +contextual only [exa, ne_eq, not_false_eq_true, reduceAdd, reduceMul, reduceLT, reduceLeDiff, reduceEqDiff, Int.reduceLT, Int.reduceLE, Int.reduceEq, Int.reduceToNat]
 exact qFw n hn (n - 1) 1 l _ (by omega) hl rfl
theorem qFA {β : Type} {O : Oracle} {k : TVal → Heap → Option β} {h : Heap} {d : Nat} (g : FuncId) (r : Ref) (args as' : List TVal) (o o' : AObj) (v : TVal) (s1 : args.map TVal.strip = args) (s2 : args.flatMap TVal.refs = [r]) (s3 : args.map (TVal.ren (inn [r])) = as') (hg : h.get r = some o) (ho : plainO o) (ho' : plainO o') (hv : ∀ σ, v.ren σ = v)
  (hc : O g as' [o] = some (v, [o'])) : vcall O (.v (.c (.func g []))) args h d k = k v (h.put r o') := by
 have e2 : reach h fuelReach (args.flatMap TVal.refs) [] = [r] := by
  rw [s2]
  show reach h (398 + 1 + 1) [r] [] = _
  rw [qAT _ r [] [] o (by simp) hg, ho.1]
  exact qBa _ _
 have e3 : ([r] : List Ref).mapM h.get = some [o] := by simp only [List.mapM_cons, List.mapM_nil, hg, Option.pure_def, Option.bind_eq_bind, Option.bind_some]
 rw [qFI g args args as' [r] [o] [o] [o'] v s1 e2 e3 s3 (by rw [List.map_cons, ho.2]; rfl) hc (Nat.le_refl _), hv]
 show k v (h.put r (o'.ren _)) = _
 rw [ho'.2]
theorem v125 {β : Type} {k : TVal → Heap → Option β} {h : Heap} {d : Nat} (n : Nat) (hn : n ≤ 1000) (l : Es) (hl : l.length = n) (h1 : 1 ≤ n) (hg : h.get (.im 0) = some (.cells (pcells (eRows l)) 0)) : vcall Om (.v (.c (.func 125 []))) [sE0 n, kI 0, kI (n : Int), F82] h d k = k (.tup []) (h.put (.im 0) (.cells (pcells (eRows (sortM (n - 1) 1 l))) 0)) :=
 qFA 125 (.im 0) [sE0 n, kI 0, kI (n : Int), F82] _ _ _ _ rfl rfl rfl hg (qAI _ 0) (qAI _ 0) (fun _ => rfl) (qNi n hn l hl h1)
theorem qKV (n : Nat) (hn : n < 20) (l : Es) (hl : l.length = n) (h1 : 1 ≤ n) : Om 105 [sE0 n, kI (n : Int), F82] [.cells (pcells (eRows l)) 0] = some (.tup [], [.cells (pcells (eRows (sortM (n - 1) 1 l))) 0]) := by
 refine (qAC rfl).trans ?_
 show lim tab.get S 105 1 0 [sE0 n, kI (n : Int), F82] (Heap.mk [.cells (pcells (eRows l)) 0] .nil) = _
 have t : (n : Int) < 20 := by omega
 have t2 : ¬ (20 : Int) < (n : Int) := by omega
 have hg : (Heap.mk [.cells (pcells (eRows l)) 0] .nil).get (.im 0) = some (.cells (pcells (eRows l)) 0) := rfl
 have fin := qAg true [] _ rfl (Heap.zput_self (o := .cells (pcells (eRows (sortM (n - 1) 1 l))) 0) hg (fun e => by cases e)) (qAI _ 0)
 rw [w105_0, b105_0, w105_1, b105_1]
 simp (maxSteps := 9999999) +contextual only [exa, ne_eq, not_false_eq_true, reduceAdd, reduceMul, reduceLT, reduceLeDiff, reduceEqDiff, Int.reduceLT, Int.reduceLE, Int.reduceEq, Int.reduceToNat, t, if_false]
 rw [w105_2, b105_2, v125 n (by omega) l hl h1 hg, w105_3, b105_3]
 simp (maxSteps := 9999999) +contextual only [exa, ne_eq, not_false_eq_true, reduceAdd, reduceMul, reduceLT, reduceLeDiff, reduceEqDiff, Int.reduceLT, Int.reduceLE, Int.reduceEq, Int.reduceToNat, t2, fin, if_false, oneOf]
theorem qPg (n : Nat) (hn : n < 20) (l : Es) (hl : l.length = n) (h1 : 1 ≤ n) : Om 81 [sE0 n, F82] [.cells (pcells (eRows l)) 0] = some (.tup [], [.cells (pcells (eRows (sortM (n - 1) 1 l))) 0]) := by
 refine (qAC rfl).trans ?_
 show lim tab.get S 81 1 0 [sE0 n, F82] (Heap.mk [.cells (pcells (eRows l)) 0] .nil) = _
 have hg : (Heap.mk [.cells (pcells (eRows l)) 0] .nil).get (.im 0) = some (.cells (pcells (eRows l)) 0) := rfl
 have fin := qAg true [] _ rfl (Heap.zput_self (o := .cells (pcells (eRows (sortM (n - 1) 1 l))) 0) hg (fun e => by cases e)) (qAI _ 0)
 have c := fun {β : Type} {k : TVal → Heap → Option β} {d : Nat} => qFA (O := Om) (k := k) (d := d) 105 (.im 0) [sE0 n, kI (n : Int), F82] _ _ _ (.tup []) rfl rfl rfl hg (qAI _ 0) (qAI _ 0) (fun _ => rfl) (qKV n hn l hl h1)
 rw [w81_0, b81_0, qEW]
 refine c.trans ?_
 exact fin
end Go.Proofs.YtiahgnkffnokfaaGreatDoor.Ab
set_option maxHeartbeats 4000000
namespace Go.AI
theorem qOY {h : Heap} (vs : List Comp) (o : AObj) (hv : vs.all compPT = true) (hg : h.get (.im 0) = some o) (ho : plainO o) : vfin true 1 vs h = some (oneOf (vs.map Comp.strip), [o]) := by
 letI : Sym := ⟨fun _ => 0⟩
 rw [qDi]
 obtain ⟨e1, e2⟩ := qDv h vs hv
 have ef : freezeT h (oneOf vs) = some (oneOf (vs.map Comp.strip), []) := by
  match vs, hv, e1, e2 with
  | [], _, _, _ => rfl
  | [x], hv, _, _ =>
   rw [List.all_cons, Bool.and_eq_true] at hv
   show (freezeC h x).map _ = _
   rw [(qC3 h x hv.1).1]; rfl
  | x :: y :: vs, _, e1, _ =>
   show ((x :: y :: vs).mapM (freezeC h)).map _ = _
   rw [e1]
   show some (TVal.tup (((x :: y :: vs).map fun x => (x.strip, ([] : List Ref))).map (·.1)), ((x :: y :: vs).map fun x => (x.strip, ([] : List Ref))).flatMap (·.2)) = _
   congr 2
   ·rw [List.map_map]; rfl
   ·generalize (x :: y :: vs) = l
    induction l with
    | nil => rfl
    | cons a l ih => rw [List.map_cons, List.flatMap_cons, ih]; rfl
 obtain ⟨q1, q2, q3, q4⟩ := qAx (qCs e2)
 unfold finV
 rw [show ims 1 = [Ref.im 0] from rfl]
 simp [ef, settle, hg, ho.1, q1, q3, reach, fuelReach, ho.2]
end Go.AI
namespace Go.Proofs.YtiahgnkffnokfaaGreatDoor.Ab
open Go Go.AI
def kRow (p : List UInt8 × VT) : List PVal := sRow p.1
def vRow (p : List UInt8 × VT) : List PVal := p.2.row
structure TS (h : Heap) (t : List UInt8) (e : Int) (l : Es) (i : Nat) : Prop where
 g0 : h.get (.im 0) = some (rO t e)
 g1 : h.get (.im 1) = some (.cells (pcells (eRows l)) 0)
 o2 : h.get (.own 2 1) = some (boxO 0)
 o4 : h.get (.own 4 1) = some (.cells Z6 0)
 o5 : h.get (.own 5 1) = some (.cells [.sref (.im 1) 0 l.length none 7] 0)
 o6 : ∃ K L, h.get (.own 6 1) = some (.cells [.p (.int .i64 5), .p (.bool false), .p (.int .i64 0), .p (.str []), K, L] 0) ∧ (GS [42] 1 K ((l.take i).map kRow) h ∧ Bears 1 K ((l.take i).map kRow)) ∧ GS [48] 6 L ((l.take i).map vRow) h ∧ Bears 6 L ((l.take i).map vRow)
abbrev q2 : TVal := .v (.c (.ptr (.own 2 1) 0))
abbrev q4 : TVal := .v (.c (.ptr (.own 4 1) 0))
abbrev q5 : TVal := .v (.c (.ptr (.own 5 1) 0))
abbrev q6 : TVal := .v (.c (.ptr (.own 6 1) 0))
abbrev sE1 (n : Nat) : TVal := .v (.c (.sref (.im 1) 0 n none 7))
theorem qDH {α β : Type} (f : α → β) (l : List α) (i : Nat) (a : α) (h : l[i]? = some a) : (l.take (i + 1)).map f = (l.take i).map f ++ [f a] := by
 rw [List.take_add_one, h, List.map_append]; rfl
theorem tab2 {h : Heap} {t : List UInt8} {e : Int} {l : Es} {i : Nat} (A : TS h t e l i) (p : List UInt8 × VT) (hp : l[i]? = some p) (g8 : Nat) (o8 : h.get (.own 8 g8) = some (.cells (pcells (eRow p.1 p.2)) 0)) (hl : l.length ≤ 1000) :
  ∃ h', TS h' t e l (i + 1) ∧ lim tab.get S 52 1 2 [q2, q4, q5, q6, .v (.c (.ptr (.own 8 g8) 0)), sE1 l.length, kI (l.length : Int), kI (i : Int)] h = lim tab.get S 52 1 1 [q2, q4, q5, q6, sE1 l.length, kI (l.length : Int), kI ((i + 1 : Nat) : Int)] h' := by
 obtain ⟨K, L, o6, ⟨GK, BK⟩, GL, BL⟩ := A.o6
 have hi : i < l.length := (List.getElem?_eq_some_iff.1 hp).1
 have tl : (l.take i).length ≤ 1000 := by simp; omega
 obtain ⟨c1, h1, t1, G1, e1, T1, K1, I1, X1⟩ := qF9 (h := h) (d := 42) (D := [42]) (sz := 1) (by' := 16) (new := [[.str p.1]]) (b := .slice 1 true [[.str p.1]]) (.inr ⟨true, rfl⟩) GK (by decide) (fun r hr => by simp at hr; rw [hr]; rfl) (by simp; omega) (by decide)
 have GL1 : GS [48] 6 L ((l.take i).map vRow) h1 := GL.keep fun e he g hh => K1 e g _ (by revert he; simp; omega) hh
 obtain ⟨c2, h2, t2, G2, e2, T2, K2, I2, X2⟩ := qF9 (h := h1) (d := 48) (D := [48]) (sz := 6) (by' := 88) (new := [p.2.row]) (b := .slice 6 true [p.2.row]) (.inr ⟨true, rfl⟩) GL1 (by decide) (fun r hr => by simp at hr; rw [hr]; exact VT.row_len _) (by simp; omega) (by decide)
 have G1' := G1.keep (h' := h2) fun e he g hh => K2 e g _ (by revert he; simp; omega) hh
 have k6 := K1 6 1 _ (by decide) o6
 have k8 := K1 8 g8 _ (by decide) o8
 have k62 := K2 6 1 _ (by decide) k6
 obtain ⟨a1, a2, a3, a4, a5, a6, ha⟩ := qE6 p.2
 have B1 : ∀ {β : Type} {O : Oracle} {h : Heap} {d : Nat} {kt : TVal → Heap → AI.Touch → Option β}, vtouch O (.bslice 1 1 [.p (.str [])] [(0, .k (kS p.1))] false) h d kt = kt (kSl 1 true [[.str p.1]]) h noTouch := qDT _ _ rfl
 have B2 : ∀ {β : Type} {O : Oracle} {h : Heap} {d : Nat} {kt : TVal → Heap → AI.Touch → Option β}, vtouch O (.bslice 6 1 [.p (.int .i64 0), .p (.bool false), .p (.int .i64 0), .p (.str []), .p .nilslice, .p .nilslice] [(0, .k (.v (.agg (pcells p.2.row))))] false) h d kt = kt (kSl 6 true [p.2.row]) h noTouch := qJO 6 _ _ rfl (VT.row_len p.2)
 have A1 : AI.Touch.apart t1 ⟨[(Ref.own 6 1).site], [], false⟩ = true := qDP T1 6 (by decide)
 have A2 : AI.Touch.apart t1 ⟨[(Ref.own 8 g8).site], [], false⟩ = true := qDP T1 8 (by decide)
 have R1 : (pcells (eRow p.1 p.2))[0]? = some (.p (.str p.1)) := rfl
 have R2 : ((pcells (eRow p.1 p.2)).drop 1).take 6 = pcells p.2.row := by
  show (pcells p.2.row).take 6 = _
  exact List.take_of_length_le (Nat.le_of_eq (by rw [qAL, VT.row_len]))
 have R3 : (pcells p.2.row).length = 6 := by rw [qAL, VT.row_len]
 have P1 : ∀ a b c d f : Cell, put1 [a, b, c, d, K, f] 4 [c1] = [a, b, c, d, c1, f] := fun _ _ _ _ _ => rfl
 have P2 : ∀ a b c d f : Cell, put1 [a, b, c, d, c1, f] 5 [c2] = [a, b, c, d, c1, c2] := fun _ _ _ _ _ => rfl
 rw [w52_2, b52_2]
 refine ⟨(h2.own 6 1 (.cells [.p (.int .i64 5), .p (.bool false), .p (.int .i64 0), .p (.str []), c1, L] 0)).own 6 1 (.cells [.p (.int .i64 5), .p (.bool false), .p (.int .i64 0), .p (.str []), c1, c2] 0), ?_, ?_⟩
 ·have mk := qDH kRow l i p hp
  have mv := qDH vRow l i p hp
  obtain ⟨r1, er1⟩ := X1 (.inl (by simp))
  obtain ⟨r2, er2⟩ := X2 (.inl (by simp))
  have own2 : ∀ (d : Nat) (o x y : AObj), d ≠ 6 → h2.get (.own d 1) = some o → ((h2.own 6 1 x).own 6 1 y).get (.own d 1) = some o := fun d o x y hd ho => by rw [Heap.own_get_ne _ _ _ _ _ _ (Ne.symm hd), Heap.own_get_ne _ _ _ _ _ _ (Ne.symm hd), ho]
  refine ⟨?_, ?_, own2 2 _ _ _ (by decide) (K2 2 1 _ (by decide) (K1 2 1 _ (by decide) A.o2)), own2 4 _ _ _ (by decide) (K2 4 1 _ (by decide) (K1 4 1 _ (by decide) A.o4)), own2 5 _ _ _ (by decide) (K2 5 1 _ (by decide) (K1 5 1 _ (by decide) A.o5)), c1, c2, Heap.own_get _ 6 1 _ (by decide) (fun e => by cases e), ?_, ?_⟩
  ·exact (I2 0).trans ((I1 0).trans A.g0)
  ·exact (I2 1).trans ((I1 1).trans A.g1)
  ·rw [mk]
   exact ⟨(G1'.own 1 _ (by decide)).own 1 _ (by decide), .inr ⟨by simp, r1, er1⟩⟩
  ·rw [mv]
   exact ⟨(G2.own 1 _ (by decide)).own 1 _ (by decide), .inr ⟨by simp, r2, er2⟩⟩
 ·simp (maxSteps := 9999999) +contextual only [exa, ne_eq, not_false_eq_true, reduceAdd, reduceMul, reduceLT, reduceLeDiff, reduceEqDiff, Int.reduceLT, Int.reduceLE, Int.reduceEq, Int.reduceToNat, exW, exY, o6, o8, k6, k8, k62, e1, e2, qDT, qFC, B1, B2, A1, A2, R1, R2, R3, P1, P2, qBf i (by omega), Nat.le_refl, oneOf]
def eM (l : Es) : Nat → Int
 | 0 => 0
 | i + 1 => match l[i]? with
  | some p => if eM l i ≠ 0 then eM l i else (match i with
   | 0 => 0
   | j + 1 => match l[j]? with | some q => if q.1 = p.1 then 6 else 0 | none => 0)
  | none => eM l i
theorem tab1 {h : Heap} {t : List UInt8} {l : Es} (hl : l.length ≤ 1000) : ∀ (m i : Nat) (h : Heap), i + m = l.length → TS h t (eM l i) l i →
  ∃ h', TS h' t (eM l l.length) l l.length ∧ lim tab.get S 52 1 1 [q2, q4, q5, q6, sE1 l.length, kI (l.length : Int), kI (i : Int)] h = lim tab.get S 52 1 3 [q4, q6] h'
 | 0, i, h, hi, A => by
  have hi : i = l.length := by omega
  subst hi
  refine ⟨h, A, ?_⟩
  have lt : ¬ (l.length : Int) < (l.length : Int) := by omega
  rw [w52_1, b52_1]
  simp (maxSteps := 9999999) +contextual only [exa, ne_eq, not_false_eq_true, reduceAdd, reduceMul, reduceLT, reduceLeDiff, reduceEqDiff, Int.reduceLT, Int.reduceLE, Int.reduceEq, Int.reduceToNat, lt, if_false]
 | m + 1, i, h, hi, A => by
  obtain ⟨p, hp⟩ : ∃ p, l[i]? = some p := ⟨l[i]'(by omega), by simp⟩
  have lt : (i : Int) < (l.length : Int) := by omega
  have lt2 : i < l.length := by omega
  have gp := qCV l i p hp
  have pp : (pcells (eRow p.1 p.2)).length = 7 := by rw [qAL, qAw]
  have R1 : (pcells (eRow p.1 p.2))[0]? = some (.p (.str p.1)) := rfl
  have PA : ∀ Z : List Cell, Z.length = 7 → put1 Z 0 (pcells (eRow p.1 p.2)) = pcells (eRow p.1 p.2) := fun Z hz => qAk _ _ (by rw [pp, hz])
  -- the heap behind the entry's own block
  have step : ∀ (h2 : Heap) (g8 : Nat), TS h2 t (eM l (i + 1)) l i → h2.get (.own 8 g8) = some (.cells (pcells (eRow p.1 p.2)) 0) → ∃ h', TS h' t (eM l l.length) l l.length ∧ lim tab.get S 52 1 2 [q2, q4, q5, q6, .v (.c (.ptr (.own 8 g8) 0)), sE1 l.length, kI (l.length : Int), kI (i : Int)] h2 = lim tab.get S 52 1 3 [q4, q6] h' := by
   intro h2 g8 A2 o8
   obtain ⟨h3, A3, e3⟩ := tab2 A2 p hp g8 o8 hl
   obtain ⟨h4, A4, e4⟩ := tab1 (h := h) hl m (i + 1) h3 (by omega) A3
   exact ⟨h4, A4, e3.trans e4⟩
  have own8 : ∀ (h2 : Heap) (e : Int) (g : Nat) (x y : AObj), TS h2 t e l i → TS ((h2.own 8 g x).own 8 g y) t e l i := by
   intro h2 e g x y B
   have k : ∀ (d : Nat) (o : AObj), d ≠ 8 → h2.get (.own d 1) = some o → ((h2.own 8 g x).own 8 g y).get (.own d 1) = some o := fun d o hd ho => by rw [Heap.own_get_ne _ _ _ _ _ _ (Ne.symm hd), Heap.own_get_ne _ _ _ _ _ _ (Ne.symm hd), ho]
   obtain ⟨K, L, o6, ⟨GK, BK⟩, GL, BL⟩ := B.o6
   exact ⟨B.g0, B.g1, k 2 _ (by decide) B.o2, k 4 _ (by decide) B.o4, k 5 _ (by decide) B.o5, K, L, k 6 _ (by decide) o6, ⟨(GK.own _ _ (by decide)).own _ _ (by decide), BK⟩, (GL.own _ _ (by decide)).own _ _ (by decide), BL⟩
  have putE : ∀ (h2 : Heap) (e e' : Int), TS h2 t e l i → TS (h2.put (.im 0) (rO t e')) t e' l i := by
   intro h2 e e' B
   obtain ⟨K, L, o6, ⟨GK, BK⟩, GL, BL⟩ := B.o6
   exact ⟨Heap.zput_self B.g0 (fun e => by cases e), (Heap.zput_ne B.g0 (by decide)).trans B.g1, B.o2, B.o4, B.o5, K, L, o6, ⟨GK.keep fun _ _ _ hh => hh, BK⟩, GL.keep fun _ _ _ hh => hh, BL⟩
  have g8 : ∀ (h2 : Heap) (g : Nat) (x : AObj), ((h2.own 8 g x).own 8 g (.cells (pcells (eRow p.1 p.2)) 0)).get (.own 8 g) = some (.cells (pcells (eRow p.1 p.2)) 0) := fun h2 g x => Heap.own_get _ 8 g _ (by decide) (fun e => by cases e)
  generalize hZ : AObj.cells [(.p (.str [])), (.p (.int .i64 0)), (.p (.bool false)), (.p (.int .i64 0)), (.p (.str [])), (.p .nilslice), (.p .nilslice)] 0 = Z8 
  cases i with
  | zero =>
   have z : ¬ (0 : Int) < ((0 : Nat) : Int) := by decide
   have eq : eM l 1 = eM l 0 := by simp [eM, hp]
   obtain ⟨h', A', e'⟩ := step ((h.own 8 (h.gen 8 + 1) Z8).own 8 (h.gen 8 + 1) (.cells (pcells (eRow p.1 p.2)) 0)) (h.gen 8 + 1) (by rw [eq]; exact own8 h _ _ _ _ A) (g8 _ _ _)
   refine ⟨h', A', ?_⟩
   rw [← e', w52_1, b52_1, ← hZ]
   rw [Nat.zero_mul, List.drop_zero] at gp
   simp (maxSteps := 9999999) +contextual only [exa, ne_eq, not_false_eq_true, reduceAdd, reduceMul, reduceLT, reduceLeDiff, reduceEqDiff, Int.reduceLT, Int.reduceLE, Int.reduceEq, Int.reduceToNat, exW, exY, lt, lt2, A.g1, gp, pp, R1, PA, z, Int.toNat_natCast, if_false, Nat.zero_mul]
  | succ j =>
   obtain ⟨q, hq⟩ : ∃ q, l[j]? = some q := ⟨l[j]'(by omega), by simp⟩
   have gq := qCV l j q hq
   have gq0 : (pcells (eRows l))[j * 7]? = some (.p (.str q.1)) := by
    have : (((pcells (eRows l)).drop (j * 7)).take 7)[0]? = (pcells (eRows l))[j * 7]? := by
     rw [List.getElem?_take, if_pos (by decide), List.getElem?_drop, Nat.add_zero]
    rw [← this, gq]; rfl
   have z : (0 : Int) < ((j + 1 : Nat) : Int) := by omega
   have ew : IntKind.i64.wrap (((j + 1 : Nat) : Int) - 1) = ((j : Nat) : Int) := by rw [qAF _ (by omega) (by omega)]; omega
   have t3 : (0 : Int) ≤ ((j : Nat) : Int) := by omega
   have t4 : (0 : Int) ≤ ((j + 1 : Nat) : Int) := by omega
   have t5 : j < l.length := by omega
   have B := own8 h _ (h.gen 8 + 1) Z8 (.cells (pcells (eRow p.1 p.2)) 0) A
   have o58 : ((h.own 8 (h.gen 8 + 1) Z8).own 8 (h.gen 8 + 1) (.cells (pcells (eRow p.1 p.2)) 0)).get (.own 5 1) = some (.cells [.sref (.im 1) 0 l.length none 7] 0) := B.o5
   have o28 : ((h.own 8 (h.gen 8 + 1) Z8).own 8 (h.gen 8 + 1) (.cells (pcells (eRow p.1 p.2)) 0)).get (.own 2 1) = some (boxO 0) := B.o2
   by_cases hk : q.1 = p.1
   ·by_cases he : eM l (j + 1) = 0
    ·have eq : eM l (j + 1 + 1) = 6 := by
      show (match l[j + 1]? with | some p => if eM l (j + 1) ≠ 0 then eM l (j + 1) else (match l[j]? with | some q => if q.1 = p.1 then 6 else 0 | none => 0) | none => eM l (j + 1)) = 6
      simp [hp, hq, he, hk]
     rw [he] at B
     have C := putE _ _ 6 B
     obtain ⟨h', A', e'⟩ := step (((h.own 8 (h.gen 8 + 1) Z8).own 8 (h.gen 8 + 1) (.cells (pcells (eRow p.1 p.2)) 0)).put (.im 0) (rO t 6)) (h.gen 8 + 1) (by rw [eq]; exact C) (g8 h _ Z8)
     have u := fun {β : Type} {k : TVal → Heap → Option β} {d : Nat} => u28 (β := β) (k := k) (d := d) (.im 0) t 6 B.g0
     refine ⟨h', A', ?_⟩
     rw [← e', w52_1, b52_1]
     subst hZ
     simp (maxSteps := 9999999) +contextual only [exa, ne_eq, not_false_eq_true, reduceAdd, reduceMul, reduceLT, reduceLeDiff, reduceEqDiff, Int.reduceLT, Int.reduceLE, Int.reduceEq, Int.reduceToNat, exW, exY, lt, lt2, A.g1, A.o2, A.o5, gp, pp, R1, PA, z, t3, t4, t5, ew, gq0, hk, u, Int.toNat_natCast, if_false]
    ·have eq : eM l (j + 1 + 1) = eM l (j + 1) := by
      show (match l[j + 1]? with | some p => if eM l (j + 1) ≠ 0 then eM l (j + 1) else (match l[j]? with | some q => if q.1 = p.1 then 6 else 0 | none => 0) | none => eM l (j + 1)) = _
      simp [hp, he]
     have C := putE _ _ (eM l (j + 1)) B
     obtain ⟨h', A', e'⟩ := step (((h.own 8 (h.gen 8 + 1) Z8).own 8 (h.gen 8 + 1) (.cells (pcells (eRow p.1 p.2)) 0)).put (.im 0) (rO t (eM l (j + 1)))) (h.gen 8 + 1) (by rw [eq]; exact C) (g8 h _ Z8)
     have u := fun {β : Type} {k : TVal → Heap → Option β} {d : Nat} => u28b (β := β) (k := k) (d := d) (.im 0) t 6 (eM l (j + 1)) he B.g0
     refine ⟨h', A', ?_⟩
     rw [← e', w52_1, b52_1]
     subst hZ
     simp (maxSteps := 9999999) +contextual only [exa, ne_eq, not_false_eq_true, reduceAdd, reduceMul, reduceLT, reduceLeDiff, reduceEqDiff, Int.reduceLT, Int.reduceLE, Int.reduceEq, Int.reduceToNat, exW, exY, lt, lt2, A.g1, A.o2, A.o5, gp, pp, R1, PA, z, t3, t4, t5, ew, gq0, hk, u, Int.toNat_natCast, if_false]
   ·have eq : eM l (j + 1 + 1) = eM l (j + 1) := by
     show (match l[j + 1]? with | some p => if eM l (j + 1) ≠ 0 then eM l (j + 1) else (match l[j]? with | some q => if q.1 = p.1 then 6 else 0 | none => 0) | none => eM l (j + 1)) = _
     by_cases he : eM l (j + 1) = 0
     ·simp [hp, hq, he, hk]
     ·simp [hp, he]
    obtain ⟨h', A', e'⟩ := step ((h.own 8 (h.gen 8 + 1) Z8).own 8 (h.gen 8 + 1) (.cells (pcells (eRow p.1 p.2)) 0)) (h.gen 8 + 1) (by rw [eq]; exact B) (g8 h _ Z8)
    refine ⟨h', A', ?_⟩
    rw [← e', w52_1, b52_1]
    subst hZ
    simp (maxSteps := 9999999) +contextual only [exa, ne_eq, not_false_eq_true, reduceAdd, reduceMul, reduceLT, reduceLeDiff, reduceEqDiff, Int.reduceLT, Int.reduceLE, Int.reduceEq, Int.reduceToNat, exW, exY, lt, lt2, A.g1, A.o2, A.o5, gp, pp, R1, PA, z, t3, t4, t5, ew, gq0, hk, Int.toNat_natCast, if_false]
end Go.Proofs.YtiahgnkffnokfaaGreatDoor.Ab
set_option maxHeartbeats 4000000
namespace Go.Proofs.YtiahgnkffnokfaaGreatDoor.Ab
open Go Go.AI
def tabV (l : Es) : VT := .mk 5 false 0 [] (grown (l.map (·.1))) (grown (l.map (·.2)))
theorem qNQ {β : Type} {O : Oracle} {k : TVal → Heap → Option β} {h : Heap} {d : Nat} (f : FuncId) (a b c : Ref) : vop O (.mkfn f [.k (.v (.c (.ptr a 0))), .k (.v (.c (.ptr b 0))), .k (.v (.c (.ptr c 0)))]) h d k = k (.v (.c (.func f [a, b, c]))) h := qAd _ _ rfl
theorem qN9 {h : Heap} {t : List UInt8} {e : Int} {l : Es} (A : TS h t e l l.length) : lim tab.get S 52 1 3 [q4, q6] h = some (kA (tabV l).row, [rO t e]) := by
 obtain ⟨K, L, o6, ⟨GK, BK⟩, GL, BL⟩ := A.o6
 rw [List.take_length] at BK BL
 have P : ∀ a b c d e f : Cell, put1 Z6 0 [a, b, c, d, e, f] = [a, b, c, d, e, f] := fun _ _ _ _ _ _ => qAk _ _ rfl
 have fin : ∀ h : Heap, h.get (.im 0) = some (rO t e) → vfin true 1 [.agg [.p (.int .i64 5), .p (.bool false), .p (.int .i64 0), .p (.str []), K, L]] h = some (kA (tabV l).row, [rO t e]) := by
  intro h hg
  rw [qOY _ (rO t e) (by show ([Cell.p (.int .i64 5), .p (.bool false), .p (.int .i64 0), .p (.str []), K, L].all isPT && true) = true; simp only [List.all_cons, List.all_nil, BK.pt, BL.pt]; rfl) hg (qAH t e)]
  show some (TVal.v (.agg [.p (.int .i64 5), .p (.bool false), .p (.int .i64 0), .p (.str []), K.strip, L.strip]), _) = _
  rw [BK.strip, BL.strip]
  have e1 : growP 1 (l.map kRow) = slP 1 sRow (grown (l.map (·.1))) := by
   rw [← qFM, List.map_map]; rfl
  have e2 : growP 6 (l.map vRow) = slP 6 VT.row (grown (l.map (·.2))) := by
   rw [← qFM, List.map_map]; rfl
  rw [e1, e2]
  unfold tabV
  rw [VT.row_eq]
  rfl
 rw [w52_3, b52_3]
 simp (maxSteps := 9999999) +contextual only [exa, ne_eq, not_false_eq_true, reduceAdd, reduceMul, reduceLT, reduceLeDiff, reduceEqDiff, Int.reduceLT, Int.reduceLE, Int.reduceEq, Int.reduceToNat, exW, exY, o6, A.o4, P, Nat.le_refl, oneOf]
 exact fin _ A.g0
theorem qGM (s s1 t key : List UInt8) (v : VT) (d : Int) (es : Es) (E : Ent d (trimB s) key v s1) (T : Tail d (trimB s1) es t) (hn : es.length + 1 < 20) :
  Om 52 [P0, kI d] [rO s 0] = some (kA (tabV (sortM es.length 1 ((key, v) :: es))).row, [rO t (eM (sortM es.length 1 ((key, v) :: es)) (es.length + 1))]) := by
 refine (qAC rfl).trans ?_
 show lim tab.get S 52 1 0 [P0, kI d] (Heap.mk [rO s 0] .nil) = _
 have hL := qCJ
 rw [w52_0, b52_0]
 simp (maxSteps := 9999999) +contextual only [exa, ne_eq, not_false_eq_true, reduceAdd, reduceMul, reduceLT, reduceLeDiff, reduceEqDiff, Int.reduceLT, Int.reduceLE, Int.reduceEq, Int.reduceToNat, exW, exY, qNQ, oneOf]
 generalize hh : (((((Heap.mk [rO s 0] .nil).own 2 1 (.cells [.ptr (.im 0) 0] 0)).own 3 1 (.cells [.p (.int .i64 d)] 0)).own 4 1 (.cells Z6 0)).own 5 1 (.cells [.p .nilslice] 0)) = h
 have F0 : h.get (.im 0) = some (rO s 0) := by rw [← hh]; rfl
 have F2 : h.get (.own 2 1) = some (boxO 0) := by rw [← hh]; rfl
 have F3 : h.get (.own 3 1) = some (intO d) := by rw [← hh]; rfl
 have F4 : h.get (.own 4 1) = some (.cells Z6 0) := by rw [← hh]; rfl
 have F5 : h.get (.own 5 1) = some (.cells [.p .nilslice] 0) := by rw [← hh]; rfl
 have Fl : h.ims.length = 1 := by rw [← hh]; rfl
 have F6 : h.gen 6 = 0 := by rw [← hh]; rfl
 clear hh
 have hr : reach h fuelReach ([P0, kS [125], .v (.c (.func 80 [.own 2 1, .own 3 1, .own 5 1]))].flatMap TVal.refs) [] = [.im 0, .own 2 1, .own 3 1, .own 5 1] := by
  show reach h (394 + 1 + 1 + 1 + 1 + 1 + 1) [.im 0, .own 2 1, .own 3 1, .own 5 1] [] = _
  rw [qAT _ (.im 0) _ _ _ (by decide) F0]
  show reach h (394 + 1 + 1 + 1 + 1 + 1) [.own 2 1, .own 3 1, .own 5 1] [.im 0] = _
  rw [qAT _ (.own 2 1) _ _ _ (by decide) F2]
  show reach h (394 + 1 + 1 + 1 + 1) [.im 0, .own 3 1, .own 5 1] [.im 0, .own 2 1] = _
  rw [qDE _ _ _ _ (by decide), qAT _ (.own 3 1) _ _ _ (by decide) F3]
  show reach h (394 + 1 + 1) [.own 5 1] [.im 0, .own 2 1, .own 3 1] = _
  rw [qAT _ (.own 5 1) _ _ _ (by decide) F5]
  exact qBa _ _
 have hm : ([.im 0, .own 2 1, .own 3 1, .own 5 1] : List Ref).mapM h.get = some [rO s 0, boxO 0, intO d, .cells [.p .nilslice] 0] := by
  simp only [List.mapM_cons, List.mapM_nil, F0, F2, F3, F5, Option.pure_def, Option.bind_eq_bind, Option.bind_some]
 have pl := qAI (eRows ((key, v) :: es)) 0
 obtain ⟨h1, hc, B⟩ := qE7 (O := Om) (h := h) 50 [P0, kS [125], .v (.c (.func 80 [.own 2 1, .own 3 1, .own 5 1]))] _ [P0, kS [125], F80] _ _ _ _ _ (.tup []) rfl hr hm rfl rfl (qMx s s1 t key v d es E T (by omega)) (show (4 : Nat) ≤ 5 by decide) (by decide) rfl
 have G0 : h1.get (.im 0) = some (rO t 0) := B.own 0 (.im 0) _ rfl rfl (fun e => by cases e)
 have G2 : h1.get (.own 2 1) = some (boxO 0) := B.own 1 (.own 2 1) _ rfl rfl (fun e => by cases e)
 have G4 : h1.get (.own 4 1) = some (.cells Z6 0) := B.old (.own 4 1) _ (by decide) F4
 have G5 : h1.get (.own 5 1) = some (.cells [.sref (.im (h.ims.length + 0)) 0 (1 + es.length) none 7] 0) := B.own 3 (.own 5 1) _ rfl rfl (fun e => by cases e)
 have G1 : h1.get (.im (h.ims.length + 0)) = some (.cells (pcells (eRows ((key, v) :: es))) 0) := B.new 0 _ (congrArg some (pl.2 _)) (fun e => by cases e)
 have G6 : h1.gen 6 = 0 := (B.gen 6).trans F6
 rw [Fl] at G5 G1
 rw [hc]
 rw [show 1 + es.length = es.length + 1 by omega] at G5
 have c81 := fun {β : Type} {k : TVal → Heap → Option β} {e : Nat} => qFA (O := Om) (k := k) (d := e) 81 (.im 1) [sE1 (es.length + 1), F82] [sE0 (es.length + 1), F82] _ _ (.tup []) rfl rfl rfl G1 (qAI _ 0) (qAI (eRows (sortM es.length 1 ((key, v) :: es))) 0) (fun _ => rfl) (qPg (es.length + 1) hn ((key, v) :: es) rfl (by omega))
 simp (maxSteps := 9999999) +contextual only [exa, ne_eq, not_false_eq_true, reduceAdd, reduceMul, reduceLT, reduceLeDiff, reduceEqDiff, Int.reduceLT, Int.reduceLE, Int.reduceEq, Int.reduceToNat, exW, exY, G5, oneOf]
 refine (c81).trans ?_
 have K0 : (h1.put (.im 1) (.cells (pcells (eRows (sortM es.length 1 ((key, v) :: es)))) 0)).get (.im 0) = some (rO t 0) := (Heap.zput_ne G1 (by decide)).trans G0
 have K1 : (h1.put (.im 1) (.cells (pcells (eRows (sortM es.length 1 ((key, v) :: es)))) 0)).get (.im 1) = some (.cells (pcells (eRows (sortM es.length 1 ((key, v) :: es)))) 0) := Heap.zput_self G1 (fun e => by cases e)
 have K2 : (h1.put (.im 1) (.cells (pcells (eRows (sortM es.length 1 ((key, v) :: es)))) 0)).get (.own 2 1) = some (boxO 0) := G2
 have K4 : (h1.put (.im 1) (.cells (pcells (eRows (sortM es.length 1 ((key, v) :: es)))) 0)).get (.own 4 1) = some (.cells Z6 0) := G4
 have K5 : (h1.put (.im 1) (.cells (pcells (eRows (sortM es.length 1 ((key, v) :: es)))) 0)).get (.own 5 1) = some (.cells [.sref (.im 1) 0 (es.length + 1) none 7] 0) := G5
 have K6 : (h1.put (.im 1) (.cells (pcells (eRows (sortM es.length 1 ((key, v) :: es)))) 0)).gen 6 = 0 := G6
 have hlen : (sortM es.length 1 ((key, v) :: es)).length = es.length + 1 := by
  have : ∀ (m i : Nat) (l : Es), (sortM m i l).length = l.length := by
   intro m
   induction m with
   | zero => intro i l; rfl
   | succ m ih => intro i l; rw [sortM, ih, qCJ]
  rw [this]; rfl
 generalize sortM es.length 1 ((key, v) :: es) = Y at K0 K1 K2 K4 K5 K6 hlen ⊢
 generalize h1.put (.im 1) (.cells (pcells (eRows Y)) 0) = h2 at K0 K1 K2 K4 K5 K6
 simp (maxSteps := 9999999) +contextual only [exa, ne_eq, not_false_eq_true, reduceAdd, reduceMul, reduceLT, reduceLeDiff, reduceEqDiff, Int.reduceLT, Int.reduceLE, Int.reduceEq, Int.reduceToNat, exW, exY, K5, K6, oneOf]
 have A : TS ((h2.own 6 1 (.cells Z6 0)).own 6 1 (.cells [.p (.int .i64 5), .p (.bool false), .p (.int .i64 0), .p (.str []), .p .nilslice, .p .nilslice] 0)) t (eM Y 0) Y 0 := by
  have k : ∀ (d : Nat) (o x y : AObj), d ≠ 6 → h2.get (.own d 1) = some o → ((h2.own 6 1 x).own 6 1 y).get (.own d 1) = some o := fun d o x y hd ho => by rw [Heap.own_get_ne _ _ _ _ _ _ (Ne.symm hd), Heap.own_get_ne _ _ _ _ _ _ (Ne.symm hd), ho]
  exact ⟨K0, K1, k 2 _ _ _ (by decide) K2, k 4 _ _ _ (by decide) K4, by rw [hlen]; exact k 5 _ _ _ (by decide) K5, .p .nilslice, .p .nilslice, Heap.own_get _ 6 1 _ (by decide) (fun e => by cases e), ⟨.inl ⟨rfl, rfl⟩, .inl ⟨rfl, rfl⟩⟩, .inl ⟨rfl, rfl⟩, .inl ⟨rfl, rfl⟩⟩
 obtain ⟨h3, A3, e3⟩ := tab1 (h := h2) (t := t) (l := Y) (by omega) Y.length 0 _ (by omega) A
 rw [hlen] at e3 A3
 refine e3.trans ?_
 have := qN9 (l := Y) (by rw [hlen]; exact A3)
 exact this
end Go.Proofs.YtiahgnkffnokfaaGreatDoor.Ab
set_option maxHeartbeats 4000000
namespace Go.Proofs.YtiahgnkffnokfaaGreatDoor.Ab
open Go Go.AI
def Aft (t : List UInt8) : Prop := ∀ b, t[0]? = some b → isD b = false ∧ b.toNat < 128
theorem notD {b : UInt8} (h : isD b = false) : b.toNat < 48 ∨ 57 < b.toNat := by
 unfold isD at h
 rw [Bool.and_eq_false_iff, decide_eq_false_iff_not, decide_eq_false_iff_not] at h
 omega
theorem qK6 (ds t : List UInt8) (ht : Aft t) (hd : ∀ b ∈ ds, isD b = true) (hz : ds[0]? = some 48 → ds.length = 1) (hn : ds ≠ []) : Om 76 [kS (ds ++ t)] [] = some (kI (ds.length : Int), []) := by
 cases t with
 | nil => rw [List.append_nil]; exact qMW ds hd hz hn
 | cons c t =>
  obtain ⟨hc1, hc2⟩ := ht c rfl
  refine (qAC rfl).trans ?_
  show lim tab.get S 76 0 0 [kS (ds ++ c :: t)] h0 = _
  rw [w76_0, b76_0, qFD]
  obtain ⟨b0, hb0⟩ : ∃ b, ds[0]? = some b := ⟨ds[0]'(by cases ds with | nil => exact absurd rfl hn | cons a l => simp), by simp⟩
  have hb0' : (ds ++ c :: t)[0]? = some b0 := by rw [List.getElem?_append_left (List.getElem?_eq_some_iff.1 hb0).1]; exact hb0
  have ll : (ds ++ c :: t).length = ds.length + (t.length + 1) := by simp
  have loop : ∀ (m pos : Nat) (h : Heap), ds.length - pos = m → pos ≤ ds.length → h.get (.own 6 1) = some (.siter (ds ++ c :: t) pos) → lim tab.get S 76 0 1 [kS (ds ++ c :: t), .v (.c (.ptr (.own 6 1) 0))] h = some (kI (ds.length : Int), []) := by
   intro m
   induction m with
   | zero =>
    intro pos h hm hl hh
    have hp : pos = ds.length := by omega
    have hb : (ds ++ c :: t)[pos]? = some c := by rw [hp, List.getElem?_append_right (Nat.le_refl _), Nat.sub_self]; rfl
    have hf : vfin true 0 [.c (.p (.int .i64 (ds.length : Int)))] (h.put (.own 6 1) (.siter (ds ++ c :: t) (pos + 1))) = some (kI (ds.length : Int), []) := qAS _ _ rfl
    rw [w76_1, b76_1, qBt (ds ++ c :: t) pos _ hh (by omega), qAi _ 0 (.c (.p (.bool true))) rfl, qCU, qB9 (ds ++ c :: t) pos c hb hc2, qAi _ 1 (.c (.p (.int .i64 (pos : Int)))) rfl, qAi _ 2 (.c (.p (.int .i32 (c.toNat : Int)))) rfl]
    rcases notD hc1 with h1 | h1
    ·have r1 : ((c.toNat : Nat) : Int) < 48 := by omega
     simp (maxSteps := 9999999) +contextual only [exa, ne_eq, not_false_eq_true, reduceAdd, reduceMul, reduceLT, reduceLeDiff, reduceEqDiff, Int.reduceLT, Int.reduceLE, Int.reduceEq, Int.reduceToNat, r1, hp, oneOf]
    ·have r1 : ¬ ((c.toNat : Nat) : Int) < 48 := by omega
     have r2 : (57 : Int) < ((c.toNat : Nat) : Int) := by omega
     simp (maxSteps := 9999999) +contextual only [exa, ne_eq, not_false_eq_true, reduceAdd, reduceMul, reduceLT, reduceLeDiff, reduceEqDiff, Int.reduceLT, Int.reduceLE, Int.reduceEq, Int.reduceToNat, r1, r2, hp, oneOf]
   | succ m ih =>
    intro pos h hm hl hh
    obtain ⟨b, hb1⟩ : ∃ b, ds[pos]? = some b := ⟨ds[pos]'(by omega), by simp⟩
    have hb : (ds ++ c :: t)[pos]? = some b := by rw [List.getElem?_append_left (by omega)]; exact hb1
    obtain ⟨q1, q2⟩ := qGA (hd b (List.mem_of_getElem? hb1))
    have r1 : ¬ ((b.toNat : Nat) : Int) < 48 := by omega
    have r2 : ¬ (57 : Int) < ((b.toNat : Nat) : Int) := by omega
    have ih := ih (pos + 1) (h.own 6 1 (.siter (ds ++ c :: t) (pos + 1))) (by omega) (by omega) (Heap.own_get h 6 1 _ (by decide) (fun e => by cases e))
    rw [w76_1, b76_1, qBt (ds ++ c :: t) pos _ hh (by omega), qAi _ 0 (.c (.p (.bool true))) rfl, qCU, qB9 (ds ++ c :: t) pos b hb (by omega), qAi _ 1 (.c (.p (.int .i64 (pos : Int)))) rfl, qAi _ 2 (.c (.p (.int .i32 (b.toNat : Int)))) rfl]
    by_cases hp : (pos : Int) = 1
    ·have h2 : ¬ ((b0.toNat : Nat) : Int) = 48 := fun e => by
      have e2 : b0 = 48 := UInt8.toNat_inj.1 (by show b0.toNat = 48; omega)
      have := hz (by rw [hb0, e2])
      omega
     simp (maxSteps := 9999999) +contextual only [exa, ne_eq, not_false_eq_true, reduceAdd, reduceMul, reduceLT, reduceLeDiff, reduceEqDiff, Int.reduceLT, Int.reduceLE, Int.reduceEq, Int.reduceToNat, r1, r2, hp, hb0', h2, ih, oneOf]
    ·simp (maxSteps := 9999999) +contextual only [exa, ne_eq, not_false_eq_true, reduceAdd, reduceMul, reduceLT, reduceLeDiff, reduceEqDiff, Int.reduceLT, Int.reduceLE, Int.reduceEq, Int.reduceToNat, r1, r2, hp, ih, oneOf]
  refine (loop ds.length 0 _ (by omega) (by omega) (Heap.own_get _ 6 1 _ (by decide) (fun e => by cases e))).trans ?_
  rfl
theorem u76G {β : Type} {k : TVal → Heap → Option β} {h : Heap} {d : Nat} (ds t : List UInt8) (ht : Aft t) (hd : ∀ b ∈ ds, isD b = true) (hz : ds[0]? = some 48 → ds.length = 1) (hn : ds ≠ []) : vcall Om (.v (.c (.func 76 []))) [kS (ds ++ t)] h d k = k (kI (ds.length : Int)) h := qAG 76 _ _ rfl (qK6 ds t ht hd hz hn) rfl
theorem qPw (t : List UInt8) (b : Bool) (ds : List UInt8) (x : Nat) (hx : x ≤ lim53 b) (hl : ds.length ≤ 19) (h : Heap) (hg : h.get (.im 0) = some (rO (ds ++ t) 0)) (h2 : h.get (.own 2 1) = some (.cells Z6 0)) :
  lim tab.get S 53 1 5 [P0, R2, kB b, kI (ds.length : Int), kN .u64 (x : Int)] h = some (kA (numV (sgn b x)).row, [rO t 0]) := by
 have sl : ∀ {β : Type} {k : TVal → Heap → Option β} {hh : Heap} {d : Nat}, vop Om (.slice 0 true (.k (kS (ds ++ t))) (some (.k (kI (ds.length : Int)))) none none) hh d k = k (kS t) hh := fun {β k hh d} => (qCw (ds ++ t) ds.length (by simp)).trans (by rw [List.drop_left])
 have fin : ∀ (n : Int) (o : AObj), vfin true 1 [.agg (pcells (numV n).row)] ((h.put (.im 0) (rO t 0)).own 2 1 o) = some (kA (numV n).row, [rO t 0]) := fun n o => qAg true [.agg (pcells (numV n).row)] _ (by simp only [exP]) ((Heap.own_get_im _ _ _ _ _).trans (qAO h 0 _ _ (by rw [hg]; rfl))) (qAH t 0)
 rw [w53_5, b53_5]
 cases b
 ·have hx : x ≤ 9223372036854775807 := hx
  have e1 : IntKind.i64.wrap (x : Int) = (x : Int) := qAF _ (by omega) (by omega)
  simp (maxSteps := 9999999) +contextual only [exa, ne_eq, not_false_eq_true, reduceAdd, reduceMul, reduceLT, reduceLeDiff, reduceEqDiff, Int.reduceLT, Int.reduceLE, Int.reduceEq, Int.reduceToNat, exY, hg, h2, sl, qAX, qAY, qB8, qCb, qAU, e1, oneOf]
  exact fin x _
 ·have hx : x ≤ 9223372036854775808 := hx
  simp (maxSteps := 9999999) +contextual only [exa, ne_eq, not_false_eq_true, reduceAdd, reduceMul, reduceLT, reduceLeDiff, reduceEqDiff, Int.reduceLT, Int.reduceLE, Int.reduceEq, Int.reduceToNat, exY, hg, h2, sl, qAX, qAY, qB8, qCb, qAU, qMs x hx, oneOf]
  exact fin (-(x : Int)) _
theorem qPv (t : List UInt8) (b : Bool) (ds : List UInt8) (x : Nat) (hx : x ≤ lim53 b) (hl : ds.length ≤ 19) (h : Heap) (hg : h.get (.im 0) = some (rO (ds ++ t) 0)) (h2 : h.get (.own 2 1) = some (.cells Z6 0)) :
  lim tab.get S 53 1 4 [P0, R2, kB b, kI (ds.length : Int), kN .u64 (x : Int), kN .u64 (lim53 b : Int)] h = some (kA (numV (sgn b x)).row, [rO t 0]) := by
 rw [w53_4, b53_4, qHS, qCo, if_neg (by rw [decide_eq_true_eq]; omega)]
 exact qPw t b ds x hx hl h hg h2
theorem qNB (t : List UInt8) (b : Bool) (ds : List UInt8) (hd : ∀ b ∈ ds, isD b = true) (hx : valD ds 0 ≤ lim53 b) (hl : ds.length ≤ 19) : ∀ (m pos : Nat) (h : Heap), ds.length - pos = m → pos ≤ ds.length → h.get (.own 36 1) = some (.siter ds pos) → h.get (.im 0) = some (rO (ds ++ t) 0) → h.get (.own 2 1) = some (.cells Z6 0) →
  lim tab.get S 53 1 3 [P0, R2, kB b, kI (ds.length : Int), kN .u64 (valD (ds.take pos) 0 : Int), kN .u64 (lim53 b : Int), .v (.c (.ptr (.own 36 1) 0))] h = some (kA (numV (sgn b (valD ds 0))).row, [rO t 0])
 | 0, pos, h, hm, hp, hh, hg, h2 => by
  rw [w53_3, b53_3, qEm ds pos _ hh (by omega), qAi _ 0 (.c (.p (.bool false))) rfl, qDf]
  have : ds.take pos = ds := List.take_of_length_le (by omega)
  rw [this]
  exact qPv t b ds _ hx hl _ hg ((Heap.own_get_ne h 36 1 _ 2 1 (by decide)).trans h2)
 | m + 1, pos, h, hm, hp, hh, hg, h2 => by
  obtain ⟨c, hc⟩ : ∃ c, ds[pos]? = some c := ⟨ds[pos]'(by omega), by simp⟩
  have hcd := hd c (List.mem_of_getElem? hc)
  obtain ⟨q1, q2⟩ := qGA hcd
  have htk : ds.take (pos + 1) = ds.take pos ++ [c] := by rw [List.take_add_one, hc]; rfl
  have hx1 := qIa (ds.take (pos + 1)) 0 (fun c hc => hd c (List.mem_of_mem_take hc))
  have hx2 : (10 : Nat) ^ (ds.take (pos + 1)).length ≤ 10 ^ 19 := Nat.pow_le_pow_right (by decide) (by simp; omega)
  have pw : (10 : Nat) ^ 19 = 10000000000000000000 := by decide
  rw [htk, qFZ] at hx1
  rw [htk] at hx2
  rw [w53_3, b53_3, qBt ds pos _ hh (by omega), qAi _ 0 (.c (.p (.bool true))) rfl, qCU, qB9 ds pos c hc (by omega), qAi _ 2 (.c (.p (.int .i32 (c.toNat : Int)))) rfl,
   qGS, qCS _ (by omega) (by omega), qGj]
  have e1 : IntKind.i32.wrap ((c.toNat : Int) - 48) = (c.toNat : Int) - 48 := qAN .i32 _ (by show (-2147483648 : Int) ≤ _; omega) (by show _ ≤ (2147483647 : Int); omega)
  rw [e1, qGk, qCS _ (by omega) (by omega), qCL, qCS _ (by omega) (by omega)]
  have e2 : (10 * (valD (ds.take pos) 0 : Int) + ((c.toNat : Int) - 48)) = (valD (ds.take (pos + 1)) 0 : Int) := by rw [htk, qFZ]; omega
  rw [e2]
  exact qNB t b ds hd hx hl m (pos + 1) _ (by omega) (by omega) (Heap.own_get h 36 1 _ (by decide) (fun e => by cases e)) hg ((Heap.own_get_ne h 36 1 _ 2 1 (by decide)).trans h2)
theorem qQH (t : List UInt8) (b : Bool) (ds : List UInt8) (hd : ∀ b ∈ ds, isD b = true) (hx : valD ds 0 ≤ lim53 b) (hl : ds.length ≤ 19) (h : Heap) (hgen : h.gen 36 = 0) (hg : h.get (.im 0) = some (rO (ds ++ t) 0)) (h2 : h.get (.own 2 1) = some (.cells Z6 0)) :
  lim tab.get S 53 1 1 [P0, R2, kB b, kI (ds.length : Int)] h = some (kA (numV (sgn b (valD ds 0))).row, [rO t 0]) := by
 have two : lim tab.get S 53 1 2 [P0, R2, kB b, kI (ds.length : Int), kN .u64 ((0 : Nat) : Int), kN .u64 (lim53 b : Int)] h = some (kA (numV (sgn b (valD ds 0))).row, [rO t 0]) := by
  have mm : ¬ (19 : Int) < (ds.length : Int) := by omega
  have sl : ∀ {β : Type} {k : TVal → Heap → Option β} {hh : Heap} {d : Nat}, vop Om (.slice 0 true (.k (kS (ds ++ t))) none (some (.k (kI (ds.length : Int)))) none) hh d k = k (kS ds) hh := fun {β k hh d} => (qCP (ds ++ t) ds.length (by simp)).trans (by rw [List.take_left])
  rw [w53_2, b53_2]
  simp (maxSteps := 9999999) +contextual only [exa, ne_eq, not_false_eq_true, reduceAdd, reduceMul, reduceLT, reduceLeDiff, reduceEqDiff, Int.reduceLT, Int.reduceLE, Int.reduceEq, Int.reduceToNat, exY, hg, qAX, qAY, qAU, mm, sl, qFD, hgen, if_false, oneOf]
  exact qNB t b ds hd hx hl ds.length 0 _ (by omega) (by omega) (Heap.own_get _ 36 1 _ (by decide) (fun e => by cases e)) hg ((Heap.own_get_ne _ 36 1 _ 2 1 (by decide)).trans h2)
 rw [w53_1, b53_1]
 cases b
 ·rw [qDf]; exact two
 ·rw [qCU, qCL]; exact two
theorem qM4 (b : Bool) (ds t : List UInt8) : numT b ds ++ t = numT b (ds ++ t) := by cases b <;> rfl
theorem qPm (t : List UInt8) (ht : Aft t) (b : Bool) (ds : List UInt8) (H : NumOk b ds) : Om 53 [P0] [rO (numT b ds ++ t) 0] = some (kA (numV (sgn b (valD ds 0))).row, [rO t 0]) := by
 rw [qM4]
 refine (qAC rfl).trans ?_
 show lim tab.get S 53 1 0 [P0] { ims := [rO (numT b (ds ++ t)) 0], owns := .nil } = _
 have c := fun {β : Type} {k : TVal → Heap → Option β} {h : Heap} {d : Nat} => u76G (β := β) (k := k) (h := h) (d := d) ds t ht H.hd H.hz H.hn
 have n0 : ¬ ((ds.length : Nat) : Int) = 0 := by have := List.length_pos_iff.2 H.hn; omega
 have n1 : ¬ (19 : Int) < ((ds.length : Nat) : Int) := by have := H.hl; omega
 have t1 : (if (numT b (ds ++ t)).take ([45] : List UInt8).length = [45] then (numT b (ds ++ t)).drop ([45] : List UInt8).length else numT b (ds ++ t)) = ds ++ t ∧ decide ((numT b (ds ++ t)).take ([45] : List UInt8).length = [45]) = b := by
  obtain ⟨x, l, e, h | h⟩ := qET H
  ·obtain ⟨rfl, rfl, rfl⟩ := h
   exact ⟨rfl, rfl⟩
  ·obtain ⟨rfl, h1, h2⟩ := h
   have : ¬ ([x] : List UInt8) = [45] := fun e => by
    have e2 : x = 45 := by simpa using e
    rw [e2] at h1; exact absurd h1 (by decide)
   rw [← h2]
   show (if [x] = [45] then _ else _) = _ ∧ decide ([x] = [45]) = false
   rw [if_neg this]
   exact ⟨rfl, decide_eq_false this⟩
 have u := fun (k : TVal → Heap → Option (TVal × List AObj)) => u48 (k := k) (d := 10) (h := (Heap.mk [rO (numT b (ds ++ t)) 0] .nil).own 2 1 (.cells Z6 0)) (.im 0) (numT b (ds ++ t)) [45] rfl
 simp only [t1.1, t1.2] at u
 have hput : ((Heap.mk [rO (numT b (ds ++ t)) 0] .nil).own 2 1 (.cells Z6 0)).put (.im 0) (rO (ds ++ t) 0) = (Heap.mk [rO (ds ++ t) 0] .nil).own 2 1 (.cells Z6 0) := rfl
 simp only [hput] at u
 have hg : ((Heap.mk [rO (ds ++ t) 0] .nil).own 2 1 (.cells Z6 0)).get (.im 0) = some (rO (ds ++ t) 0) := rfl
 rw [w53_0, b53_0, qK7]
 show vcall Om (.v (.c (.func 48 []))) [P0, kS [45]] ((Heap.mk [rO (numT b (ds ++ t)) 0] .nil).own 2 1 (.cells Z6 0)) 10 _ = _
 rw [u]
 simp (maxSteps := 9999999) +contextual only [exa, ne_eq, not_false_eq_true, reduceAdd, reduceMul, reduceLT, reduceLeDiff, reduceEqDiff, Int.reduceLT, Int.reduceLE, Int.reduceEq, Int.reduceToNat, exY, hg, qAX, qAY, qAU, c, n0, n1, if_false, oneOf]
 exact qQH t b ds H.hd H.hx H.hl _ rfl hg rfl
end Go.Proofs.YtiahgnkffnokfaaGreatDoor.Ab
set_option maxHeartbeats 4000000
namespace Go.AI
section
variable {β : Type} {O : Oracle} {h : Heap} {d : Nat} {k : TVal → Heap → Option β} {kt : TVal → Heap → Touch → Option β}
end
end Go.AI
namespace Go.Proofs.YtiahgnkffnokfaaGreatDoor.Ab
open Go Go.AI
def Rd (d : Int) (s : List UInt8) (v : VT) (t : List UInt8) : Prop := Om 26 [P0, kI d] [rO s 0] = some (kA v.row, [rO t 0])
abbrev oL (L : Cell) : AObj := .cells [.p (.int .i64 4), .p (.bool false), .p (.int .i64 0), .p (.str []), .p .nilslice, L] 0
end Go.Proofs.YtiahgnkffnokfaaGreatDoor.Ab
set_option maxHeartbeats 4000000
namespace Go.Proofs.YtiahgnkffnokfaaGreatDoor.Ab
open Go Go.AI
theorem qIK {x : UInt8} {s : List UInt8} (c : UInt8) (w : List UInt8) (hc : c ≠ x) : ¬ (x :: s).take (c :: w).length = c :: w := fun e => hc (by
 have := congrArg List.head? e
 simp at this
 exact this.symm)
def nullV : VT := .mk 0 false 0 [] .nil .nil
section
variable (d : Int) (hd : d ≤ 12) (s : List UInt8)
include hd
theorem qPY (t : List UInt8) (hs : trimB s = 110 :: 117 :: 108 :: 108 :: t) : Rd d s nullV t := by
 unfold Rd
 refine (qAC rfl).trans ?_
 show lim tab.get S 26 1 0 [P0, kI d] (Heap.mk [rO s 0] .nil) = _
 have hd' : ¬ 12 < d := by omega
 have c27 := fun {β : Type} {k : TVal → Heap → Option β} {h : Heap} {e : Nat} (hg : h.get (.im 0) = some (rO s 0)) => qDJ (β := β) (k := k) (h := h) (d := e) (.im 0) s 0 hg
 rw [hs] at c27
 have n1 : ∀ {β : Type} {k : TVal → Heap → Option β} {h : Heap} {e : Nat}, h.get (.im 0) = some (rO (110 :: 117 :: 108 :: 108 :: t) 0) → vcall Om (.v (.c (.func 48 []))) [P0, kS [110, 117, 108, 108]] h e k = k (kB true) (h.put (.im 0) (rO t 0)) := fun {β k h e} hg => (u48 (.im 0) _ [110, 117, 108, 108] hg).trans rfl
 have s1 : ∀ {β : Type} {k : TVal → Heap → Option β} {hh : Heap} {e : Nat}, vop Om (.slice 0 true (.k (kS (110 :: 117 :: 108 :: 108 :: t))) none (some (.k (kI 1))) none) hh e k = k (kS [110]) hh := fun {β k hh e} => qCP _ 1 (by simp)
 have c46 := fun {β : Type} {k : TVal → Heap → Option β} {h : Heap} {e : Nat} => qLX (β := β) (k := k) (h := h) (d := e) 110
 have hne : ¬ (110 :: 117 :: 108 :: 108 :: t) = [] := by simp
 rw [show isStart (110 : UInt8).toNat = true by decide] at c46
 rw [w26_0, b26_0]
 simp (maxSteps := 9999999) +contextual only [exa, ne_eq, not_false_eq_true, reduceAdd, reduceMul, reduceLT, reduceLeDiff, reduceEqDiff, Int.reduceLT, Int.reduceLE, Int.reduceEq, Int.reduceToNat, exY, qBl, qAX, qAY, qAU, c27, n1, hne, s1, c46, hd', if_false, oneOf]
 exact qAg true [.agg (pcells nullV.row)] _ (by simp only [exP]) rfl (qAH _ _)
end
end Go.Proofs.YtiahgnkffnokfaaGreatDoor.Ab
set_option maxHeartbeats 4000000
namespace Go.Proofs.YtiahgnkffnokfaaGreatDoor.Ab
open Go Go.AI
section
variable (d : Int) (hd : d ≤ 12) (s : List UInt8)
include hd
theorem qNG (q : List UInt8) (v : VT) (t : List UInt8) (x : Int) (hs : trimB s = 123 :: q) (H : Om 52 [P0, kI d] [rO q 0] = some (kA v.row, [rO t x])) : Om 26 [P0, kI d] [rO s 0] = some (kA v.row, [rO t x]) := by
 refine (qAC rfl).trans ?_
 show lim tab.get S 26 1 0 [P0, kI d] (Heap.mk [rO s 0] .nil) = _
 have hd' : ¬ 12 < d := by omega
 have c27 := fun {β : Type} {k : TVal → Heap → Option β} {h : Heap} {e : Nat} (hg : h.get (.im 0) = some (rO s 0)) => qDJ (β := β) (k := k) (h := h) (d := e) (.im 0) s 0 hg
 rw [hs] at c27
 have nn := fun (w : List UInt8) (c : UInt8) (hc : c ≠ 123) {β : Type} {k : TVal → Heap → Option β} {h : Heap} {e : Nat} (hg : h.get (.im 0) = some (rO (123 :: q) 0)) => qIs (β := β) (k := k) (h := h) (d := e) _ (c :: w) hg (qIK c w hc)
 have n1 := fun {β : Type} {k : TVal → Heap → Option β} {h : Heap} {e : Nat} => nn [117, 108, 108] 110 (by decide) (β := β) (k := k) (h := h) (e := e)
 have n2 := fun {β : Type} {k : TVal → Heap → Option β} {h : Heap} {e : Nat} => nn [114, 117, 101] 116 (by decide) (β := β) (k := k) (h := h) (e := e)
 have n3 := fun {β : Type} {k : TVal → Heap → Option β} {h : Heap} {e : Nat} => nn [97, 108, 115, 101] 102 (by decide) (β := β) (k := k) (h := h) (e := e)
 have n4 := fun {β : Type} {k : TVal → Heap → Option β} {h : Heap} {e : Nat} => nn [] 34 (by decide) (β := β) (k := k) (h := h) (e := e)
 have n5 := fun {β : Type} {k : TVal → Heap → Option β} {h : Heap} {e : Nat} => nn [] 91 (by decide) (β := β) (k := k) (h := h) (e := e)
 have n6 : ∀ {β : Type} {k : TVal → Heap → Option β} {h : Heap} {e : Nat}, h.get (.im 0) = some (rO (123 :: q) 0) → vcall Om (.v (.c (.func 48 []))) [P0, kS [123]] h e k = k (kB true) (h.put (.im 0) (rO q 0)) := fun {β k h e} hg => (u48 (.im 0) _ [123] hg).trans rfl
 have s1 : ∀ {β : Type} {k : TVal → Heap → Option β} {hh : Heap} {e : Nat}, vop Om (.slice 0 true (.k (kS (123 :: q))) none (some (.k (kI 1))) none) hh e k = k (kS [123]) hh := fun {β k hh e} => qCP _ 1 (by simp)
 have c52 : ∀ {β : Type} {k : TVal → Heap → Option β} {h : Heap} {e : Nat}, h.get (.im 0) = some (rO q 0) → vcall Om (.v (.c (.func 52 []))) [P0, kI d] h e k = k (kA v.row) (h.put (.im 0) (rO t x)) := fun {β k h e} hg =>
  qAZ 52 (.im 0) 0 [] [kI d] _ _ _ rfl rfl hg (qAH _ _) (qAH _ _) (by simp only [exP]) H
 have c46 := fun {β : Type} {k : TVal → Heap → Option β} {h : Heap} {e : Nat} => qLX (β := β) (k := k) (h := h) (d := e) 123
 rw [show isStart (123 : UInt8).toNat = true by decide] at c46
 have hne : ¬ (123 :: q) = [] := by simp
 have hl : ∀ Z : List Cell, Z.length = 6 → put1 Z 0 (pcells v.row) = pcells v.row := fun Z hz => qAk _ _ (by rw [qAL, VT.row_len, hz])
 have hl2 : (pcells v.row).length = 6 := by rw [qAL, VT.row_len]
 have hl3 : (pcells v.row).take 6 = pcells v.row := List.take_of_length_le (by omega)
 rw [w26_0, b26_0]
 simp (maxSteps := 9999999) +contextual only [exa, ne_eq, not_false_eq_true, reduceAdd, reduceMul, reduceLT, reduceLeDiff, reduceEqDiff, Int.reduceLT, Int.reduceLE, Int.reduceEq, Int.reduceToNat, exY, qBl, qAX, qAY, qAU, c27, n1, n2, n3, n4, n5, n6, hne, s1, c46, hd', if_false, oneOf]
 rw [c52 rfl]
 simp (maxSteps := 9999999) +contextual only [exa, ne_eq, not_false_eq_true, reduceAdd, reduceMul, reduceLT, reduceLeDiff, reduceEqDiff, Int.reduceLT, Int.reduceLE, Int.reduceEq, Int.reduceToNat, exY, hl, hl2, hl3, oneOf]
 exact qAg true [.agg (pcells v.row)] (rO t x) (by simp only [exP]) rfl (qAH _ _)
end
end Go.Proofs.YtiahgnkffnokfaaGreatDoor.Ab
set_option maxHeartbeats 4000000
namespace Go.Proofs.YtiahgnkffnokfaaGreatDoor.Ab
open Go Go.AI
section
variable (d : Int) (hd : d ≤ 12) (s : List UInt8)
include hd
theorem qPI (b : Bool) (ds t : List UInt8) (H : NumOk b ds) (ht : Aft t) (hs : trimB s = numT b ds ++ t) : Rd d s (numV (sgn b (valD ds 0))) t := by
 unfold Rd
 refine (qAC rfl).trans ?_
 show lim tab.get S 26 1 0 [P0, kI d] (Heap.mk [rO s 0] .nil) = _
 have hd' : ¬ 12 < d := by omega
 obtain ⟨x, l, e, hx⟩ := qET H
 have hxs : isStart x.toNat = true ∧ isNtf x.toNat = false ∧ (x = 45 ∨ 48 ≤ x.toNat ∧ x.toNat ≤ 57) := by
  rcases hx with ⟨rfl, _, _⟩ | ⟨_, h, _⟩
  ·exact ⟨by decide, by decide, .inl rfl⟩
  ·obtain ⟨h1, h2⟩ := qGA h
   have e0 : isStart x.toNat = true ∧ isNtf x.toNat = false := by
    unfold isStart isNtf
    have e1 : ∀ y, y < 48 → Nat.beq x.toNat y = false := fun y hy => by apply Bool.eq_false_iff.2; intro hh; have := Nat.eq_of_beq_eq_true hh; omega
    have e2 : ∀ y, 57 < y → Nat.beq x.toNat y = false := fun y hy => by apply Bool.eq_false_iff.2; intro hh; have := Nat.eq_of_beq_eq_true hh; omega
    have e3 : Nat.ble 48 x.toNat = true := Nat.ble_eq_true_of_le h1
    have e4 : Nat.ble x.toNat 57 = true := Nat.ble_eq_true_of_le h2
    simp [e1, e2, e3, e4]
   exact ⟨e0.1, e0.2, .inr ⟨h1, h2⟩⟩
 have nx : ∀ c : UInt8, (c.toNat < 45 ∨ 57 < c.toNat) → c ≠ x := fun c hc e => by
  subst e
  rcases hxs.2.2 with h | h
  ·rw [h] at hc; revert hc; decide
  ·omega
 have hs2 : trimB s = x :: (l ++ t) := by rw [hs, e]; rfl
 have hw : numT b ds ++ t = x :: (l ++ t) := by rw [e]; rfl
 have c27 := fun {β : Type} {k : TVal → Heap → Option β} {h : Heap} {e : Nat} (hg : h.get (.im 0) = some (rO s 0)) => qDJ (β := β) (k := k) (h := h) (d := e) (.im 0) s 0 hg
 rw [hs2] at c27
 have nn := fun (w : List UInt8) (c : UInt8) (hc : c.toNat < 45 ∨ 57 < c.toNat) {β : Type} {k : TVal → Heap → Option β} {h : Heap} {e : Nat} (hg : h.get (.im 0) = some (rO (x :: (l ++ t)) 0)) => qIs (β := β) (k := k) (h := h) (d := e) _ (c :: w) hg (qIK c w (nx c hc))
 have n1 := fun {β : Type} {k : TVal → Heap → Option β} {h : Heap} {e : Nat} => nn [117, 108, 108] 110 (by decide) (β := β) (k := k) (h := h) (e := e)
 have n2 := fun {β : Type} {k : TVal → Heap → Option β} {h : Heap} {e : Nat} => nn [114, 117, 101] 116 (by decide) (β := β) (k := k) (h := h) (e := e)
 have n3 := fun {β : Type} {k : TVal → Heap → Option β} {h : Heap} {e : Nat} => nn [97, 108, 115, 101] 102 (by decide) (β := β) (k := k) (h := h) (e := e)
 have n4 := fun {β : Type} {k : TVal → Heap → Option β} {h : Heap} {e : Nat} => nn [] 34 (by decide) (β := β) (k := k) (h := h) (e := e)
 have n5 := fun {β : Type} {k : TVal → Heap → Option β} {h : Heap} {e : Nat} => nn [] 91 (by decide) (β := β) (k := k) (h := h) (e := e)
 have n6 := fun {β : Type} {k : TVal → Heap → Option β} {h : Heap} {e : Nat} => nn [] 123 (by decide) (β := β) (k := k) (h := h) (e := e)
 have s1 : ∀ {β : Type} {k : TVal → Heap → Option β} {hh : Heap} {e : Nat}, vop Om (.slice 0 true (.k (kS (x :: (l ++ t)))) none (some (.k (kI 1))) none) hh e k = k (kS [x]) hh := fun {β k hh e} => qCP _ 1 (by simp)
 have c53 : ∀ {β : Type} {k : TVal → Heap → Option β} {h : Heap} {e : Nat}, h.get (.im 0) = some (rO (x :: (l ++ t)) 0) → vcall Om (.v (.c (.func 53 []))) [P0] h e k = k (kA (numV (sgn b (valD ds 0))).row) (h.put (.im 0) (rO t 0)) := fun {β k h e} hg =>
  qAZ 53 (.im 0) 0 [] [] _ _ _ rfl rfl hg (qAH _ _) (qAH _ _) (by simp only [exP]) (by rw [← hw]; exact qPm t ht b ds H)
 have hne : ¬ (x :: (l ++ t)) = [] := by simp
 rw [w26_0, b26_0]
 simp (maxSteps := 9999999) +contextual only [exa, ne_eq, not_false_eq_true, reduceAdd, reduceMul, reduceLT, reduceLeDiff, reduceEqDiff, Int.reduceLT, Int.reduceLE, Int.reduceEq, Int.reduceToNat, exY, qBl, qAX, qAY, qAU, c27, n1, n2, n3, n4, n5, n6, hne, s1, qLX, u46n, hxs.1, hxs.2.1, c53, hd', if_false, oneOf]
 exact qAg true [.agg (pcells (numV (sgn b (valD ds 0))).row)] _ (by simp only [exP]) rfl (qAH _ _)
end
end Go.Proofs.YtiahgnkffnokfaaGreatDoor.Ab
set_option maxHeartbeats 4000000
namespace Go.Proofs.YtiahgnkffnokfaaGreatDoor.Ab
open Go Go.AI
theorem qID {β : Type} {O : Oracle} {k : TVal → Heap → Option β} {h : Heap} {d : Nat} (g : FuncId) (args : List TVal) (v : TVal) (s1 : args.map TVal.strip = args) (s2 : args.flatMap TVal.refs = []) (s3 : ∀ σ, args.map (TVal.ren σ) = args) (hv : ∀ σ, v.ren σ = v) (hc : O g args [] = some (v, [])) : vcall O (.v (.c (.func g []))) args h d k = k v h := by
 have e2 : reach h fuelReach (args.flatMap TVal.refs) [] = [] := by rw [s2]; exact qBa _ _
 rw [qFI g args args args [] [] [] [] v s1 e2 rfl (s3 _) rfl hc (Nat.le_refl _), hv]
 rfl
theorem qNX (s : List UInt8) : Om 101 [kS s] [] = some (kB (decide ((200 : Int) < (s.length : Int))), []) := by
 refine (qAC rfl).trans ?_
 show lim tab.get S 101 0 0 [kS s] h0 = _
 rw [w101_0, b101_0]
 simp (maxSteps := 9999999) +contextual only [exa, ne_eq, not_false_eq_true, reduceAdd, reduceMul, reduceLT, reduceLeDiff, reduceEqDiff, Int.reduceLT, Int.reduceLE, Int.reduceEq, Int.reduceToNat, exW, exY, oneOf]
abbrev F101 : TVal := .v (.c (.func 101 []))
theorem v101 {β : Type} {k : TVal → Heap → Option β} {h : Heap} {d : Nat} (s : List UInt8) : vcall Om F101 [kS s] h d k = k (kB (decide ((200 : Int) < (s.length : Int)))) h := qAG 101 _ _ rfl (qNX s) rfl
def fidx : List (List UInt8) → Nat → Int
 | [], _ => -1
 | k :: l, i => if (200 : Int) < (k.length : Int) then (i : Int) else fidx l (i + 1)
theorem qOr (s : Sl (List UInt8)) (hl : s.len ≤ 1000000) : Om 120 [.v (.c (.p (slP 1 sRow s))), F101] [] = some (kI (fidx s.list 0), []) := by
 refine (qAC rfl).trans ?_
 show lim tab.get S 120 0 0 [.v (.c (.p (slP 1 sRow s))), F101] h0 = _
 have loop : ∀ i : Nat, lim tab.get S 120 0 1 [.v (.c (.p (slP 1 sRow s))), F101, kI (s.len : Int), kI (i : Int)] h0 = some (kI (fidx (s.list.drop i) i), []) := by
  refine qCh s.len (fun i hi => ?_) (fun i hi ih => ?_) <;> rw [w120_1, b120_1]
  ·have h1 : ¬ (i : Int) < (s.len : Int) := by omega
   simp (maxSteps := 9999999) +contextual only [exa, ne_eq, not_false_eq_true, reduceAdd, reduceMul, reduceLT, reduceLeDiff, reduceEqDiff, Int.reduceLT, Int.reduceLE, Int.reduceEq, Int.reduceToNat, exW, exY, h1, qCF hi, fidx, oneOf]
  ·have h1 : (i : Int) < (s.len : Int) := by omega
   obtain ⟨x, hx, e1, mx⟩ := qBr hi
   rw [e1, fidx]
   by_cases h2 : (200 : Int) < (x.length : Int)
   ·simp (maxSteps := 9999999) +contextual only [exa, ne_eq, not_false_eq_true, reduceAdd, reduceMul, reduceLT, reduceLeDiff, reduceEqDiff, Int.reduceLT, Int.reduceLE, Int.reduceEq, Int.reduceToNat, exW, exY, h1, hx, v101, h2, if_true, oneOf]
   ·simp (maxSteps := 9999999) +contextual only [exa, ne_eq, not_false_eq_true, reduceAdd, reduceMul, reduceLT, reduceLeDiff, reduceEqDiff, Int.reduceLT, Int.reduceLE, Int.reduceEq, Int.reduceToNat, exW, exY, h1, hx, v101, h2, qBf i (by omega), ih, if_false]
 rw [w120_0, b120_0]
 have := loop 0
 simp (maxSteps := 9999999) +contextual only [exa, ne_eq, not_false_eq_true, reduceAdd, reduceMul, reduceLT, reduceLeDiff, reduceEqDiff, Int.reduceLT, Int.reduceLE, Int.reduceEq, Int.reduceToNat, exW, exY]
 exact this
def longK (l : List (List UInt8)) : Bool := decide (0 ≤ fidx l 0)
theorem qOw (s : Sl (List UInt8)) (hl : s.len ≤ 1000000) : Om 100 [.v (.c (.p (slP 1 sRow s))), F101] [] = some (kB (longK s.list), []) := by
 refine (qAC rfl).trans ?_
 show lim tab.get S 100 0 0 [.v (.c (.p (slP 1 sRow s))), F101] h0 = _
 have c := fun {β : Type} {k : TVal → Heap → Option β} {h : Heap} {d : Nat} => qID (O := Om) (k := k) (h := h) (d := d) 120 [.v (.c (.p (slP 1 sRow s))), F101] _ rfl rfl (fun _ => rfl) (fun _ => rfl) (qOr s hl)
 rw [w100_0, b100_0]
 have e : (!decide (fidx s.list 0 < 0)) = longK s.list := by unfold longK; by_cases h : fidx s.list 0 < 0 <;> simp [h] <;> omega
 simp (maxSteps := 9999999) +contextual only [exa, ne_eq, not_false_eq_true, reduceAdd, reduceMul, reduceLT, reduceLeDiff, reduceEqDiff, Int.reduceLT, Int.reduceLE, Int.reduceEq, Int.reduceToNat, exW, exY, c, e, oneOf]
def rowG : Option (List UInt8) → List (List UInt8) → Int
 | _, [] => 0
 | none, b :: l => rowG (some b) l
 | some a, b :: l => if bless a b = true then rowG (some b) l else 6
def keysE (l : List (List UInt8)) : Int := if longK l = true then 4 else rowG none l
theorem qPL (s : Sl (List UInt8)) (hl : s.len ≤ 1000000) : Om 72 [.v (.c (.p (slP 1 sRow s)))] [] = some (kI (keysE s.list), []) := by
 refine (qAC rfl).trans ?_
 show lim tab.get S 72 0 0 [.v (.c (.p (slP 1 sRow s)))] h0 = _
 have c := fun {β : Type} {k : TVal → Heap → Option β} {h : Heap} {d : Nat} => qID (O := Om) (k := k) (h := h) (d := d) 100 [.v (.c (.p (slP 1 sRow s))), F101] _ rfl rfl (fun _ => rfl) (fun _ => rfl) (qOw s hl)
 have loop : ∀ i : Nat, ∀ o : Option (List UInt8), (i = 0 → o = none) → (∀ j, i = j + 1 → o = s.list[j]? ∧ j < s.len) → lim tab.get S 72 0 1 [.v (.c (.p (slP 1 sRow s))), kI (s.len : Int), kI (i : Int)] h0 = some (kI (rowG o (s.list.drop i)), []) := by
  refine qCh s.len (fun i hi o h0 h1 => ?_) (fun i hi ih o h0 hj => ?_) <;> rw [w72_1, b72_1]
  ·have h1 : ¬ (i : Int) < (s.len : Int) := by omega
   have : rowG o [] = 0 := by cases o <;> rfl
   simp (maxSteps := 9999999) +contextual only [exa, ne_eq, not_false_eq_true, reduceAdd, reduceMul, reduceLT, reduceLeDiff, reduceEqDiff, Int.reduceLT, Int.reduceLE, Int.reduceEq, Int.reduceToNat, exW, exY, h1, qCF hi, this, oneOf]
  ·have h1 : (i : Int) < (s.len : Int) := by omega
   obtain ⟨x, hx, e1, mx⟩ := qBr hi
   have nj : ∀ j, i + 1 = j + 1 → some x = s.list[j]? ∧ j < s.len := by
    intro j e
    have hj' : j = i := by omega
    rw [hj']
    exact ⟨hx.symm, hi⟩
   have nx := ih (some x) (fun e => by omega) nj
   rw [e1]
   cases i with
   | zero =>
    rw [h0 rfl, rowG]
    have z : ¬ (0 : Int) < ((0 : Nat) : Int) := by decide
    have z1 : (0 : Int) < (s.len : Int) := by omega
    simp (maxSteps := 9999999) +contextual only [exa, ne_eq, not_false_eq_true, reduceAdd, reduceMul, reduceLT, reduceLeDiff, reduceEqDiff, Int.reduceLT, Int.reduceLE, Int.reduceEq, Int.reduceToNat, exW, exY, h1, z, z1, hx, qBf 0 (by omega), nx, if_false]
   | succ j =>
    obtain ⟨e2, hj2⟩ := hj j rfl
    obtain ⟨y, hy⟩ : ∃ y, s.list[j]? = some y := ⟨s.list[j]'hj2, List.getElem?_eq_getElem _⟩
    rw [e2, hy, rowG]
    have z : (0 : Int) < ((j + 1 : Nat) : Int) := by omega
    have z2 : (j : Int) < (s.len : Int) := by omega
    have ew : IntKind.i64.wrap (((j + 1 : Nat) : Int) - 1) = ((j : Nat) : Int) := by rw [qAF _ (by omega) (by omega)]; omega
    cases hb : bless y x
    ·simp (maxSteps := 9999999) +contextual only [exa, ne_eq, not_false_eq_true, reduceAdd, reduceMul, reduceLT, reduceLeDiff, reduceEqDiff, Int.reduceLT, Int.reduceLE, Int.reduceEq, Int.reduceToNat, exW, exY, h1, z, z2, ew, hx, hy, hb, if_false, oneOf, Bool.false_eq_true]
    ·simp (maxSteps := 9999999) +contextual only [exa, ne_eq, not_false_eq_true, reduceAdd, reduceMul, reduceLT, reduceLeDiff, reduceEqDiff, Int.reduceLT, Int.reduceLE, Int.reduceEq, Int.reduceToNat, exW, exY, h1, z, z2, ew, hx, hy, hb, qBf (j + 1) (by omega), nx, if_true]
 rw [w72_0, b72_0]
 unfold keysE
 have := loop 0 none (fun _ => rfl) (fun j e => by omega)
 cases hk : longK s.list
 ·simp (maxSteps := 9999999) +contextual only [exa, ne_eq, not_false_eq_true, reduceAdd, reduceMul, reduceLT, reduceLeDiff, reduceEqDiff, Int.reduceLT, Int.reduceLE, Int.reduceEq, Int.reduceToNat, exW, exY, c, hk, if_false, Bool.false_eq_true]
  exact this
 ·simp (maxSteps := 9999999) +contextual only [exa, ne_eq, not_false_eq_true, reduceAdd, reduceMul, reduceLT, reduceLeDiff, reduceEqDiff, Int.reduceLT, Int.reduceLE, Int.reduceEq, Int.reduceToNat, exW, exY, c, hk, if_true, oneOf]
end Go.Proofs.YtiahgnkffnokfaaGreatDoor.Ab
set_option maxHeartbeats 4000000
namespace Go.Proofs.YtiahgnkffnokfaaGreatDoor.Ab
open Go Go.AI
def extraM (v : VT) : Bool :=
 (if v.kind = 1 then false else v.b) || (if v.kind = 2 then false else !decide (v.n = 0)) || (if v.kind = 3 then false else !decide (v.s = [])) || (if v.kind = 5 then false else decide (0 < (v.keys.len : Int))) || (if v.kind = 5 ∨ v.kind = 4 then false else decide (0 < (v.l.len : Int)))
def rawV (b : Bool) (n : Int) (s : List UInt8) (ks ls : Int) : Bool := b || !decide (n = 0) || !decide (s = []) || decide (0 < ks) || decide (0 < ls)
abbrev pX : TVal := .v (.c (.ptr (.own 3 1) 0))
theorem qCA {k : Int} {b : Bool} {n : Int} {s : List UInt8} {ks : Sl (List UInt8)} {l : Sl VT} {h : Heap} (hg : h.get (.own 3 1) = some (.cells (pcells [.int .i64 k, .bool b, .int .i64 n, .str s, slP 1 sRow ks, slP 6 VT.row l]) 0)) :
  lim tab.get S 71 0 2 [pX] h = some (kB (rawV b n s ks.len l.len), []) := by
 have r1 : (pcells [.int .i64 k, .bool b, .int .i64 n, .str s, slP 1 sRow ks, slP 6 VT.row l])[1]? = some (.p (.bool b)) := rfl
 have r2 : (pcells [.int .i64 k, .bool b, .int .i64 n, .str s, slP 1 sRow ks, slP 6 VT.row l])[2]? = some (.p (.int .i64 n)) := rfl
 have r3 : (pcells [.int .i64 k, .bool b, .int .i64 n, .str s, slP 1 sRow ks, slP 6 VT.row l])[3]? = some (.p (.str s)) := rfl
 have r4 : (pcells [.int .i64 k, .bool b, .int .i64 n, .str s, slP 1 sRow ks, slP 6 VT.row l])[4]? = some (.p (slP 1 sRow ks)) := rfl
 have r5 : (pcells [.int .i64 k, .bool b, .int .i64 n, .str s, slP 1 sRow ks, slP 6 VT.row l])[5]? = some (.p (slP 6 VT.row l)) := rfl
 generalize pcells [.int .i64 k, .bool b, .int .i64 n, .str s, slP 1 sRow ks, slP 6 VT.row l] = X at hg r1 r2 r3 r4 r5
 unfold rawV
 rw [w71_2, b71_2]
 cases b
 ·by_cases hn : n = 0
  ·by_cases hs : s = []
   ·by_cases hk : (0 : Int) < (ks.len : Int)
    ·simp (maxSteps := 9999999) +contextual only [exa, ne_eq, not_false_eq_true, reduceAdd, reduceMul, reduceLT, reduceLeDiff, reduceEqDiff, Int.reduceLT, Int.reduceLE, Int.reduceEq, Int.reduceToNat, exW, exY, hg, r1, r2, r3, r4, r5, hn, hs, hk, oneOf, decide_true, Bool.not_true, Bool.false_or, Bool.true_or, Bool.or_true]
    ·simp (maxSteps := 9999999) +contextual only [exa, ne_eq, not_false_eq_true, reduceAdd, reduceMul, reduceLT, reduceLeDiff, reduceEqDiff, Int.reduceLT, Int.reduceLE, Int.reduceEq, Int.reduceToNat, exW, exY, hg, r1, r2, r3, r4, r5, hn, hs, hk, oneOf, decide_true, decide_false, Bool.not_true, Bool.false_or, Bool.true_or, Bool.or_true]
   ·simp (maxSteps := 9999999) +contextual only [exa, ne_eq, not_false_eq_true, reduceAdd, reduceMul, reduceLT, reduceLeDiff, reduceEqDiff, Int.reduceLT, Int.reduceLE, Int.reduceEq, Int.reduceToNat, exW, exY, hg, r1, r2, r3, r4, r5, hn, hs, oneOf, decide_true, decide_false, Bool.not_true, Bool.not_false, Bool.false_or, Bool.true_or, Bool.or_true]
  ·simp (maxSteps := 9999999) +contextual only [exa, ne_eq, not_false_eq_true, reduceAdd, reduceMul, reduceLT, reduceLeDiff, reduceEqDiff, Int.reduceLT, Int.reduceLE, Int.reduceEq, Int.reduceToNat, exW, exY, hg, r1, r2, r3, r4, r5, hn, oneOf, decide_true, decide_false, Bool.not_true, Bool.not_false, Bool.false_or, Bool.true_or, Bool.or_true]
 ·simp (maxSteps := 9999999) +contextual only [exa, ne_eq, not_false_eq_true, reduceAdd, reduceMul, reduceLT, reduceLeDiff, reduceEqDiff, Int.reduceLT, Int.reduceLE, Int.reduceEq, Int.reduceToNat, exW, exY, hg, r1, r2, r3, r4, r5, oneOf, Bool.true_or]
end Go.Proofs.YtiahgnkffnokfaaGreatDoor.Ab
set_option maxHeartbeats 4000000
namespace Go.Proofs.YtiahgnkffnokfaaGreatDoor.Ab
open Go Go.AI
structure Lt0 (h : Heap) (s : List UInt8) (d : Int) : Prop where
 g0 : h.get (.im 0) = some (rO s 0)
 g1 : h.get (.im 1) = some (oL (.p .nilslice))
 g2 : h.get (.im 2) = some (boxO 0)
 g3 : h.get (.im 3) = some (intO d)
structure Lt1 (h : Heap) (s : List UInt8) (d : Int) (n : Nat) (xs : List PVal) (j : Nat) : Prop where
 g0 : h.get (.im 0) = some (rO s 0)
 hj : 4 ≤ j
 g1 : h.get (.im 1) = some (oL (.sref (.im j) 0 n none 6))
 g2 : h.get (.im 2) = some (boxO 0)
 g3 : h.get (.im 3) = some (intO d)
 gj : h.get (.im j) = some (.cells (pcells xs) 0)
 hx : xs.length = n * 6
 hn : n ≤ 90000
theorem Lt0.put {h : Heap} {s t : List UInt8} {d : Int} (A : Lt0 h s d) : Lt0 (h.put (.im 0) (rO t 0)) t d :=
 ⟨Heap.zput_self A.g0 (fun e => by cases e), (Heap.zput_ne A.g0 (by decide)).trans A.g1, (Heap.zput_ne A.g0 (by decide)).trans A.g2, (Heap.zput_ne A.g0 (by decide)).trans A.g3⟩
theorem Lt1.put {h : Heap} {s t : List UInt8} {d : Int} {n j : Nat} {xs : List PVal} (A : Lt1 h s d n xs j) : Lt1 (h.put (.im 0) (rO t 0)) t d n xs j :=
 ⟨Heap.zput_self A.g0 (fun e => by cases e), A.hj, (Heap.zput_ne A.g0 (by decide)).trans A.g1, (Heap.zput_ne A.g0 (by decide)).trans A.g2, (Heap.zput_ne A.g0 (by decide)).trans A.g3, (Heap.zput_ne A.g0 (fun e => by have := A.hj; cases e; omega)).trans A.gj, A.hx, A.hn⟩
end Go.Proofs.YtiahgnkffnokfaaGreatDoor.Ab
set_option maxHeartbeats 4000000
namespace Go.Proofs.YtiahgnkffnokfaaGreatDoor.Ab
open Go Go.AI
theorem qOI (v : VT) : Om 71 [kA v.row] [] = some (kB (extraM v), []) := by
 refine (qAC rfl).trans ?_
 cases v with
 | mk k b n s ks l =>
 show lim tab.get S 71 0 0 [kA (VT.mk k b n s ks l).row] h0 = _
 have hr : (VT.mk k b n s ks l).row = [.int .i64 k, .bool b, .int .i64 n, .str s, slP 1 sRow ks, slP 6 VT.row l] := by rw [VT.row_eq]; rfl
 have hm : extraM (VT.mk k b n s ks l) = ((if k = 1 then false else b) || (if k = 2 then false else !decide (n = 0)) || (if k = 3 then false else !decide (s = [])) || (if k = 5 then false else decide (0 < (ks.len : Int))) || (if k = 5 ∨ k = 4 then false else decide (0 < (l.len : Int)))) := rfl
 rw [hr, hm]
 have r0 : (pcells [.int .i64 k, .bool b, .int .i64 n, .str s, slP 1 sRow ks, slP 6 VT.row l])[0]? = some (.p (.int .i64 k)) := rfl
 have l6 : (pcells [.int .i64 k, .bool b, .int .i64 n, .str s, slP 1 sRow ks, slP 6 VT.row l]).length = 6 := rfl
 have t6 : (pcells [.int .i64 k, .bool b, .int .i64 n, .str s, slP 1 sRow ks, slP 6 VT.row l]).take 6 = pcells [.int .i64 k, .bool b, .int .i64 n, .str s, slP 1 sRow ks, slP 6 VT.row l] := rfl
 have P0' : ∀ Z : List Cell, Z.length = 6 → put1 Z 0 (pcells [.int .i64 k, .bool b, .int .i64 n, .str s, slP 1 sRow ks, slP 6 VT.row l]) = pcells [.int .i64 k, .bool b, .int .i64 n, .str s, slP 1 sRow ks, slP 6 VT.row l] := fun Z hz => qAk _ _ (by rw [hz, l6])
 have p1 : put1 (pcells [.int .i64 k, .bool b, .int .i64 n, .str s, slP 1 sRow ks, slP 6 VT.row l]) 1 [.p (.bool false)] = pcells [.int .i64 k, .bool false, .int .i64 n, .str s, slP 1 sRow ks, slP 6 VT.row l] := rfl
 have p2 : put1 (pcells [.int .i64 k, .bool b, .int .i64 n, .str s, slP 1 sRow ks, slP 6 VT.row l]) 2 [.p (.int .i64 0)] = pcells [.int .i64 k, .bool b, .int .i64 0, .str s, slP 1 sRow ks, slP 6 VT.row l] := rfl
 have p3 : put1 (pcells [.int .i64 k, .bool b, .int .i64 n, .str s, slP 1 sRow ks, slP 6 VT.row l]) 3 [.p (.str [])] = pcells [.int .i64 k, .bool b, .int .i64 n, .str [], slP 1 sRow ks, slP 6 VT.row l] := rfl
 have p4 : put1 (pcells [.int .i64 k, .bool b, .int .i64 n, .str s, slP 1 sRow ks, slP 6 VT.row l]) 4 [.p .nilslice] = pcells [.int .i64 k, .bool b, .int .i64 n, .str s, slP 1 sRow .nil, slP 6 VT.row l] := rfl
 have q1 : ∀ ks : Sl (List UInt8), put1 (pcells [.int .i64 k, .bool b, .int .i64 n, .str s, slP 1 sRow ks, slP 6 VT.row l]) 5 [.p .nilslice] = pcells [.int .i64 k, .bool b, .int .i64 n, .str s, slP 1 sRow ks, slP 6 VT.row .nil] := fun _ => rfl
 have q2 : ∀ ks : Sl (List UInt8), (pcells [.int .i64 k, .bool b, .int .i64 n, .str s, slP 1 sRow ks, slP 6 VT.row l]).length = 6 := fun _ => rfl
 rw [w71_0, b71_0]
 by_cases k1 : k = 1
 ·subst k1
  simp (maxSteps := 9999999) +contextual only [exa, ne_eq, not_false_eq_true, reduceAdd, reduceMul, reduceLT, reduceLeDiff, reduceEqDiff, Int.reduceLT, Int.reduceLE, Int.reduceEq, Int.reduceToNat, exW, exY, r0, l6, t6, P0', p1, if_true, if_false, oneOf]
  refine (qCA (Heap.own_get _ 3 1 _ (by decide) (fun e => by cases e))).trans ?_
  simp [rawV, Sl.len, Sl.list]
 by_cases k2 : k = 2
 ·subst k2
  simp (maxSteps := 9999999) +contextual only [exa, ne_eq, not_false_eq_true, reduceAdd, reduceMul, reduceLT, reduceLeDiff, reduceEqDiff, Int.reduceLT, Int.reduceLE, Int.reduceEq, Int.reduceToNat, exW, exY, r0, l6, t6, P0', p2, if_true, if_false, oneOf]
  refine (qCA (Heap.own_get _ 3 1 _ (by decide) (fun e => by cases e))).trans ?_
  simp [rawV, Sl.len, Sl.list]
 by_cases k3 : k = 3
 ·subst k3
  simp (maxSteps := 9999999) +contextual only [exa, ne_eq, not_false_eq_true, reduceAdd, reduceMul, reduceLT, reduceLeDiff, reduceEqDiff, Int.reduceLT, Int.reduceLE, Int.reduceEq, Int.reduceToNat, exW, exY, r0, l6, t6, P0', p3, if_true, if_false, oneOf]
  refine (qCA (Heap.own_get _ 3 1 _ (by decide) (fun e => by cases e))).trans ?_
  simp [rawV, Sl.len, Sl.list]
 by_cases k5 : k = 5
 ·subst k5
  simp (maxSteps := 9999999) +contextual only [exa, ne_eq, not_false_eq_true, reduceAdd, reduceMul, reduceLT, reduceLeDiff, reduceEqDiff, Int.reduceLT, Int.reduceLE, Int.reduceEq, Int.reduceToNat, exW, exY, r0, l6, t6, P0', p4, if_true, if_false, oneOf]
  rw [w71_1, b71_1]
  simp (maxSteps := 9999999) +contextual only [exa, ne_eq, not_false_eq_true, reduceAdd, reduceMul, reduceLT, reduceLeDiff, reduceEqDiff, Int.reduceLT, Int.reduceLE, Int.reduceEq, Int.reduceToNat, exW, exY, q1, q2, if_true, if_false, oneOf]
  refine (qCA (Heap.own_get _ 3 1 _ (by decide) (fun e => by cases e))).trans ?_
  simp [rawV, Sl.len, Sl.list]
 by_cases k4 : k = 4
 ·subst k4
  simp (maxSteps := 9999999) +contextual only [exa, ne_eq, not_false_eq_true, reduceAdd, reduceMul, reduceLT, reduceLeDiff, reduceEqDiff, Int.reduceLT, Int.reduceLE, Int.reduceEq, Int.reduceToNat, exW, exY, r0, l6, t6, P0', if_true, if_false, oneOf]
  rw [w71_1, b71_1]
  simp (maxSteps := 9999999) +contextual only [exa, ne_eq, not_false_eq_true, reduceAdd, reduceMul, reduceLT, reduceLeDiff, reduceEqDiff, Int.reduceLT, Int.reduceLE, Int.reduceEq, Int.reduceToNat, exW, exY, q1, q2, if_true, if_false, oneOf]
  refine (qCA (Heap.own_get _ 3 1 _ (by decide) (fun e => by cases e))).trans ?_
  simp [rawV, Sl.len, Sl.list]
 ·have k45 : ¬ (k = 5 ∨ k = 4) := fun x => x.elim k5 k4
  simp (maxSteps := 9999999) +contextual only [exa, ne_eq, not_false_eq_true, reduceAdd, reduceMul, reduceLT, reduceLeDiff, reduceEqDiff, Int.reduceLT, Int.reduceLE, Int.reduceEq, Int.reduceToNat, exW, exY, r0, l6, t6, P0', k1, k2, k3, k4, k5, k45, if_true, if_false, oneOf]
  refine (qCA (Heap.own_get _ 3 1 _ (by decide) (fun e => by cases e))).trans ?_
  simp [rawV, Sl.len, Sl.list]
def badV0 (v : VT) : Bool := decide (v.kind < 0) || decide (5 < v.kind) || extraM v || (decide (v.kind = 5) && !decide ((v.keys.len : Int) = (v.l.len : Int)))
mutual
def chkV : VT → Int → Int → Int × Int
 | .mk k b n s ks l, d, m =>
  if 2000 < m + 1 then (3, m + 1) else if badV0 (.mk k b n s ks l) = true then (1, m + 1) else if 12 < d then (13, m + 1) else if (40 : Int) < (l.len : Int) then (3, m + 1)
  else if (200 : Int) < (s.length : Int) then (4, m + 1) else if ¬ keysE ks.list = 0 then (keysE ks.list, m + 1) else chkS l (d + 1) (m + 1)
def chkS : Sl VT → Int → Int → Int × Int
 | .nil, _, m => (0, m)
 | .mk _ l, d, m => chkL l d m
def chkL : List VT → Int → Int → Int × Int
 | [], _, m => (0, m)
 | v :: vs, d, m => if ¬ (chkV v d m).1 = 0 then chkV v d m else chkL vs d (chkV v d m).2
end
theorem qNs (l : Sl VT) (d m : Int) : chkS l d m = chkL l.list d m := by cases l <;> simp [chkS, chkL, Sl.list]
theorem qDh (v : VT) (d m : Int) : chkV v d m = if 2000 < m + 1 then (3, m + 1) else if badV0 v = true then (1, m + 1) else if 12 < d then (13, m + 1) else if (40 : Int) < (v.l.len : Int) then (3, m + 1)
  else if (200 : Int) < (v.s.length : Int) then (4, m + 1) else if ¬ keysE v.keys.list = 0 then (keysE v.keys.list, m + 1) else chkL v.l.list (d + 1) (m + 1) := by
 cases v with
 | mk k b n s ks l => rw [chkV, qNs]; rfl
theorem qH4 : ∀ (n : Nat), (∀ (v : VT) (d m : Int), SizeOf.sizeOf v < n → 0 ≤ m → m ≤ 2000 → (chkV v d m).1 = 0 → 0 ≤ (chkV v d m).2 ∧ (chkV v d m).2 ≤ 2000) ∧
  (∀ (l : List VT) (d m : Int), (∀ v ∈ l, SizeOf.sizeOf v < n) → 0 ≤ m → m ≤ 2000 → (chkL l d m).1 = 0 → 0 ≤ (chkL l d m).2 ∧ (chkL l d m).2 ≤ 2000)
 | 0 => ⟨fun v d m h => by omega, fun l d m h h1 h2 _ => by
  cases l with
  | nil => exact ⟨h1, h2⟩
  | cons v l => have := h v (by simp); omega⟩
 | n + 1 => by
  obtain ⟨i1, i2⟩ := qH4 n
  have key : ∀ (v : VT) (d m : Int), SizeOf.sizeOf v < n + 1 → 0 ≤ m → m ≤ 2000 → (chkV v d m).1 = 0 → 0 ≤ (chkV v d m).2 ∧ (chkV v d m).2 ≤ 2000 := by
   intro v d m hs h1 h2 h
   rw [qDh] at h ⊢
   by_cases c1 : 2000 < m + 1
   ·rw [if_pos c1] at h; exact absurd h (show ¬ (3 : Int) = 0 by decide)
   rw [if_neg c1] at h ⊢
   by_cases c2 : badV0 v = true
   ·rw [if_pos c2] at h; exact absurd h (show ¬ (1 : Int) = 0 by decide)
   rw [if_neg c2] at h ⊢
   by_cases c3 : 12 < d
   ·rw [if_pos c3] at h; exact absurd h (show ¬ (13 : Int) = 0 by decide)
   rw [if_neg c3] at h ⊢
   by_cases c4 : (40 : Int) < (v.l.len : Int)
   ·rw [if_pos c4] at h; exact absurd h (show ¬ (3 : Int) = 0 by decide)
   rw [if_neg c4] at h ⊢
   by_cases c5 : (200 : Int) < (v.s.length : Int)
   ·rw [if_pos c5] at h; exact absurd h (show ¬ (4 : Int) = 0 by decide)
   rw [if_neg c5] at h ⊢
   by_cases c6 : ¬ keysE v.keys.list = 0
   ·rw [if_pos c6] at h; exact absurd h c6
   rw [if_neg c6] at h ⊢
   exact i2 _ _ _ (fun x hx => by have := VT.mem_size hx; omega) (by omega) (by omega) h
  refine ⟨key, ?_⟩
  intro l
  induction l with
  | nil => intro d m _ h1 h2 _; exact ⟨h1, h2⟩
  | cons v l ih =>
   intro d m h h1 h2 e
   rw [chkL] at e ⊢
   by_cases c : ¬ (chkV v d m).1 = 0
   ·rw [if_pos c] at e; exact absurd e c
   ·rw [if_neg c] at e ⊢
    obtain ⟨a1, a2⟩ := key v d m (h v (by simp)) h1 h2 (Decidable.not_not.1 c)
    exact ih d _ (fun x hx => h x (by simp [hx])) a1 a2 e
abbrev mO (m : Int) : AObj := .cells [.p (.int .i64 m)] 0
theorem qBP (m : Int) : plainO (mO m) := qAI [.int .i64 m] 0
def ChkOK (v : VT) : Prop := ∀ d m : Int, 0 ≤ d → d ≤ 100 → 0 ≤ m → m ≤ 2000 → Om 44 [kA v.row, kI d, P0] [mO m] = some (kI (chkV v d m).1, [mO (chkV v d m).2])
theorem qL7 (v : VT) (d : Int) (hd : 0 ≤ d ∧ d ≤ 12) (hl : v.l.len ≤ 1000000) (ok : ∀ x ∈ v.l.list, ChkOK x) :
  ∀ (i : Nat) (m : Int) (h : Heap), 0 ≤ m → m ≤ 2000 → h.get (.im 0) = some (mO m) →
   lim tab.get S 44 1 1 [kI d, P0, .v (.c (.p (slP 6 VT.row v.l))), kI (v.l.len : Int), kI (i : Int)] h = some (kI (chkL (v.l.list.drop i) (d + 1) m).1, [mO (chkL (v.l.list.drop i) (d + 1) m).2]) := by
 refine qCh v.l.len (fun i hi m h h1 h2 hg => ?_) (fun i hi ih m h h1 h2 hg => ?_) <;> rw [w44_1, b44_1]
 ·have t1 : ¬ (i : Int) < (v.l.len : Int) := by omega
  have fin := qAg true [.c (.p (.int .i64 0))] (mO m) rfl hg (qBP m)
  simp (maxSteps := 9999999) +contextual only [exa, ne_eq, not_false_eq_true, reduceAdd, reduceMul, reduceLT, reduceLeDiff, reduceEqDiff, Int.reduceLT, Int.reduceLE, Int.reduceEq, Int.reduceToNat, exW, exY, t1, qCF hi, chkL, fin, oneOf]
 ·have t1 : (i : Int) < (v.l.len : Int) := by omega
  obtain ⟨x, hx, e1, mx⟩ := qBr hi
  have ed : IntKind.i64.wrap (d + 1) = d + 1 := qAF _ (by omega) (by omega)
  have c44 : ∀ {β : Type} {k : TVal → Heap → Option β} {h : Heap} {e : Nat}, h.get (.im 0) = some (mO m) → vcall Om (.v (.c (.func 44 []))) [kA x.row, kI (d + 1), P0] h e k = k (kI (chkV x (d + 1) m).1) (h.put (.im 0) (mO (chkV x (d + 1) m).2)) := fun {β k h e} hg =>
   qAZ 44 (.im 0) 0 [kA x.row, kI (d + 1)] [] _ _ _ (by simp only [exP]) rfl hg (qBP _) (qBP _) rfl (ok x mx (d + 1) m (by omega) (by omega) h1 h2)
  have hg2 : ∀ o, (h.own 9 (h.gen 9 + 1) o).get (.im 0) = some (mO m) := fun o => (Heap.own_get_im _ _ _ _ _).trans hg
  have l6 : (pcells x.row).length = 6 := by rw [qAL, VT.row_len]
  have t6 : (pcells x.row).take 6 = pcells x.row := List.take_of_length_le (by omega)
  have P6 : ∀ Z : List Cell, Z.length = 6 → put1 Z 0 (pcells x.row) = pcells x.row := fun Z hz => qAk _ _ (by rw [hz, l6])
  rw [e1, chkL]
  by_cases c : ¬ (chkV x (d + 1) m).1 = 0
  ·rw [if_pos c]
   have fin : ∀ h : Heap, h.get (.im 0) = some (mO m) → vfin true 1 [.c (.p (.int .i64 (chkV x (d + 1) m).1))] (h.put (.im 0) (mO (chkV x (d + 1) m).2)) = some (kI (chkV x (d + 1) m).1, [mO (chkV x (d + 1) m).2]) := fun h hg => qAg true [.c (.p (.int .i64 (chkV x (d + 1) m).1))] _ rfl (Heap.zput_self hg (fun e => by cases e)) (qBP _)
   simp (maxSteps := 9999999) +contextual only [exa, ne_eq, not_false_eq_true, reduceAdd, reduceMul, reduceLT, reduceLeDiff, reduceEqDiff, Int.reduceLT, Int.reduceLE, Int.reduceEq, Int.reduceToNat, exW, exY, t1, hx, ed, l6, t6, P6]
   refine (c44 ?_).trans ?_
   ·exact hg
   simp (maxSteps := 9999999) +contextual only [exa, ne_eq, not_false_eq_true, reduceAdd, reduceMul, reduceLT, reduceLeDiff, reduceEqDiff, Int.reduceLT, Int.reduceLE, Int.reduceEq, Int.reduceToNat, exW, exY, c, oneOf]
   exact fin _ hg
  ·rw [if_neg c]
   have c0 := Decidable.not_not.1 c
   have mm := (qH4 (SizeOf.sizeOf x + 1)).1 x (d + 1) m (by omega) h1 h2 c0
   simp (maxSteps := 9999999) +contextual only [exa, ne_eq, not_false_eq_true, reduceAdd, reduceMul, reduceLT, reduceLeDiff, reduceEqDiff, Int.reduceLT, Int.reduceLE, Int.reduceEq, Int.reduceToNat, exW, exY, t1, hx, ed, l6, t6, P6]
   refine (c44 ?_).trans ?_
   ·exact hg
   simp (maxSteps := 9999999) +contextual only [exa, ne_eq, not_false_eq_true, reduceAdd, reduceMul, reduceLT, reduceLeDiff, reduceEqDiff, Int.reduceLT, Int.reduceLE, Int.reduceEq, Int.reduceToNat, exW, exY, c0, qBf i (by omega), oneOf]
   exact ih _ _ mm.1 mm.2 (Heap.zput_self (x := mO m) hg (fun e => by cases e))
end Go.Proofs.YtiahgnkffnokfaaGreatDoor.Ab
