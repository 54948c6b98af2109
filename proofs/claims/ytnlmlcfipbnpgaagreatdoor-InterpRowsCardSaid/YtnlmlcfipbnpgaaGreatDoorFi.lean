/- The last variable of a name: find, its walk, and what it answers as an oracle. Own work; no condition. -/
import Derived.Lib.Bytealg
import Derived.LoopIn
import Derived.LoopNIn
import Derived.OwnWalkIn
import Derived.RangeFuncBox
import Derived.RangeFuncCalls
import Derived.RangeFuncLeaves
import Derived.RegionIn
import Derived.Shelf.Abstract
import Derived.Shelf.RegionOpen
import Derived.TacticsInMore
import Derived.WalkKit
import Derived.Test.YtnlmlcfipbnpgaaGreatDoorProg
import Derived.Test.YtnlmlcfipbnpgaaGreatDoorTabI
set_option linter.all false
set_option linter.unusedVariables false
namespace Go.AI
open Go.RowKit
def varOf (objs : List AObj) (c : Cell) : Option (List UInt8) := match c with
  | .ptr (.im q) 0 => (match objs[q]? with
    | some (.cells (.p (.str s) :: _) _) => some s
    | _ => none)
  | _ => none
def lastV (objs : List AObj) (nm : List UInt8) : List Cell → Option (Option Cell)
  | [] => some none
  | c :: cs => match varOf objs c with
    | none => none
    | some s => match lastV objs nm cs with
      | none => none
      | some (some x) => some (some x)
      | some none => some (if s = nm then some c else none)
def findP (objs : List AObj) (nm : List UInt8) (v : Cell) : Option (TVal × List AObj) := match v with
  | .p .nilslice => some (.v (.c (.p .nilptr)), objs)
  | .sref (.im r) off len _ sz => (if sz = 1 ∧ len ≤ 1000 then (match objs[r]? with
      | some (.cells bs _) => (if off + len ≤ bs.length then (match lastV objs nm ((bs.drop off).take len) with
          | some (some c) => some (.v (.c c), objs)
          | some none => some (.v (.c (.p .nilptr)), objs)
          | none => none) else none)
      | _ => none) else none)
  | _ => none
def SFind (fid at_ n : Nat) : Oracle := fun f args objs => bif Nat.beq f fid then (match args with
  | [.v (.agg cs), .v (.c (.p (.str nm)))] => (if cs.length = n then (match cs[at_]? with | some v => findP objs nm v | none => none) else none)
  | _ => none) else none
theorem varOf_inv {objs : List AObj} {c : Cell} {s : List UInt8} (h : varOf objs c = some s) : ∃ q rest imm, c = .ptr (.im q) 0 ∧ objs[q]? = some (.cells (.p (.str s) :: rest) imm) := by
  unfold varOf at h
  split at h
  · split at h
    · cases h; rename_i q _ rest imm e; exact ⟨q, rest, imm, rfl, e⟩
    · cases h
  · cases h
theorem lastV_spec (objs : List AObj) (nm : List UInt8) : ∀ (cs : List Cell) (r : Option Cell), lastV objs nm cs = some r →
    (∀ (j : Nat) c, cs[j]? = some c → ∃ s, varOf objs c = some s) ∧ (match r with
      | none => ∀ (j : Nat) c, cs[j]? = some c → varOf objs c ≠ some nm
      | some x => ∃ j, cs[j]? = some x ∧ varOf objs x = some nm ∧ ∀ (i : Nat) c, j < i → cs[i]? = some c → varOf objs c ≠ some nm)
  | [], r, h => by
    rw [lastV] at h
    cases h
    exact ⟨fun j c e => by simp at e, fun j c e => by simp at e⟩
  | c :: cs, r, h => by
    rw [lastV] at h
    cases hv : varOf objs c with
    | none => rw [hv] at h; cases h
    | some s =>
      rw [hv] at h
      have h : (match lastV objs nm cs with
        | none => none
        | some (some x) => some (some x)
        | some none => some (if s = nm then some c else none)) = some r := h
      cases hl : lastV objs nm cs with
      | none => rw [hl] at h; cases h
      | some q =>
        obtain ⟨a, b⟩ := lastV_spec objs nm cs q hl
        have first : ∀ (j : Nat) d, (c :: cs)[j]? = some d → ∃ s, varOf objs d = some s := by
          intro j d e
          cases j with
          | zero => simp at e; subst e; exact ⟨s, hv⟩
          | succ j => exact a j d (by simpa using e)
        rw [hl] at h
        refine ⟨first, ?_⟩
        cases q with
        | some x =>
          have h : some (some x) = some r := h
          cases h
          obtain ⟨j, e1, e2, e3⟩ := b
          refine ⟨j + 1, by simpa using e1, e2, fun i d hi e => ?_⟩
          cases i with
          | zero => omega
          | succ i => exact e3 i d (by omega) (by simpa using e)
        | none =>
          have h : some (if s = nm then some c else none) = some r := h
          have b : ∀ (j : Nat) c, cs[j]? = some c → varOf objs c ≠ some nm := b
          by_cases hs : s = nm
          · rw [if_pos hs] at h
            cases h
            refine ⟨0, rfl, by rw [hv, hs], fun i d hi e => ?_⟩
            cases i with
            | zero => omega
            | succ i => exact b i d (by simpa using e)
          · rw [if_neg hs] at h
            cases h
            intro j d e
            cases j with
            | zero => simp at e; subst e; rw [hv]; intro e2; exact hs (Option.some.inj e2)
            | succ j => exact b j d (by simpa using e)
variable [Sym]
theorem below_relH {ρ : Env} {I : Imm} {h : Heap} {w w' : World} (hW : WRel ρ I h w) (hb : Below w.heap.size w w') : WRel ρ I h w' ∧ Good ρ I h w ρ I h w' := by
  have blk : ∀ b (o : Obj), w.heap[b]? = some o → w'.heap[b]? = some o := fun b o e => by
    have h2 : b < w.heap.size := by
      rcases Nat.lt_or_ge b w.heap.size with h | h
      · exact h
      · rw [Array.getElem?_eq_none h] at e; cases e
    exact (hb.block b h2).trans e
  refine ⟨⟨fun r o e => ?_, hW.inj, fun b o v e => ?_, fun b arr c e => blk _ _ (hW.imap b arr c e), hW.apart, hW.apartm, hW.fresh, hW.freshi⟩, ?_⟩
  · obtain ⟨l, hl, ho⟩ := hW.live r o e
    refine ⟨l, hl, ?_⟩
    cases o with
    | cells cs imm => obtain ⟨arr, elem, lo, hi, a, b⟩ := ho; exact ⟨arr, elem, lo, hi, blk _ _ a, b⟩
    | map es clock => obtain ⟨arr, a, b⟩ := ho; exact ⟨arr, blk _ _ a, b⟩
    | siter s pos => obtain ⟨b, a, c⟩ := ho; exact ⟨b, blk _ _ a, c⟩
    | dead => trivial
  · have h1 := hW.icell b o v e
    have h2 := World.block_lt_of_cell? _ _ h1
    exact (hb.cell (p := ⟨b, o, none⟩) h2).trans h1
  · exact ⟨Env.le_refl _, Imm.le_refl _, ⟨hb.os, hb.tape, hb.output, hb.size, fun b h _ => hb.block b h⟩, fun _ h => .inl h, fun _ _ _ h => .inl h, fun _ _ h => .inl h⟩
theorem get_imO {objs : List AObj} {q : Nat} {cs : List Cell} {imm : Nat} (h : objs[q]? = some (.cells cs imm)) : (Heap.mk objs .nil).get (.im q) = some (.cells cs imm) := by
  unfold Heap.get
  simp only [h]
theorem cell_at {w : World} {b : Nat} {arr : Array Value} {elem : TypeId} {fz : Nat × Nat} {o : Nat} {v : Value} (h : w.heap[b]? = some (.cells arr elem fz)) (hv : arr[o]? = some v) : w.cell? ⟨b, o, none⟩ = some v := by
  unfold World.cell?
  simp only [h, hv]; rfl
theorem SFind_sound {P : Program} {G : Nat → Option (List PVal)} {fid at_ n : Nat} (hfn : ∃ fn, P.funcs[fid]? = some fn ∧ fn.body.isSome = true ∧ fn.name ≠ "runtime.NumGoroutine")
    (hnil : ∀ (arr : Array Value) (nm : ByteArray) (w : World), arr.size = n → arr[at_]? = some (.slice none 0 0) → Calls P fid #[.agg arr, .string nm] w fun e w' => e = .returned (.pointer none) ∧ Below w.heap.size w w')
    (hx : ∀ (arr : Array Value) (nm : ByteArray) (w : World) (b off len cap : Nat) (pa : Nat → Addr) (nms : Nat → ByteArray), arr.size = n → arr[at_]? = some (.slice (some ⟨b, off, none⟩) len cap) → len ≤ 1000 → b < w.heap.size →
      (∀ j, j < len → w.cell? ⟨b, off + j, none⟩ = some (.pointer (some (pa j)))) → (∀ j, j < len → w.cell? (pa j) = some (.string (nms j))) → (∀ j, j < len → (pa j).spot = none) →
      Calls P fid #[.agg arr, .string nm] w fun e w' => ((∃ j, j < len ∧ nms j = nm ∧ (∀ i, j < i → i < len → nms i ≠ nm) ∧ e = .returned (.pointer (some (pa j)))) ∨ ((∀ i, i < len → nms i ≠ nm) ∧ e = .returned (.pointer none))) ∧ Below w.heap.size w w') : FSound P G (SFind fid at_ n) := by
  intro f args objs v objs' e
  unfold SFind at e
  rw [beq_dec, Bool.cond_decide] at e
  split at e
  · rename_i hf
    subst hf
    split at e
    · rename_i cs nm
      refine ⟨hfn, fun ρ I w avs hG hW ha hown => ?_⟩
      split at e
      · rename_i hn
        obtain ⟨l⟩ := avs
        match l, ha with
        | [x, y], ⟨hx1, hy1, _⟩ =>
          obtain ⟨arr, rfl, hcs⟩ := hx1
          cases hy1 with | p _ _ hy1 => cases hy1 with | str _ bn hbn =>
          subst hbn
          have hsz : arr.size = n := by rw [← hn, hcs.length, Array.length_toList]
          split at e
          · rename_i v0 hv0
            obtain ⟨va, hva, hrel⟩ := hcs.get at_ v0 hv0
            have hva : arr[at_]? = some va := by simpa using hva
            unfold findP at e
            split at e
            · cases e
              cases hrel with | p _ _ hrel =>
              cases hrel
              refine Calls.mono (hnil arr bn w hsz hva) fun e w' ⟨e1, e2⟩ => ?_
              obtain ⟨r1, r2⟩ := below_relH hW e2
              exact ⟨_, ρ, I, e1, CRel.p _ _ .nilptr, r1, r2, hown⟩
            · rename_i r off len cap sz
              split at e
              · rename_i hsl
                obtain ⟨rfl, hlen⟩ := hsl
                split at e
                · rename_i bs imm hbs
                  split at e
                  · rename_i hoff
                    cases hrel with | sref _ _ _ _ _ cc l hρ hl ht hc =>
                    obtain ⟨l', hl', ho⟩ := hW.live (.im r) _ (get_imO hbs)
                    rw [hρ] at hl'
                    cases hl'
                    obtain ⟨barr, elem, lo, hi, q1, q2, q3, q4, q5⟩ := ho
                    have hblt : l.blk < w.heap.size := by
                      rcases Nat.lt_or_ge l.blk w.heap.size with h | h
                      · exact h
                      · rw [Array.getElem?_eq_none h] at q1; cases q1
                    -- what stands in the row
                    have look : ∀ r', lastV objs bn.data.toList ((bs.drop off).take len) = some r' → ∃ (pa : Nat → Addr) (nms : Nat → ByteArray), ∀ j, j < len → ∃ c, ((bs.drop off).take len)[j]? = some c ∧ varOf objs c = some (nms j).data.toList ∧ CRel ρ I c (.pointer (some (pa j))) ∧ w.cell? ⟨l.blk, l.base + off + j, none⟩ = some (.pointer (some (pa j))) ∧ w.cell? (pa j) = some (.string (nms j)) ∧ (pa j).spot = none := by
                      intro r' hr'
                      have hs := (lastV_spec objs _ _ _ hr').1
                      have step : ∀ j, ∃ an : Addr × ByteArray, j < len → ∃ c, ((bs.drop off).take len)[j]? = some c ∧ varOf objs c = some an.2.data.toList ∧ CRel ρ I c (.pointer (some an.1)) ∧ w.cell? ⟨l.blk, l.base + off + j, none⟩ = some (.pointer (some an.1)) ∧ w.cell? an.1 = some (.string an.2) ∧ an.1.spot = none := by
                        intro j
                        by_cases hj : j < len
                        · have hj2 : off + j < bs.length := by omega
                          have hcj : ((bs.drop off).take len)[j]? = some bs[off + j] := by
                            rw [List.getElem?_take_of_lt hj, List.getElem?_drop, List.getElem?_eq_getElem hj2]
                          obtain ⟨s, hsv⟩ := hs j _ hcj
                          obtain ⟨q, rest, im2, hc2, ho2⟩ := varOf_inv hsv
                          obtain ⟨lq, hlq, oq⟩ := hW.live (.im q) _ (get_imO ho2)
                          obtain ⟨qarr, qe, ql, qh, p1, p2, p3, p4, p5⟩ := oq
                          obtain ⟨v1, hv1, hr1⟩ := p4 0 _ rfl
                          cases hr1 with | p _ _ hr1 => cases hr1 with | str _ sb hsb =>
                          obtain ⟨v2, hv2, hr2⟩ := q4 (off + j) _ (List.getElem?_eq_getElem hj2)
                          rw [hc2] at hr2
                          have hv2' : v2 = .pointer (some ⟨lq.blk, lq.base + 0, none⟩) := by
                            cases hr2 with | ptr _ _ l2 hl2 => rw [hlq] at hl2; cases hl2; rfl
                          refine ⟨(⟨lq.blk, lq.base + 0, none⟩, sb), fun _ => ⟨_, hcj, ?_, ?_, ?_, ?_, rfl⟩⟩
                          · rw [hsv, hsb]
                          · rw [hc2]; exact .ptr _ _ _ hlq
                          · rw [← hv2', Nat.add_assoc]; exact cell_at q1 hv2
                          · exact cell_at p1 hv1
                        · exact ⟨(⟨0, 0, none⟩, ⟨#[]⟩), fun h => absurd h hj⟩
                      obtain ⟨g, hg⟩ := Classical.skolem.1 step
                      exact ⟨fun j => (g j).1, fun j => (g j).2, hg⟩
                    have inj : ∀ {a b : ByteArray}, a.data.toList = b.data.toList → a = b := fun {a b} h => (bytes_eq h).trans (bytes_eq rfl).symm
                    have run : ∀ r', lastV objs bn.data.toList ((bs.drop off).take len) = some r' → (∀ c cv, (r' = some c → CRel ρ I c cv) → (r' = none → cv = .pointer none) → True) → Calls P f #[.agg arr, .string bn] w fun e w' => ∃ cv, e = .returned cv ∧ (match r' with | some c => CRel ρ I c cv | none => cv = .pointer none) ∧ Below w.heap.size w w' := by
                      intro r' hr' _
                      obtain ⟨pa, nms, hg⟩ := look r' hr'
                      have hs2 := (lastV_spec objs _ _ _ hr').2
                      refine Calls.mono (hx arr bn w l.blk (l.base + off) len cc pa nms hsz hva hlen hblt (fun j hj => (hg j hj).choose_spec.2.2.2.1) (fun j hj => (hg j hj).choose_spec.2.2.2.2.1) (fun j hj => (hg j hj).choose_spec.2.2.2.2.2)) fun e w' ⟨h1, h2⟩ => ?_
                      have hll : ((bs.drop off).take len).length = len := by rw [List.length_take, List.length_drop]; omega
                      cases r' with
                      | none =>
                        rcases h1 with ⟨j, hj, h3, h4, h5⟩ | ⟨h3, h4⟩
                        · obtain ⟨c, c1, c2, _⟩ := hg j hj
                          exact absurd (by rw [c2, h3]) (hs2 j c c1)
                        · exact ⟨_, h4, rfl, h2⟩
                      | some x =>
                        obtain ⟨j, j1, j2, j3⟩ := hs2
                        have hj : j < len := by rw [← hll]; exact (List.getElem?_eq_some_iff.1 j1).1
                        rcases h1 with ⟨k, hk, h3, h4, h5⟩ | ⟨h3, h4⟩
                        · have hjk : j = k := by
                            rcases Nat.lt_trichotomy j k with h | h | h
                            · obtain ⟨c, c1, c2, _⟩ := hg k hk
                              exact absurd (by rw [c2, h3]) (j3 k c h c1)
                            · exact h
                            · obtain ⟨c, c1, c2, _⟩ := hg j hj
                              rw [j1] at c1
                              cases c1
                              rw [j2] at c2
                              exact absurd (inj (Option.some.inj c2).symm) (h4 j h hj)
                          subst hjk
                          obtain ⟨c, c1, c2, c3, _⟩ := hg j hj
                          rw [j1] at c1
                          cases c1
                          exact ⟨_, h5, c3, h2⟩
                        · obtain ⟨c, c1, c2, _⟩ := hg j hj
                          rw [j1] at c1
                          cases c1
                          rw [j2] at c2
                          exact absurd (inj (Option.some.inj c2).symm) (h3 j hj)
                    split at e
                    · rename_i c hc3
                      cases e
                      refine Calls.mono (run _ hc3 (fun _ _ _ _ => trivial)) fun e w' ⟨cv, e1, e2, e3⟩ => ?_
                      obtain ⟨r1, r2⟩ := below_relH hW e3
                      exact ⟨_, ρ, I, e1, e2, r1, r2, hown⟩
                    · rename_i hc3
                      cases e
                      refine Calls.mono (run _ hc3 (fun _ _ _ _ => trivial)) fun e w' ⟨cv, e1, e2, e3⟩ => ?_
                      have e2 : cv = .pointer none := e2
                      subst e2
                      obtain ⟨r1, r2⟩ := below_relH hW e3
                      exact ⟨_, ρ, I, e1, CRel.p _ _ .nilptr, r1, r2, hown⟩
                    · cases e
                  · cases e
                · cases e
              · cases e
            · cases e
          · cases e
      · cases e
    · cases e
  · cases e
end Go.AI
namespace Go.Proofs
open Go.RowKit Go.Shelf
attribute [local go_sem] Oper.semAt_some
def Tryz.dn (len k : Nat) : List Nat := (List.range k).map fun j => len - 1 - j
theorem Tryz.dn_succ (len k : Nat) : Tryz.dn len (k + 1) = Tryz.dn len k ++ [len - 1 - k] := by simp [Tryz.dn, List.range_succ]
theorem Tryz.dn_length (len k : Nat) : (Tryz.dn len k).length = k := by simp [Tryz.dn]
theorem Tryz.dn_mem {len k i : Nat} (h1 : len - k ≤ i) (h2 : i < len) : i ∈ Tryz.dn len k := by
  simp only [Tryz.dn, List.mem_map, List.mem_range]
  exact ⟨len - 1 - i, by omega, by omega⟩
theorem Tryz.bytes_inj {a b : ByteArray} (h : (a.toList == b.toList) = true) : a = b := by
  have h := eq_of_beq h
  rw [Lib.toList_data, Lib.toList_data] at h
  cases a; cases b; congr 1; exact Array.toList_inj.1 h
abbrev Tryz.Ix (len : Nat) := { j : Nat // j < len }
set_option maxRecDepth 100000 in
set_option maxHeartbeats 2000000 in
theorem Tryz.back1_in (F : Fence) (n : Nat) (h8 : F.fn 281) (hro : F.round = none) (hn : 1 ≤ n) (l Bs n₀ b off len cap : Nat) (pa : Nat → Addr) (hreach : len ≤ 1000) (hb : b < n₀) (hBn : Bs < n₀) (J Jx : List (Tryz.Ix len) → World → Prop)
    (hY : ∀ pre x W, J pre W → pre.length < len → YieldAt F (n - 1) Tryz.prog l #[.int .i64 (x.1 : Int), .pointer (some (pa x.1))] W fun e W' =>
      (e = .returned (.bool true) ∧ J (pre ++ [x]) W' ∧ Below n₀ W W') ∨ (e = .returned (.bool false) ∧ Jx (pre ++ [x]) W'))
    (W : World) (hBs : W.cell? ⟨Bs, 0, none⟩ = some (.slice (some ⟨b, off, none⟩) len cap)) (hc : ∀ j, j < len → W.cell? ⟨b, off + j, none⟩ = some (.pointer (some (pa j)))) (h0 : J [] W) :
    CallsIn F n Tryz.prog 281 #[.func (.yield l) #[] #[], .pointer (some ⟨Bs, 0, none⟩)] W fun e W' => (∃ v, e = .returned v) ∧
      ((∃ ys, ys.map (·.1) = Tryz.dn len len ∧ J ys W') ∨ (∃ pre, (∃ k, k ≤ len ∧ pre.map (·.1) = Tryz.dn len k) ∧ Jx pre W')) := by
  refine callsIn_of_wp Tryz.func281 rfl h8 ?_ hro
  simp only [Tryz.ntmps281, List.size_toArray, List.length_cons, List.length_nil, Nat.reduceAdd, Nat.reduceSub, Array.replicate_succ, Array.replicate_zero, List.push_toArray, List.append_toArray, List.nil_append, List.cons_append]
  gi_wp2
  gi_loopw [3] (fun i wr => ∃ k : Nat, k ≤ len ∧ i = .int .i64 ((len : Int) - 1 - (k : Int)) ∧ (∃ pre : List (Tryz.Ix len), pre.map (·.1) = Tryz.dn len k ∧ J pre wr) ∧ Below n₀ W wr)
    (fun i _ => (intOf i + 1).toNat)
  case atStart => exact ⟨0, Nat.zero_le _, by simp, ⟨[], rfl, h0⟩, Below.refl _ _⟩
  case round =>
    obtain ⟨k, hk, rfl, ⟨pre, hpre, hJs⟩, hnx⟩ := hrel
    by_cases hlt : k < len
    · obtain ⟨m, hm⟩ : ∃ m : Nat, m + k + 1 = len := ⟨len - 1 - k, by omega⟩
      have hi : (len : Int) - 1 - (k : Int) = (m : Int) := by omega
      have hml : m < len := by omega
      have hcx : wr.cell? ⟨b, off + m, none⟩ = some (.pointer (some (pa m))) := (hnx.cell (p := ⟨b, off + m, none⟩) hb).trans (hc m hml)
      obtain ⟨fn, tmps, assign, body, hy, hR⟩ := hY _ ⟨m, hml⟩ wr hJs (by have := congrArg List.length hpre; rw [List.length_map, Tryz.dn_length] at this; omega)
      dsimp only at hy
      have hbx := (hnx.cell (p := ⟨Bs, 0, none⟩) hBn).trans hBs
      rw [hi]
      gi_wp2
      refine hR.mono ?_
      rintro e W3 (⟨rfl, hJ3, hk3⟩ | ⟨rfl, hJx3⟩)
      · gi_wp2
        go_roundw
        case rel => exact ⟨k + 1, by omega, by congr 1; omega, ⟨_, by rw [List.map_append, hpre, Tryz.dn_succ, show len - 1 - k = m by omega]; rfl, hJ3⟩, hnx.trans hk3⟩
        case measure => simp [intOf]
      · gi_wp2
        refine bodyPost_ret (results_none rfl _ _ _) rfl ?_
        exact ⟨⟨_, rfl⟩, .inr ⟨_, ⟨k + 1, by omega, by rw [List.map_append, hpre, Tryz.dn_succ, show len - 1 - k = m by omega]; rfl⟩, hJx3⟩⟩
    · obtain rfl : k = len := by omega
      have hi : (k : Int) - 1 - (k : Int) = -1 := by omega
      rw [hi]
      gi_wp2
      go_end0
      exact ⟨⟨_, rfl⟩, .inl ⟨_, hpre, hJs⟩⟩
set_option maxRecDepth 100000 in
set_option maxHeartbeats 1000000 in
theorem Tryz.back1_nil_in (F : Fence) (n : Nat) (h8 : F.fn 281) (hro : F.round = none) (l Bs : Nat) (J : List (Tryz.Ix 0) → World → Prop) (W : World) (hBs : W.cell? ⟨Bs, 0, none⟩ = some (.slice none 0 0)) (h0 : J [] W) :
    CallsIn F n Tryz.prog 281 #[.func (.yield l) #[] #[], .pointer (some ⟨Bs, 0, none⟩)] W fun e W' => (∃ v, e = .returned v) ∧ J [] W' := by
  refine callsIn_of_wp Tryz.func281 rfl h8 ?_ hro
  simp only [Tryz.ntmps281, List.size_toArray, List.length_cons, List.length_nil, Nat.reduceAdd, Nat.reduceSub, Array.replicate_succ, Array.replicate_zero, List.push_toArray, List.append_toArray, List.nil_append, List.cons_append]
  gi_wp2
  gi_loopw [3] (fun i wr => i = .int .i64 (-1) ∧ J [] wr) (fun _ _ => 0)
  case atStart => exact ⟨rfl, h0⟩
  case round =>
    obtain ⟨rfl, hJs⟩ := hrel
    gi_wp2
    go_end0
    exact ⟨⟨_, rfl⟩, hJs⟩
set_option maxHeartbeats 1000000 in
theorem Tryz.back_in (F : Fence) (n : Nat) (h6 : F.fn 250) (hro : F.round = none) (a : Option Addr) (len cap : Nat) (w : World) :
    CallsIn F n Tryz.prog 250 #[.slice a len cap] w fun e w' => e = .returned (.func (.func 281) #[] #[.pointer (some ⟨w.heap.size, 0, none⟩)]) ∧ w' = w.alloc (.cells #[.slice a len cap] 153) := by
  refine callsIn_of_wp Tryz.func250 rfl h6 ?_ hro
  simp only [Tryz.ntmps250, List.size_toArray, List.length_cons, List.length_nil, Nat.reduceAdd, Nat.reduceSub, Array.replicate_succ, Array.replicate_zero, List.push_toArray, List.append_toArray, List.nil_append, List.cons_append]
  gi_wp2
  go_ret
  exact ⟨rfl, rfl⟩
def Tryz.Ptrs (n₀ : Nat) (W : World) (sv : Value) (len : Nat) (pa : Nat → Addr) : Prop :=
  (sv = .slice none 0 0 ∧ len = 0) ∨ ∃ b off cap, sv = .slice (some ⟨b, off, none⟩) len cap ∧ b < n₀ ∧ ∀ j, j < len → W.cell? ⟨b, off + j, none⟩ = some (.pointer (some (pa j)))
theorem Tryz.Ptrs.below {n₀ : Nat} {A B : World} (h : Below n₀ A B) {sv : Value} {len : Nat} {pa : Nat → Addr} : Tryz.Ptrs n₀ A sv len pa → Tryz.Ptrs n₀ B sv len pa
  | .inl e => .inl e
  | .inr ⟨b, off, cap, e, hb, hc⟩ => .inr ⟨b, off, cap, e, hb, fun j hj => (h.cell (p := ⟨b, off + j, none⟩) hb).trans (hc j hj)⟩
theorem Tryz.back_stops (F : Fence) (n : Nat) (h8 : F.fn 281) (hro : F.round = none) (hn : 1 ≤ n) (Bs n₀ : Nat) (sv : Value) (len : Nat) (pa : Nat → Addr) (hreach : len ≤ 1000) (w : World) (hBs : Bs < n₀) (hn₀ : n₀ ≤ w.heap.size)
    (hc : w.cell? ⟨Bs, 0, none⟩ = some sv) (hI : Tryz.Ptrs n₀ w sv len pa) :
    SeqStopsK F n Tryz.prog 281 #[.pointer (some ⟨Bs, 0, none⟩)] (fun x : Tryz.Ix len => #[Value.int .i64 (x.1 : Int), Value.pointer (some (pa x.1))]) (Below n₀) (fun ys => ys.map (·.1) = Tryz.dn len len)
      (fun pre => ∃ k, k ≤ len ∧ pre.map (·.1) = Tryz.dn len k) len w := fun l J Jx W hW _ _ hY h0 => by
  have hc' := (hW.cell (p := ⟨Bs, 0, none⟩) (Nat.lt_of_lt_of_le hBs hn₀)).trans hc
  rcases hI.below (hW.mono hn₀) with ⟨rfl, rfl⟩ | ⟨b, off, cap, rfl, hb, hcs⟩
  · exact (Tryz.back1_nil_in F n h8 hro l Bs J W hc' h0).mono fun e W' ⟨he, hj⟩ => ⟨he, .inl ⟨_, rfl, hj⟩⟩
  · exact Tryz.back1_in F n h8 hro hn l Bs n₀ b off len cap pa hreach hb hBs J Jx hY W hc' hcs h0
set_option maxRecDepth 100000 in
set_option maxHeartbeats 2000000 in
theorem Tryz.find_in (F : Fence) (n : Nat) (h4 : F.fn 198) (h6 : F.fn 250) (h8 : F.fn 281) (hro : F.round = none) (hn : 3 ≤ n) (a0 a1 a2 a3 a4 a5 a7 : Value) (a : Option Addr) (cap len : Nat) (pa : Nat → Addr) (nms : Nat → ByteArray) (nm : ByteArray) (hreach : len ≤ 1000) (w : World)
    (hI : Tryz.Ptrs w.heap.size w (.slice a len cap) len pa) (hN : ∀ j, j < len → w.cell? (pa j) = some (.string (nms j))) (hS : ∀ j, j < len → (pa j).spot = none) :
    CallsIn F n Tryz.prog 198 #[.agg #[a0, a1, a2, a3, a4, a5, .slice a len cap, a7], .string nm] w fun e W' =>
      ((∃ j, j < len ∧ nms j = nm ∧ (∀ i, j < i → i < len → nms i ≠ nm) ∧ e = .returned (.pointer (some (pa j)))) ∨ ((∀ i, i < len → nms i ≠ nm) ∧ e = .returned (.pointer none))) ∧ Below w.heap.size w W' := by
  have h1 : 1 ≤ n := by omega
  refine callsIn_of_wp_marks Tryz.func198 rfl h4 ?_ hro
  simp only [Tryz.ntmps198, List.size_toArray, List.length_cons, List.length_nil, Nat.reduceAdd, Nat.reduceSub, Array.replicate_succ, Array.replicate_zero, List.push_toArray, List.append_toArray, List.nil_append, List.cons_append]
  gi_wp2_with (gi_at_call 250; refine (Tryz.back_in F (n - 1) h6 hro _ _ _ _).mono ?_; rintro e w' ⟨rfl, rfl⟩)
  have bS := Boxed.new w 155 (.int .i64 0)
  have hB0 : Below w.heap.size w ((((w.alloc (Obj.cells #[a0, a1, a2, a3, a4, a5, Value.slice a len cap, a7] 155)).alloc (Obj.cells #[Value.string nm] 9)).alloc (Obj.cells #[Value.pointer none] 241)).alloc (Obj.cells #[Value.slice a len cap] 153)) :=
    ((((Below.refl _ w).alloc (Nat.le_refl _) _).alloc (by simp) _).alloc (by simp; omega) _).alloc (by simp; omega) _
  have bM := ((Boxed.new (w.alloc (Obj.cells #[a0, a1, a2, a3, a4, a5, Value.slice a len cap, a7] 155)) 9 (Value.string nm)).alloc (Obj.cells #[Value.pointer none] 241)).alloc (Obj.cells #[Value.slice a len cap] 153)
  have bR := (Boxed.new ((w.alloc (Obj.cells #[a0, a1, a2, a3, a4, a5, Value.slice a len cap, a7] 155)).alloc (Obj.cells #[Value.string nm] 9)) 241 (Value.pointer none)).alloc (Obj.cells #[Value.slice a len cap] 153)
  have bN := Boxed.new (((w.alloc (Obj.cells #[a0, a1, a2, a3, a4, a5, Value.slice a len cap, a7] 155)).alloc (Obj.cells #[Value.string nm] 9)).alloc (Obj.cells #[Value.pointer none] 241)) 153 (Value.slice a len cap)
  simp only [World.size_alloc] at bM bR bN
  generalize hW0 : (((w.alloc (Obj.cells #[a0, a1, a2, a3, a4, a5, Value.slice a len cap, a7] 155)).alloc (Obj.cells #[Value.string nm] 9)).alloc (Obj.cells #[Value.pointer none] 241)).alloc (Obj.cells #[Value.slice a len cap] 153) = W0 at *
  have hsz : W0.heap.size = w.heap.size + 4 := by rw [← hW0]; simp
  have hlt : ∀ j, j < len → (pa j).block < w.heap.size := fun j hj => World.block_lt_of_cell? _ _ (hN j hj)
  refine wpIn_rangeFunc_ownG hro h1 (gf := 281) (lb := #[.pointer (some ⟨w.heap.size + 1 + 1 + 1, 0, none⟩)]) rfl h8 (enters_of Tryz.func281 (by kernel_rfl) rfl)
    (Tryz.back_stops F (n - 1) h8 hro (by omega) (w.heap.size + 1 + 1 + 1) (w.heap.size + 4) _ len pa hreach W0 (by omega) (by omega) bN.cell ?ptrs) belowK_t (belowK_b (by omega)) (Below.refl _ _) (fun _ => rfl)
    (fun pre W => (∀ p ∈ pre, nms p.1 ≠ nm) ∧ Below (w.heap.size + 4) W0 W)
    (fun c pre W => (c = .ret ∧ ∃ ini last, pre = ini ++ [last] ∧ (∀ p ∈ ini, nms p.1 ≠ nm) ∧ nms last.1 = nm ∧ W.cell? ⟨w.heap.size + 1 + 1, 0, none⟩ = some (.pointer (some (pa last.1)))) ∧ Below w.heap.size W0 W)
    ?own1 ?own2 ⟨by simp, Below.refl _ _⟩
    (fun x => { tmps := #[Value.agg #[a0, a1, a2, a3, a4, a5, Value.slice a len cap, a7], Value.string nm, Value.pointer (some ⟨w.heap.size, 0, none⟩), Value.pointer (some ⟨w.heap.size + 1, 0, none⟩), Value.pointer (some ⟨w.heap.size + 1 + 1, 0, none⟩), undef, .pointer (some (pa x.1)),
          Value.pointer (some ⟨w.heap.size, 6, none⟩), Value.slice a len cap, Value.func (Fn.func 281) #[] #[Value.pointer (some ⟨w.heap.size + 1 + 1 + 1, 0, none⟩)], .int .i64 (x.1 : Int), .pointer (some (pa x.1)), undef, undef, undef, undef, undef, undef, undef], defers := [] }) ?assign ?body ?done ?stop
  case ptrs =>
    have := hI.below hB0
    rcases this with h | ⟨b, off, c, e, hb, hc⟩
    · exact .inl h
    · exact .inr ⟨b, off, c, e, by omega, hc⟩
  case own1 => exact OwnFrom.and (Own.from (fun s A B row hs hg hr => hs) _) (ownFrom_below (by omega) (by omega))
  case own2 =>
    intro c
    exact OwnFrom.and (Own.from (fun s A B row hs hg hr => by obtain ⟨hc, ini, last, e1, e2, e3, e4⟩ := hs; exact ⟨hc, ini, last, e1, e2, e3, cell_kept e4 hg hr⟩) _) (ownFrom_below (by omega) (by omega))
  case assign =>
    intro l x W K hK
    gi_wp2
    exact hK
  case body =>
    rintro l pre x W ⟨hp, hB⟩ hlt2
    have hx : W.cell? (pa x.1) = some (.string (nms x.1)) := ((hB.mono (by omega)).cell (p := pa x.1) (hlt x.1 x.2)).trans ((hB0.cell (p := pa x.1) (hlt x.1 x.2)).trans (hN x.1 x.2))
    have hm : W.cell? ⟨w.heap.size + 1, 0, none⟩ = some (.string nm) := (hB.cell (p := ⟨w.heap.size + 1, 0, none⟩) (by simp)).trans bM.cell
    have bR' : Boxed W (w.heap.size + 1 + 1) 241 (Value.pointer none) := (hB.block (w.heap.size + 1 + 1) (by omega)).trans bR
    have hcr := bR'.cell
    have hfr := bR'.frozen
    have hsp := hS x.1 x.2
    have hB' : Below w.heap.size W0 W := hB.mono (by omega)
    generalize hpx : pa x.1 = px at *
    obtain ⟨pb, po, pi⟩ := px
    obtain rfl : pi = none := hsp
    clear bS bM bR bN hI hS hW0
    have hmx : Tryz.prog.follows .mixedOrders = true := by kernel_rfl
    gi_wp2
    gi_region_with_o (fail)
    all_goals gi_wp2
    all_goals (try go_bits)
    all_goals first
      | (have hb : ((nms x.1).toList == nm.toList) = true := by assumption
         have hq : nms x.1 = nm := Tryz.bytes_inj hb
         exact ⟨((KeepsOthers.setCell _ _ _).trans (KeepsOthers.drew _)).from _, ⟨rfl, pre, x, rfl, hp, hq, by rw [hpx]; exact World.cell?_setCell_same' _ _ _ (by rw [hcr]; rfl)⟩, (hB'.setCell (p := ⟨w.heap.size + 1 + 1, 0, none⟩) (by simp; omega) _).drew⟩)
      | (have hb : ((nms x.1).toList == nm.toList) = false := by assumption
         have hq : ¬ nms x.1 = nm := fun e => by rw [e, beq_self_eq_true] at hb; cases hb
         exact ⟨(KeepsOthers.drew _).from _, (Below.refl _ _).drew, fun p hp' => (List.mem_append.1 hp').elim (hp p) (fun e => by simp at e; subst e; exact hq), hB.drew⟩)
  case done =>
    rintro D ys W hD hys ⟨hp, hB⟩ hK
    have bR' : Boxed W (w.heap.size + 1 + 1) 241 (Value.pointer none) := (hB.block (w.heap.size + 1 + 1) (by omega)).trans bR
    have hcr := bR'.cell
    have hfr := bR'.frozen
    have hB' : Below w.heap.size W0 W := hB.mono (by omega)
    clear bS bM bR bN hI hS hW0
    gi_wp2
    have hK' := (KeepsOthers.setCell W ⟨w.heap.size + 1 + 1, 0, none⟩ (.pointer none)).same D _ hK rfl
    refine ⟨by simp, .inl ⟨_, _, rfl, run_takeDeferred hK', ?_⟩⟩
    have hc5 := cell_kept (World.cell?_setCell_same' W ⟨w.heap.size + 1 + 1, 0, none⟩ (.pointer none) (by rw [hcr]; rfl)) (grownBy_putObj' _ D (.deferred none)) (fun r e => by cases e; exact ⟨_, hK', rfl⟩)
    refine ⟨.pointer none, ?_, .inr ⟨fun i hi => ?_, rfl⟩, ((hB0.trans hB').setCell (p := ⟨w.heap.size + 1 + 1, 0, none⟩) (by simp; omega) _).trans (belowK_b (w := w) (Nat.le_refl _) _ D _ _ (by omega) hK' rfl rfl)⟩
    · simp [results, Tryz.f198, go_sem, hc5]
    · have : i ∈ ys.map (·.1) := by rw [hys]; exact Tryz.dn_mem (by omega) hi
      obtain ⟨p, h1, rfl⟩ := List.mem_map.1 this
      exact hp p h1
  case stop =>
    rintro D c pre W hD ⟨k, hk, hpre⟩ ⟨⟨rfl, ini, last, e1, e2, e3, hcr⟩, hB⟩ hK
    clear bS bM bR bN hI hS hW0
    gi_wp2
    refine ⟨by simp, .inl ⟨_, _, rfl, run_takeDeferred hK, ?_⟩⟩
    have hc5 := cell_kept hcr (grownBy_putObj' _ D (.deferred none)) (fun r e => by cases e; exact ⟨_, hK, rfl⟩)
    obtain ⟨k', rfl⟩ : ∃ k', k = k' + 1 := by
      cases k with
      | zero => subst e1; simp [Tryz.dn] at hpre
      | succ k' => exact ⟨k', rfl⟩
    rw [e1, Tryz.dn_succ, List.map_append] at hpre
    obtain ⟨h5, h6⟩ := List.append_inj' hpre rfl
    have h7 : last.1 = len - 1 - k' := by simpa using h6
    refine ⟨.pointer (some (pa last.1)), ?_, .inl ⟨last.1, last.2, e3, fun i hi hi2 => ?_, rfl⟩, (hB0.trans hB).trans (belowK_b (w := w) (Nat.le_refl _) _ D _ _ (by omega) hK rfl rfl)⟩
    · simp [results, Tryz.f198, go_sem, hc5]
    · have : i ∈ ini.map (·.1) := by rw [h5]; exact Tryz.dn_mem (by omega) hi2
      obtain ⟨p, h1, rfl⟩ := List.mem_map.1 this
      exact e2 p h1
end Go.Proofs
namespace Go.Proofs
open Go.RowKit Go.Shelf Go.AI
theorem Tryz.find_sound [Sym] (G : Nat → Option (List PVal)) : FSound Tryz.prog G (SFind 198 6 8) := by
  have open8 : ∀ (arr : Array Value) (v : Value), arr.size = 8 → arr[6]? = some v → ∃ a0 a1 a2 a3 a4 a5 a7, arr = #[a0, a1, a2, a3, a4, a5, v, a7] := by
    intro arr v h1 h2
    obtain ⟨l⟩ := arr
    match l, h1, h2 with
    | [a0, a1, a2, a3, a4, a5, a6, a7], _, h2 => exact ⟨a0, a1, a2, a3, a4, a5, a7, by simp at h2; rw [h2]⟩
  refine SFind_sound ⟨_, Tryz.func198, rfl, by decide⟩ (fun arr nm w h1 h2 => ?_) (fun arr nm w b off len cap pa nms h1 h2 hl hb hp hs hn => ?_)
  · obtain ⟨a0, a1, a2, a3, a4, a5, a7, rfl⟩ := open8 arr _ h1 h2
    have h := Tryz.find_in Fence.wide 3 trivial trivial trivial rfl (by omega) a0 a1 a2 a3 a4 a5 a7 none 0 0 (fun _ => ⟨0, 0, none⟩) (fun _ => nm) nm (by omega) w (.inl ⟨rfl, rfl⟩) (fun j h => absurd h (by omega)) (fun j h => absurd h (by omega))
    refine (callsIn_wide.1 h).mono fun e w' ⟨h1, h2⟩ => ⟨?_, h2⟩
    rcases h1 with ⟨j, hj, _⟩ | ⟨_, h1⟩
    · omega
    · exact h1
  · obtain ⟨a0, a1, a2, a3, a4, a5, a7, rfl⟩ := open8 arr _ h1 h2
    exact callsIn_wide.1 (Tryz.find_in Fence.wide 3 trivial trivial trivial rfl (by omega) a0 a1 a2 a3 a4 a5 a7 (some ⟨b, off, none⟩) cap len pa nms nm hl w (.inr ⟨b, off, cap, rfl, hb, hp⟩) hs hn)
end Go.Proofs
namespace Go.Proofs.YtnlmlcfipbnpgaaGreatDoor.Ab
open Go Go.AI
noncomputable def SLay : Oracle := SFind 198 6 8
theorem SLay_sound [Sym] {G : Nat → Option (List PVal)} (_ : Tryz.prog.follows .mixedOrders = true) : FSound Tryz.prog G SLay := Tryz.find_sound G
end Go.Proofs.YtnlmlcfipbnpgaaGreatDoor.Ab
