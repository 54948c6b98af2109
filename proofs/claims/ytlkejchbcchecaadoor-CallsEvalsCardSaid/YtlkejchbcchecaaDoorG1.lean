/- The rules, the contracts, the plain laws that lead to the statement. Own work. Condition: what each theorem names. -/
import Derived.Test.YtlkejchbcchecaaDoorG0
import Derived.Lib.ItoaNum
set_option linter.all false
set_option linter.unusedVariables false
set_option linter.unusedSimpArgs false
set_option linter.unusedSectionVars false
set_option maxRecDepth 100000
open Nat (reduceAdd reduceMul reduceLT reduceLeDiff reduceEqDiff)
namespace Go.Proofs.YtlkejchbcchecaaDoor.Ab
open Go Go.AI
def Ag (nm : List UInt8) (a : Sl VT) : Prop := ∃ p p' : VT × Int, Om 38 [kS nm, .v (.c (.p (slP 6 VT.row a)))] [] = some (ansE p, []) ∧ Om 41 [kS nm, .v (.c (.p (slP 6 VT.row a)))] [] = some (ansE p', []) ∧ p.2 = p'.2 ∧ smV p.1 ∧ sameV p.1 p'.1 = true
theorem agE {nm : List UInt8} {a : Sl VT} {p p' : VT × Int} (h1 : Om 38 [kS nm, .v (.c (.p (slP 6 VT.row a)))] [] = some (ansE p, [])) (h2 : Om 41 [kS nm, .v (.c (.p (slP 6 VT.row a)))] [] = some (ansE p', [])) (e : p = p') (sm : smV p.1) : Ag nm a := ⟨p, p', h1, h2, by rw [e], sm, by rw [e]; exact qT5 _⟩
theorem agO {nm : List UInt8} {a : Sl VT} {p p' : VT × Int} (h1 : Om 38 [kS nm, .v (.c (.p (slP 6 VT.row a)))] [] = some (ansE p, [])) (h2 : Om 41 [kS nm, .v (.c (.p (slP 6 VT.row a)))] [] = some (ansE p', [])) (e : p = (ownV p'.1, p'.2)) (sm : smV p'.1) : Ag nm a := ⟨p, p', h1, h2, by rw [e], by rw [e]; exact qRv sm, by rw [e]; exact qUA _⟩
theorem agC {nm : List UInt8} {a : Sl VT} (c : Int) (b1 : Om 84 [kS nm] [] = some (kB true, [])) (b2 : Om 85 [kS nm] [] = some (kI c, [])) (b3 : Om 52 [kS nm] [] = some (kB true, [])) (b4 : Om 98 [kS nm] [] = some (kI c, [])) (hc : ¬ (a.len : Int) = c) : Ag nm a :=
 agE (qLW nm c a b1 b2 hc) (qMU nm c a b3 b4 hc) rfl qBB
theorem agN {nm : List UInt8} {a : Sl VT} (hl : nm.length ≤ 1000) (h : nm ∉ nmsL) : Ag nm a :=
 agE (qMg nm a ((qAb nm hl).trans (by rw [decide_eq_false h]))) (qPj nm a ((qSW nm).trans (by rw [decide_eq_false h]))) rfl qBB
theorem qAz (n : Int) : smV (numV n) := qBM _ _ _ _ (by simp)
theorem qB7 (b : Bool) : smV (truthV b) := qBM _ _ _ _ (by simp)
theorem qBE {c : Bool} {x : VT} (sx : smV x) : smV (if c = false then ((VT.nul, 17) : VT × Int) else (x, 0)).1 := by split; exact qBB; exact sx
theorem qQO (v : VT) : smV (lenM v).1 := by
 unfold lenM
 split
 ·exact qAz _
 split
 ·exact qAz _
 split
 ·exact qAz _
 ·exact qBB
theorem qTW (v w : VT) : badS v w = badR v w := by
 unfold badS badR
 by_cases h1 : v.kind = w.kind
 ·rw [h1]; simp
 ·have h2 : ¬ w.kind = v.kind := fun e => h1 e.symm
  simp [h1, h2]
theorem qQ2 (v w : VT) : atM v w = (ownV (atR v w).1, (atR v w).2) := by
 unfold atM atR
 split
 ·rfl
 split
 ·rfl
 cases v.l.list[w.n.toNat]? <;> rfl
theorem qOa (v w : VT) : getE v w = (ownV (getR v w).1, (getR v w).2) := by
 unfold getE getR
 split
 ·rfl
 cases getM v w.s <;> rfl
theorem qTU {v : VT} (w : VT) (sm : smV v) : smV (atR v w).1 := by
 have sl := ((qAp v).1 sm).2.2.2
 unfold atR
 split
 ·exact qBB
 split
 ·exact qBB
 cases h : v.l.list[w.n.toNat]? with
 | none => exact qBB
 | some x => exact sl x (List.mem_of_getElem? h)
theorem qQS {v : VT} (w : VT) (sm : smV v) : smV (getR v w).1 := by
 have sl := ((qAp v).1 sm).2.2.2
 unfold getR
 split
 ·exact qBB
 cases h : getM v w.s with
 | none => exact qBB
 | some x =>
  unfold getM at h
  split at h
  ·obtain ⟨i, _, hi⟩ := Option.bind_eq_some_iff.1 h
   exact sl x (List.mem_of_getElem? hi)
  ·cases h
theorem qIR : Om 84 [kS n_len] [] = some (kB true, []) := qAb n_len (by decide)
theorem qHd : Om 85 [kS n_len] [] = some (kI 1, []) := (qAA rfl).trans (qAD blks_ok 500 85 0 0 _ _ _ (by kernel_rfl))
theorem qHw : Om 84 [kS n_not] [] = some (kB true, []) := qAb n_not (by decide)
theorem qIc : Om 85 [kS n_not] [] = some (kI 1, []) := (qAA rfl).trans (qAD blks_ok 500 85 0 0 _ _ _ (by kernel_rfl))
theorem qFD : Om 84 [kS n_and] [] = some (kB true, []) := qAb n_and (by decide)
theorem qFt : Om 85 [kS n_and] [] = some (kI 2, []) := (qAA rfl).trans (qAD blks_ok 500 85 0 0 _ _ _ (by kernel_rfl))
theorem qHB : Om 84 [kS n_or] [] = some (kB true, []) := qAb n_or (by decide)
theorem qG4 : Om 85 [kS n_or] [] = some (kI 2, []) := (qAA rfl).trans (qAD blks_ok 500 85 0 0 _ _ _ (by kernel_rfl))
theorem qHM : Om 84 [kS n_eq] [] = some (kB true, []) := qAb n_eq (by decide)
theorem qHA : Om 85 [kS n_eq] [] = some (kI 2, []) := (qAA rfl).trans (qAD blks_ok 500 85 0 0 _ _ _ (by kernel_rfl))
theorem qG8 : Om 84 [kS n_lt] [] = some (kB true, []) := qAb n_lt (by decide)
theorem qHJ : Om 85 [kS n_lt] [] = some (kI 2, []) := (qAA rfl).trans (qAD blks_ok 500 85 0 0 _ _ _ (by kernel_rfl))
theorem qFJ : Om 84 [kS n_add] [] = some (kB true, []) := qAb n_add (by decide)
theorem qFh : Om 85 [kS n_add] [] = some (kI 2, []) := (qAA rfl).trans (qAD blks_ok 500 85 0 0 _ _ _ (by kernel_rfl))
theorem qFQ : Om 84 [kS n_sub] [] = some (kB true, []) := qAb n_sub (by decide)
theorem qFb : Om 85 [kS n_sub] [] = some (kI 2, []) := (qAA rfl).trans (qAD blks_ok 500 85 0 0 _ _ _ (by kernel_rfl))
theorem qFT : Om 84 [kS n_mul] [] = some (kB true, []) := qAb n_mul (by decide)
theorem qFC : Om 85 [kS n_mul] [] = some (kI 2, []) := (qAA rfl).trans (qAD blks_ok 500 85 0 0 _ _ _ (by kernel_rfl))
theorem qFd : Om 84 [kS n_shl] [] = some (kB true, []) := qAb n_shl (by decide)
theorem qFi : Om 85 [kS n_shl] [] = some (kI 2, []) := (qAA rfl).trans (qAD blks_ok 500 85 0 0 _ _ _ (by kernel_rfl))
theorem qFo : Om 84 [kS n_shr] [] = some (kB true, []) := qAb n_shr (by decide)
theorem qFv : Om 85 [kS n_shr] [] = some (kI 2, []) := (qAA rfl).trans (qAD blks_ok 500 85 0 0 _ _ _ (by kernel_rfl))
theorem qLQ : Om 84 [kS n_i8] [] = some (kB true, []) := qAb n_i8 (by decide)
theorem qK2 : Om 85 [kS n_i8] [] = some (kI 1, []) := (qAA rfl).trans (qAD blks_ok 500 85 0 0 _ _ _ (by kernel_rfl))
theorem qIm : Om 84 [kS n_i16] [] = some (kB true, []) := qAb n_i16 (by decide)
theorem qHo : Om 85 [kS n_i16] [] = some (kI 1, []) := (qAA rfl).trans (qAD blks_ok 500 85 0 0 _ _ _ (by kernel_rfl))
theorem qIb : Om 84 [kS n_i32] [] = some (kB true, []) := qAb n_i32 (by decide)
theorem qIT : Om 85 [kS n_i32] [] = some (kI 1, []) := (qAA rfl).trans (qAD blks_ok 500 85 0 0 _ _ _ (by kernel_rfl))
theorem qKC : Om 84 [kS n_u8] [] = some (kB true, []) := qAb n_u8 (by decide)
theorem qKD : Om 85 [kS n_u8] [] = some (kI 1, []) := (qAA rfl).trans (qAD blks_ok 500 85 0 0 _ _ _ (by kernel_rfl))
theorem qH6 : Om 84 [kS n_u16] [] = some (kB true, []) := qAb n_u16 (by decide)
theorem qIH : Om 85 [kS n_u16] [] = some (kI 1, []) := (qAA rfl).trans (qAD blks_ok 500 85 0 0 _ _ _ (by kernel_rfl))
theorem qHX : Om 84 [kS n_u32] [] = some (kB true, []) := qAb n_u32 (by decide)
theorem qH3 : Om 85 [kS n_u32] [] = some (kI 1, []) := (qAA rfl).trans (qAD blks_ok 500 85 0 0 _ _ _ (by kernel_rfl))
theorem qEz : Om 84 [kS n_cat] [] = some (kB true, []) := qAb n_cat (by decide)
theorem qFV : Om 85 [kS n_cat] [] = some (kI 2, []) := (qAA rfl).trans (qAD blks_ok 500 85 0 0 _ _ _ (by kernel_rfl))
theorem qGK : Om 84 [kS n_text] [] = some (kB true, []) := qAb n_text (by decide)
theorem qF4 : Om 85 [kS n_text] [] = some (kI 1, []) := (qAA rfl).trans (qAD blks_ok 500 85 0 0 _ _ _ (by kernel_rfl))
theorem qHN : Om 84 [kS n_at] [] = some (kB true, []) := qAb n_at (by decide)
theorem qG6 : Om 85 [kS n_at] [] = some (kI 2, []) := (qAA rfl).trans (qAD blks_ok 500 85 0 0 _ _ _ (by kernel_rfl))
theorem qE1 : Om 84 [kS n_get] [] = some (kB true, []) := qAb n_get (by decide)
theorem qFM : Om 85 [kS n_get] [] = some (kI 2, []) := (qAA rfl).trans (qAD blks_ok 500 85 0 0 _ _ _ (by kernel_rfl))
theorem qH4 : Om 84 [kS n_has] [] = some (kB true, []) := qAb n_has (by decide)
theorem qHe : Om 85 [kS n_has] [] = some (kI 1, []) := (qAA rfl).trans (qAD blks_ok 500 85 0 0 _ _ _ (by kernel_rfl))
theorem qCe : Om 84 [kS n_orelse] [] = some (kB true, []) := qAb n_orelse (by decide)
theorem qCT : Om 85 [kS n_orelse] [] = some (kI 2, []) := (qAA rfl).trans (qAD blks_ok 500 85 0 0 _ _ _ (by kernel_rfl))
theorem qTj (a : Sl VT) (ha : ∀ x ∈ a.list, smV x) : Ag n_len a := by
 match a, ha with
 | .nil, _ => exact agC 1 qIR qHd qDW qFx (by show ¬ (0 : Int) = 1; decide)
 | .mk t [], _ => exact agC 1 qIR qHd qDW qFx (by show ¬ (0 : Int) = 1; decide)
 | .mk t [v], ha => exact agE (qTZ t v) (qRr t v) rfl (qQO v)
 | .mk t (v :: w :: l), _ => exact agC 1 qIR qHd qDW qFx (by show ¬ ((l.length + 1 + 1 : Nat) : Int) = 1; omega)
theorem qSd (a : Sl VT) (ha : ∀ x ∈ a.list, smV x) : Ag n_not a := by
 match a, ha with
 | .nil, _ => exact agC 1 qHw qIc qD4 qFI (by show ¬ (0 : Int) = 1; decide)
 | .mk t [], _ => exact agC 1 qHw qIc qD4 qFI (by show ¬ (0 : Int) = 1; decide)
 | .mk t [v], ha => exact agE (qSQ t v) (qRV t v) (by rw [Bool.and_self]) (qBE (qB7 _))
 | .mk t (v :: w :: l), _ => exact agC 1 qHw qIc qD4 qFI (by show ¬ ((l.length + 1 + 1 : Nat) : Int) = 1; omega)
theorem qTr (a : Sl VT) (ha : ∀ x ∈ a.list, smV x) : Ag n_and a := by
 match a, ha with
 | .nil, _ => exact agC 2 qFD qFt qCs qDt (by show ¬ (0 : Int) = 2; decide)
 | .mk t [], _ => exact agC 2 qFD qFt qCs qDt (by show ¬ (0 : Int) = 2; decide)
 | .mk t [v], _ => exact agC 2 qFD qFt qCs qDt (by show ¬ (1 : Int) = 2; decide)
 | .mk t [v, w], ha => exact agE (qSv t v w) (qQ7 t v w) rfl (qBE (qB7 _))
 | .mk t (v :: w :: x :: l), _ => exact agC 2 qFD qFt qCs qDt (by show ¬ ((l.length + 1 + 1 + 1 : Nat) : Int) = 2; omega)
theorem qUq (a : Sl VT) (ha : ∀ x ∈ a.list, smV x) : Ag n_or a := by
 match a, ha with
 | .nil, _ => exact agC 2 qHB qG4 qEL qFH (by show ¬ (0 : Int) = 2; decide)
 | .mk t [], _ => exact agC 2 qHB qG4 qEL qFH (by show ¬ (0 : Int) = 2; decide)
 | .mk t [v], _ => exact agC 2 qHB qG4 qEL qFH (by show ¬ (1 : Int) = 2; decide)
 | .mk t [v, w], ha => exact agE (qT2 t v w) (qTd t v w) rfl (qBE (qB7 _))
 | .mk t (v :: w :: x :: l), _ => exact agC 2 qHB qG4 qEL qFH (by show ¬ ((l.length + 1 + 1 + 1 : Nat) : Int) = 2; omega)
theorem qUn (a : Sl VT) (ha : ∀ x ∈ a.list, smV x) : Ag n_eq a := by
 match a, ha with
 | .nil, _ => exact agC 2 qHM qHA qEK qFa (by show ¬ (0 : Int) = 2; decide)
 | .mk t [], _ => exact agC 2 qHM qHA qEK qFa (by show ¬ (0 : Int) = 2; decide)
 | .mk t [v], _ => exact agC 2 qHM qHA qEK qFa (by show ¬ (1 : Int) = 2; decide)
 | .mk t [v, w], ha => exact agE (qUI t v w) (qTq t v w) (by unfold eqM eqR; rw [qTW]) (by unfold eqM; split; exact qBB; exact qB7 _)
 | .mk t (v :: w :: x :: l), _ => exact agC 2 qHM qHA qEK qFa (by show ¬ ((l.length + 1 + 1 + 1 : Nat) : Int) = 2; omega)
theorem qUo (a : Sl VT) (ha : ∀ x ∈ a.list, smV x) : Ag n_lt a := by
 match a, ha with
 | .nil, _ => exact agC 2 qG8 qHJ qEA qE4 (by show ¬ (0 : Int) = 2; decide)
 | .mk t [], _ => exact agC 2 qG8 qHJ qEA qE4 (by show ¬ (0 : Int) = 2; decide)
 | .mk t [v], _ => exact agC 2 qG8 qHJ qEA qE4 (by show ¬ (1 : Int) = 2; decide)
 | .mk t [v, w], ha => exact agE (qUU t v w) (qTu t v w) rfl (qBE (qB7 _))
 | .mk t (v :: w :: x :: l), _ => exact agC 2 qG8 qHJ qEA qE4 (by show ¬ ((l.length + 1 + 1 + 1 : Nat) : Int) = 2; omega)
theorem qTo (a : Sl VT) (ha : ∀ x ∈ a.list, smV x) : Ag n_add a := by
 match a, ha with
 | .nil, _ => exact agC 2 qFJ qFh qCw qD1 (by show ¬ (0 : Int) = 2; decide)
 | .mk t [], _ => exact agC 2 qFJ qFh qCw qD1 (by show ¬ (0 : Int) = 2; decide)
 | .mk t [v], _ => exact agC 2 qFJ qFh qCw qD1 (by show ¬ (1 : Int) = 2; decide)
 | .mk t [v, w], ha => exact agE (qSP t v w) (qRP t v w) rfl (qBE (qAz _))
 | .mk t (v :: w :: x :: l), _ => exact agC 2 qFJ qFh qCw qD1 (by show ¬ ((l.length + 1 + 1 + 1 : Nat) : Int) = 2; omega)
theorem qR8 (a : Sl VT) (ha : ∀ x ∈ a.list, smV x) : Ag n_sub a := by
 match a, ha with
 | .nil, _ => exact agC 2 qFQ qFb qCx qDg (by show ¬ (0 : Int) = 2; decide)
 | .mk t [], _ => exact agC 2 qFQ qFb qCx qDg (by show ¬ (0 : Int) = 2; decide)
 | .mk t [v], _ => exact agC 2 qFQ qFb qCx qDg (by show ¬ (1 : Int) = 2; decide)
 | .mk t [v, w], ha => exact agE (qTV t v w) (qP7 t v w) rfl (qBE (qAz _))
 | .mk t (v :: w :: x :: l), _ => exact agC 2 qFQ qFb qCx qDg (by show ¬ ((l.length + 1 + 1 + 1 : Nat) : Int) = 2; omega)
theorem qTC (a : Sl VT) (ha : ∀ x ∈ a.list, smV x) : Ag n_mul a := by
 match a, ha with
 | .nil, _ => exact agC 2 qFT qFC qCk qDm (by show ¬ (0 : Int) = 2; decide)
 | .mk t [], _ => exact agC 2 qFT qFC qCk qDm (by show ¬ (0 : Int) = 2; decide)
 | .mk t [v], _ => exact agC 2 qFT qFC qCk qDm (by show ¬ (1 : Int) = 2; decide)
 | .mk t [v, w], ha => exact agE (qSJ t v w) (qRY t v w) rfl (qBE (qAz _))
 | .mk t (v :: w :: x :: l), _ => exact agC 2 qFT qFC qCk qDm (by show ¬ ((l.length + 1 + 1 + 1 : Nat) : Int) = 2; omega)
theorem qSD (a : Sl VT) (ha : ∀ x ∈ a.list, smV x) : Ag n_shl a := by
 match a, ha with
 | .nil, _ => exact agC 2 qFd qFi qCv qDf (by show ¬ (0 : Int) = 2; decide)
 | .mk t [], _ => exact agC 2 qFd qFi qCv qDf (by show ¬ (0 : Int) = 2; decide)
 | .mk t [v], _ => exact agC 2 qFd qFi qCv qDf (by show ¬ (1 : Int) = 2; decide)
 | .mk t [v, w], ha => exact agE (qSK t v w) (qQ6 t v w) rfl (qBE (qAz _))
 | .mk t (v :: w :: x :: l), _ => exact agC 2 qFd qFi qCv qDf (by show ¬ ((l.length + 1 + 1 + 1 : Nat) : Int) = 2; omega)
theorem qTs (a : Sl VT) (ha : ∀ x ∈ a.list, smV x) : Ag n_shr a := by
 match a, ha with
 | .nil, _ => exact agC 2 qFo qFv qC2 qD5 (by show ¬ (0 : Int) = 2; decide)
 | .mk t [], _ => exact agC 2 qFo qFv qC2 qD5 (by show ¬ (0 : Int) = 2; decide)
 | .mk t [v], _ => exact agC 2 qFo qFv qC2 qD5 (by show ¬ (1 : Int) = 2; decide)
 | .mk t [v, w], ha => exact agE (qTp t v w) (qRn t v w) rfl (qBE (qAz _))
 | .mk t (v :: w :: x :: l), _ => exact agC 2 qFo qFv qC2 qD5 (by show ¬ ((l.length + 1 + 1 + 1 : Nat) : Int) = 2; omega)
theorem qT6 (a : Sl VT) (ha : ∀ x ∈ a.list, smV x) : Ag n_i8 a := by
 match a, ha with
 | .nil, _ => exact agC 1 qLQ qK2 qFr qHD (by show ¬ (0 : Int) = 1; decide)
 | .mk t [], _ => exact agC 1 qLQ qK2 qFr qHD (by show ¬ (0 : Int) = 1; decide)
 | .mk t [v], ha => exact agE (qUE t v) (qSc t v) (by rw [Bool.and_self]) (qBE (qAz _))
 | .mk t (v :: w :: l), _ => exact agC 1 qLQ qK2 qFr qHD (by show ¬ ((l.length + 1 + 1 : Nat) : Int) = 1; omega)
theorem qSj (a : Sl VT) (ha : ∀ x ∈ a.list, smV x) : Ag n_i16 a := by
 match a, ha with
 | .nil, _ => exact agC 1 qIm qHo qDS qEy (by show ¬ (0 : Int) = 1; decide)
 | .mk t [], _ => exact agC 1 qIm qHo qDS qEy (by show ¬ (0 : Int) = 1; decide)
 | .mk t [v], ha => exact agE (qTL t v) (qRQ t v) (by rw [Bool.and_self]) (qBE (qAz _))
 | .mk t (v :: w :: l), _ => exact agC 1 qIm qHo qDS qEy (by show ¬ ((l.length + 1 + 1 : Nat) : Int) = 1; omega)
theorem qTe (a : Sl VT) (ha : ∀ x ∈ a.list, smV x) : Ag n_i32 a := by
 match a, ha with
 | .nil, _ => exact agC 1 qIb qIT qDr qFF (by show ¬ (0 : Int) = 1; decide)
 | .mk t [], _ => exact agC 1 qIb qIT qDr qFF (by show ¬ (0 : Int) = 1; decide)
 | .mk t [v], ha => exact agE (qTx t v) (qP3 t v) (by rw [Bool.and_self]) (qBE (qAz _))
 | .mk t (v :: w :: l), _ => exact agC 1 qIb qIT qDr qFF (by show ¬ ((l.length + 1 + 1 : Nat) : Int) = 1; omega)
theorem qUO (a : Sl VT) (ha : ∀ x ∈ a.list, smV x) : Ag n_u8 a := by
 match a, ha with
 | .nil, _ => exact agC 1 qKC qKD qFm qHI (by show ¬ (0 : Int) = 1; decide)
 | .mk t [], _ => exact agC 1 qKC qKD qFm qHI (by show ¬ (0 : Int) = 1; decide)
 | .mk t [v], ha => exact agE (qUs t v) (qSi t v) (by rw [Bool.and_self]) (qBE (qAz _))
 | .mk t (v :: w :: l), _ => exact agC 1 qKC qKD qFm qHI (by show ¬ ((l.length + 1 + 1 : Nat) : Int) = 1; omega)
theorem qSC (a : Sl VT) (ha : ∀ x ∈ a.list, smV x) : Ag n_u16 a := by
 match a, ha with
 | .nil, _ => exact agC 1 qH6 qIH qDc qFW (by show ¬ (0 : Int) = 1; decide)
 | .mk t [], _ => exact agC 1 qH6 qIH qDc qFW (by show ¬ (0 : Int) = 1; decide)
 | .mk t [v], ha => exact agE (qSX t v) (qRW t v) (by rw [Bool.and_self]) (qBE (qAz _))
 | .mk t (v :: w :: l), _ => exact agC 1 qH6 qIH qDc qFW (by show ¬ ((l.length + 1 + 1 : Nat) : Int) = 1; omega)
theorem qS8 (a : Sl VT) (ha : ∀ x ∈ a.list, smV x) : Ag n_u32 a := by
 match a, ha with
 | .nil, _ => exact agC 1 qHX qH3 qD3 qE7 (by show ¬ (0 : Int) = 1; decide)
 | .mk t [], _ => exact agC 1 qHX qH3 qD3 qE7 (by show ¬ (0 : Int) = 1; decide)
 | .mk t [v], ha => exact agE (qTY t v) (qQo t v) (by rw [Bool.and_self]) (qBE (qAz _))
 | .mk t (v :: w :: l), _ => exact agC 1 qHX qH3 qD3 qE7 (by show ¬ ((l.length + 1 + 1 : Nat) : Int) = 1; omega)
theorem qSo (a : Sl VT) (ha : ∀ x ∈ a.list, smV x) : Ag n_cat a := by
 match a, ha with
 | .nil, _ => exact agC 2 qEz qFV qCq qDU (by show ¬ (0 : Int) = 2; decide)
 | .mk t [], _ => exact agC 2 qEz qFV qCq qDU (by show ¬ (0 : Int) = 2; decide)
 | .mk t [v], _ => exact agC 2 qEz qFV qCq qDU (by show ¬ (1 : Int) = 2; decide)
 | .mk t [v, w], ha => 
  have s1 := ((qAp v).1 (ha v (by simp [Sl.list]))).1
  have s2 := ((qAp w).1 (ha w (by simp [Sl.list]))).1
  exact agE (qTH t v w (by omega)) (qQK t v w (by omega) (by omega)) rfl (by
   unfold catE
   split
   ·exact qBB
   split
   ·exact qBB
   ·exact qBM _ _ _ _ (by rw [List.length_append]; omega))
 | .mk t (v :: w :: x :: l), _ => exact agC 2 qEz qFV qCq qDU (by show ¬ ((l.length + 1 + 1 + 1 : Nat) : Int) = 2; omega)
theorem qUl (a : Sl VT) (ha : ∀ x ∈ a.list, smV x) : Ag n_at a := by
 match a, ha with
 | .nil, _ => exact agC 2 qHN qG6 qEF qFX (by show ¬ (0 : Int) = 2; decide)
 | .mk t [], _ => exact agC 2 qHN qG6 qEF qFX (by show ¬ (0 : Int) = 2; decide)
 | .mk t [v], _ => exact agC 2 qHN qG6 qEF qFX (by show ¬ (1 : Int) = 2; decide)
 | .mk t [v, w], ha => exact agO (qQl t v w (ha v (by simp [Sl.list]))) (qR7 t v w) (qQ2 v w) (qTU w (ha v (by simp [Sl.list])))
 | .mk t (v :: w :: x :: l), _ => exact agC 2 qHN qG6 qEF qFX (by show ¬ ((l.length + 1 + 1 + 1 : Nat) : Int) = 2; omega)
theorem qSg (a : Sl VT) (ha : ∀ x ∈ a.list, smV x) : Ag n_get a := by
 match a, ha with
 | .nil, _ => exact agC 2 qE1 qFM qCl qDk (by show ¬ (0 : Int) = 2; decide)
 | .mk t [], _ => exact agC 2 qE1 qFM qCl qDk (by show ¬ (0 : Int) = 2; decide)
 | .mk t [v], _ => exact agC 2 qE1 qFM qCl qDk (by show ¬ (1 : Int) = 2; decide)
 | .mk t [v, w], ha => exact agO (qOj t v w (ha v (by simp [Sl.list]))) (qQC t v w ((qAp v).1 (ha v (by simp [Sl.list]))).2.1) (qOa v w) (qQS w (ha v (by simp [Sl.list])))
 | .mk t (v :: w :: x :: l), _ => exact agC 2 qE1 qFM qCl qDk (by show ¬ ((l.length + 1 + 1 + 1 : Nat) : Int) = 2; omega)
theorem qS6 (a : Sl VT) (ha : ∀ x ∈ a.list, smV x) : Ag n_has a := by
 match a, ha with
 | .nil, _ => exact agC 1 qH4 qHe qDu qFP (by show ¬ (0 : Int) = 1; decide)
 | .mk t [], _ => exact agC 1 qH4 qHe qDu qFP (by show ¬ (0 : Int) = 1; decide)
 | .mk t [v], ha => exact agE (qOc t v) (qQD t v) rfl (qB7 _)
 | .mk t (v :: w :: l), _ => exact agC 1 qH4 qHe qDu qFP (by show ¬ ((l.length + 1 + 1 : Nat) : Int) = 1; omega)
theorem qNu (a : Sl VT) (ha : ∀ x ∈ a.list, smV x) : Ag n_orelse a := by
 match a, ha with
 | .nil, _ => exact agC 2 qCe qCT qBj qCE (by show ¬ (0 : Int) = 2; decide)
 | .mk t [], _ => exact agC 2 qCe qCT qBj qCE (by show ¬ (0 : Int) = 2; decide)
 | .mk t [v], _ => exact agC 2 qCe qCT qBj qCE (by show ¬ (1 : Int) = 2; decide)
 | .mk t [v, w], ha => exact agO (qRi t v w (ha v (by simp [Sl.list])) (ha w (by simp [Sl.list]))) (qLs t v w) rfl (by show smV (orM v w); unfold orM; split; exact ha w (by simp [Sl.list]); exact ha v (by simp [Sl.list]))
 | .mk t (v :: w :: x :: l), _ => exact agC 2 qCe qCT qBj qCE (by show ¬ ((l.length + 1 + 1 + 1 : Nat) : Int) = 2; omega)
theorem qED (nm : List UInt8) (hl : nm.length ≤ 1000) (a : Sl VT) (ha : ∀ x ∈ a.list, smV x) (ht : Ag n_text a) : Ag nm a := by
 by_cases h : nm ∈ nmsL
 ·simp only [nmsL, List.mem_cons, List.not_mem_nil, or_false] at h
  rcases h with rfl | rfl | rfl | rfl | rfl | rfl | rfl | rfl | rfl | rfl | rfl | rfl | rfl | rfl | rfl | rfl | rfl | rfl | rfl | rfl | rfl | rfl | rfl
  ·exact qTj a ha
  ·exact qSd a ha
  ·exact qTr a ha
  ·exact qUq a ha
  ·exact qUn a ha
  ·exact qUo a ha
  ·exact qTo a ha
  ·exact qR8 a ha
  ·exact qTC a ha
  ·exact qSD a ha
  ·exact qTs a ha
  ·exact qT6 a ha
  ·exact qSj a ha
  ·exact qTe a ha
  ·exact qUO a ha
  ·exact qSC a ha
  ·exact qS8 a ha
  ·exact qSo a ha
  ·exact ht
  ·exact qUl a ha
  ·exact qSg a ha
  ·exact qS6 a ha
  ·exact qNu a ha
 ·exact agN hl h
open Go Go.AI
def decM : Nat → Nat → List UInt8
 | 0, _ => []
 | f + 1, n => if 10 ≤ n then decM f (n / 10) ++ [UInt8.ofNat (48 + n % 10)] else [UInt8.ofNat (48 + n)]
theorem qEr : ∀ (f n : Nat), n < 10 ^ f → (decM f n).length ≤ f
 | 0, n, _ => Nat.zero_le _
 | f + 1, n, h => by
  unfold decM
  split
  ·have := qEr f (n / 10) (by rw [Nat.pow_succ] at h; omega)
   simp; omega
  ·simp
theorem qT1 {β : Type} {O : Oracle} {h : Heap} {d : Nat} {k : TVal → Heap → Option β} (x : Int) : vop O (.bslice 1 1 [.p (.int .u8 0)] [(0, .k (kN .u8 x))] false) h d k = k (kSl 1 true [[.int .u8 x]]) h := qAa _ _ rfl
theorem qPm (m : Nat) (hm : m < 10) : Om 168 [kI (m : Int)] [] = some (kS [UInt8.ofNat (48 + m)], []) := by
 refine (qAA rfl).trans ?_
 show lim tab.get S 168 0 0 [kI (m : Int)] h0 = _
 have a1 : ¬ (m : Int) < 0 := by omega
 have a2 : (m : Int) < 10 := by omega
 have w1 : IntKind.i64.wrap (48 + (m : Int)) = 48 + (m : Int) := qAI _ (by omega) (by omega)
 have w2 : IntKind.u8.wrap (48 + (m : Int)) = 48 + (m : Int) := qAM .u8 _ (by show (0 : Int) ≤ _; omega) (by show _ ≤ (255 : Int); omega)
 have T : plan .nil (.toStr (.k (kSl 1 true [[.int .u8 (48 + (m : Int))]]))) = some (.pure (kS [UInt8.ofNat (48 + m)])) := by
  have : ∀ m : Nat, m < 10 → plan .nil (.toStr (.k (kSl 1 true [[.int .u8 (48 + (m : Int))]]))) = some (.pure (kS [UInt8.ofNat (48 + m)])) := by
   intro m hm
   match m, hm with
   | 0, _ => rfl
   | 1, _ => rfl
   | 2, _ => rfl
   | 3, _ => rfl
   | 4, _ => rfl
   | 5, _ => rfl
   | 6, _ => rfl
   | 7, _ => rfl
   | 8, _ => rfl
   | 9, _ => rfl
  exact this m hm
 rw [w168_0, b168_0]
 simp (maxSteps := 9999999) +contextual only [exa, ne_eq, not_false_eq_true, reduceAdd, reduceMul, reduceLT, reduceLeDiff, reduceEqDiff, Int.reduceLT, Int.reduceLE, Int.reduceEq, Int.reduceToNat, a1, a2, w1, w2, qT1, qAa _ _ T, oneOf]
theorem decN : ∀ (f n : Nat), n < 10 ^ (f + 1) → (n : Int) ≤ 9223372036854775807 → f ≤ 30 → Om 168 [kI (n : Int)] [] = some (kS (decM (f + 1) n), []) := by
 intro f
 induction f with
 | zero =>
  intro n h _ _
  unfold decM
  rw [if_neg (by omega)]
  exact qPm n (by omega)
 | succ f ih =>
  intro n h hn hf
  unfold decM
  by_cases h10 : 10 ≤ n
  ·rw [if_pos h10]
   have i1 := ih (n / 10) (by rw [Nat.pow_succ] at h; omega) (by omega) (by omega)
   have i2 := qPm (n % 10) (by omega)
   have c1 : CAL 168 [kI ((n / 10 : Nat) : Int)] (kS (decM (f + 1) (n / 10))) := qAB 168 _ _ rfl i1 rfl
   have c2 : CAL 168 [kI ((n % 10 : Nat) : Int)] (kS [UInt8.ofNat (48 + n % 10)]) := qAB 168 _ _ rfl i2 rfl
   have q1 : IntKind.i64.wrap ((n : Int).tdiv 10) = ((n / 10 : Nat) : Int) := by
    rw [Int.tdiv_eq_ediv_of_nonneg (by omega), qAI _ (by omega) (by omega)]; omega
   have q2 : (n : Int).tmod 10 = ((n % 10 : Nat) : Int) := by
    rw [Int.tmod_eq_emod_of_nonneg (by omega)]; omega
   have a1 : ¬ (n : Int) < 0 := by omega
   have a2 : ¬ (n : Int) < 10 := by omega
   have ll := qEr (f + 1) (n / 10) (by rw [Nat.pow_succ] at h; omega)
   have l1 : (decM (f + 1) (n / 10)).length + 1 ≤ 4611686018427387904 := by omega
   refine (qAA rfl).trans ?_
   show lim tab.get S 168 0 0 [kI (n : Int)] h0 = _
   rw [w168_0, b168_0]
   simp (maxSteps := 9999999) +contextual only [exa, ne_eq, not_false_eq_true, reduceAdd, reduceMul, reduceLT, reduceLeDiff, reduceEqDiff, Int.reduceLT, Int.reduceLE, Int.reduceEq, Int.reduceToNat, a1, a2, qBS 0 .i64 (n : Int) 10 (by decide), qAZ 0 .i64 (n : Int) 10 (by decide), q1, q2, c1, c2, l1, oneOf]
  ·rw [if_neg h10]
   exact qPm n (by omega)
theorem qCY : ∀ (f n : Nat), n < 10 ^ (f + 1) → Lib.decDigits n = decM (f + 1) n
 | 0, n, h => by
  have : n < 10 := by omega
  rw [Lib.decDigits, dif_pos this, decM, if_neg (by omega)]
 | f + 1, n, h => by
  rw [Lib.decDigits, decM]
  by_cases h10 : 10 ≤ n
  ·rw [dif_neg (by omega), if_pos h10, qCY f (n / 10) (by rw [Nat.pow_succ] at h; omega)]
  ·rw [dif_pos (by omega), if_neg h10]
theorem qJh (n : Nat) (hn : (n : Int) ≤ 9223372036854775807) : Om 168 [kI (n : Int)] [] = some (kS (Lib.decDigits n), []) := by
 have h : n < 10 ^ (19 + 1) := by
  have : (10 : Nat) ^ (19 + 1) = 100000000000000000000 := by decide
  omega
 rw [qCY 19 n h]
 exact decN 19 n h hn (by decide)
theorem qDC (n : Nat) (hn : (n : Int) ≤ 9223372036854775808) : (Lib.decDigits n).length ≤ 20 := by
 have h : n < 10 ^ (19 + 1) := by
  have : (10 : Nat) ^ (19 + 1) = 100000000000000000000 := by decide
  omega
 rw [qCY 19 n h]
 exact qEr _ _ h
theorem qTf (n : Int) (h1 : -9223372036854775808 ≤ n) (h2 : n ≤ 9223372036854775807) : Om 168 [kI n] [] = some (kS (Lib.itoa n), []) := by
 unfold Lib.itoa
 by_cases h0 : n < 0
 ·rw [if_pos h0]
  refine (qAA rfl).trans ?_
  show lim tab.get S 168 0 0 [kI n] Go.AI.h0 = _
  rw [w168_0, b168_0]
  by_cases hm : n = -9223372036854775808
  ·subst hm
   have e : Lib.decDigits (-9223372036854775808 : Int).natAbs = [57, 50, 50, 51, 51, 55, 50, 48, 51, 54, 56, 53, 52, 55, 55, 53, 56, 48, 56] := by
    rw [qCY 19 _ (by decide)]; decide +kernel
   rw [e]
   simp (maxSteps := 9999999) +contextual only [exa, ne_eq, not_false_eq_true, reduceAdd, reduceMul, reduceLT, reduceLeDiff, reduceEqDiff, Int.reduceLT, Int.reduceLE, Int.reduceEq, Int.reduceToNat, h0, oneOf]
  ·have w1 : IntKind.i64.wrap (0 - n) = ((n.natAbs : Nat) : Int) := by rw [qAI _ (by omega) (by omega)]; omega
   have c1 : CAL 168 [kI ((n.natAbs : Nat) : Int)] (kS (Lib.decDigits n.natAbs)) := qAB 168 _ _ rfl (qJh n.natAbs (by omega)) rfl
   have ll := qDC n.natAbs (by omega)
   have l1 : 1 + (Lib.decDigits n.natAbs).length ≤ 4611686018427387904 := by omega
   have l2 : 0 + 1 + (Lib.decDigits n.natAbs).length ≤ 4611686018427387904 := by omega
   simp (maxSteps := 9999999) +contextual only [exa, ne_eq, not_false_eq_true, reduceAdd, reduceMul, reduceLT, reduceLeDiff, reduceEqDiff, Int.reduceLT, Int.reduceLE, Int.reduceEq, Int.reduceToNat, h0, hm, w1, c1, l1, l2, oneOf]
   rfl
 ·rw [if_neg h0]
  have e : n = ((n.toNat : Nat) : Int) := by omega
  have := qJh n.toNat (by omega)
  rw [← e] at this
  exact this
open Go Go.AI
def opRow (n : Int) : List PVal := [.int .i64 3, .str [], .nilslice, .str [], .int .i64 n, .bool false, .nilslice]
theorem qHj (n : Int) (h1 : -9223372036854775808 ≤ n) (h2 : n ≤ 9223372036854775807) : (Lib.itoa n).length ≤ 21 := by
 unfold Lib.itoa
 split
 ·have := qDC n.natAbs (by omega); simp; omega
 ·have := qDC n.toNat (by omega); omega
theorem qUP (n : Int) (h1 : -9223372036854775808 ≤ n) (h2 : n ≤ 9223372036854775807) : Om 133 [kA (opRow n)] [] = some (kS (Lib.itoa n), []) := by
 have c1 : CAL 168 [kI n] (kS (Lib.itoa n)) := qAB 168 _ _ rfl (qTf n h1 h2) rfl
 refine (qAA rfl).trans ?_
 show lim tab.get S 133 0 0 [kA (opRow n)] h0 = _
 rw [w133_0, b133_0]
 have p0 : (opRow n)[0]? = some (.int .i64 3) := rfl
 have p4 : (opRow n)[4]? = some (.int .i64 n) := rfl
 simp (maxSteps := 9999999) +contextual only [exa, ne_eq, not_false_eq_true, reduceAdd, reduceMul, reduceLT, reduceLeDiff, reduceEqDiff, Int.reduceLT, Int.reduceLE, Int.reduceEq, Int.reduceToNat, p0, p4, c1, oneOf]
abbrev pipeP (n : Int) : TVal := kSl 1 true [[.slice 7 true [opRow n]]]
theorem qSs (n : Int) (h1 : -9223372036854775808 ≤ n) (h2 : n ≤ 9223372036854775807) : Om 70 [pipeP n] [] = some (kS (Lib.itoa n), []) := by
 have c1 : CAL 133 [kA (opRow n)] (kS (Lib.itoa n)) := qAB 133 _ _ (by simp only [exP]) (qUP n h1 h2) rfl
 have ll := qHj n h1 h2
 have l1 : (Lib.itoa n).length ≤ 4611686018427387904 := by omega
 have l0 : 0 + (Lib.itoa n).length ≤ 4611686018427387904 := by omega
 have r0 : ∀ a : List PVal, [a][(0 : Int).toNat]? = some a := fun _ => rfl
 have rl : ∀ {β : Type} {h : Heap} {k : TVal → Heap → Option β}, vload true 7 (.v (.c (.p (.pptr (opRow n) 0)))) h k = k (kA (opRow n)) h := qBV 7 _ rfl
 have w1 : IntKind.i64.wrap (0 + 1) = 1 := rfl
 have ff : ∀ h : Heap, vfin true 0 [.c (.p (.str (Lib.itoa n)))] h = some (kS (Lib.itoa n), []) := fun h => qAY _ _ rfl
 refine (qAA rfl).trans ?_
 show lim tab.get S 70 0 0 [pipeP n] h0 = _
 rw [w70_0, b70_0, w70_1, b70_1]
 simp (maxSteps := 9999999) +contextual only [exa, ne_eq, not_false_eq_true, reduceAdd, reduceMul, reduceLT, reduceLeDiff, reduceEqDiff, Int.reduceLT, Int.reduceLE, Int.reduceEq, Int.reduceToNat, qAU]
 rw [w70_2, b70_2, w70_3, b70_3]
 simp (maxSteps := 9999999) +contextual only [exa, ne_eq, not_false_eq_true, reduceAdd, reduceMul, reduceLT, reduceLeDiff, reduceEqDiff, Int.reduceLT, Int.reduceLE, Int.reduceEq, Int.reduceToNat, r0, qAU]
 rw [w70_4, b70_4]
 simp (maxSteps := 9999999) +contextual only [exa, ne_eq, not_false_eq_true, reduceAdd, reduceMul, reduceLT, reduceLeDiff, reduceEqDiff, Int.reduceLT, Int.reduceLE, Int.reduceEq, Int.reduceToNat, r0, rl, c1, l0, l1, List.nil_append, w1]
 rw [w70_3, b70_3]
 simp (maxSteps := 9999999) +contextual only [exa, ne_eq, not_false_eq_true, reduceAdd, reduceMul, reduceLT, reduceLeDiff, reduceEqDiff, Int.reduceLT, Int.reduceLE, Int.reduceEq, Int.reduceToNat, r0, qAU]
 rw [w70_5, b70_5]
 simp (maxSteps := 9999999) +contextual only [exa, ne_eq, not_false_eq_true, reduceAdd, reduceMul, reduceLT, reduceLeDiff, reduceEqDiff, Int.reduceLT, Int.reduceLE, Int.reduceEq, Int.reduceToNat, w1]
 rw [w70_1, b70_1]
 simp (maxSteps := 9999999) +contextual only [exa, ne_eq, not_false_eq_true, reduceAdd, reduceMul, reduceLT, reduceLeDiff, reduceEqDiff, Int.reduceLT, Int.reduceLE, Int.reduceEq, Int.reduceToNat, qAU, oneOf]
def trueS : List UInt8 := [116, 114, 117, 101]
def falseS : List UInt8 := [102, 97, 108, 115, 101]
theorem qNT (v : VT) (hk : v.kind = 1) : Om 21 [kA v.row] [] = some (kS (if v.b = true then trueS else falseS), []) := by
 refine (qAA rfl).trans ?_
 show lim tab.get S 21 0 0 [kA v.row] h0 = _
 rw [w21_0, b21_0]
 cases hb : v.b
 ·simp (maxSteps := 9999999) +contextual only [exa, ne_eq, not_false_eq_true, reduceAdd, reduceMul, reduceLT, reduceLeDiff, reduceEqDiff, Int.reduceLT, Int.reduceLE, Int.reduceEq, Int.reduceToNat, hk, hb, oneOf]
  rfl
 ·simp (maxSteps := 9999999) +contextual only [exa, ne_eq, not_false_eq_true, reduceAdd, reduceMul, reduceLT, reduceLeDiff, reduceEqDiff, Int.reduceLT, Int.reduceLE, Int.reduceEq, Int.reduceToNat, hk, hb, oneOf]
  rfl
theorem qPL (v : VT) (hk : v.kind = 2) (h1 : -9223372036854775808 ≤ v.n) (h2 : v.n ≤ 9223372036854775807) : Om 21 [kA v.row] [] = some (kS (Lib.itoa v.n), []) := by
 have c1 : CAL 70 [pipeP v.n] (kS (Lib.itoa v.n)) := qAB 70 _ _ rfl (qSs v.n h1 h2) rfl
 have b7 : ∀ {β : Type} {O : Oracle} {h : Heap} {d : Nat} {k : TVal → Heap → Option β}, vop O (.bslice 7 1 [.p (.int .i64 0), .p (.str []), .p .nilslice, .p (.str []), .p (.int .i64 0), .p (.bool false), .p .nilslice] [(0, .k (.v (.agg [.p (.int .i64 3), .p (.str []), .p .nilslice, .p (.str []), .p (.int .i64 v.n), .p (.bool false), .p .nilslice])))] false) h d k = k (kSl 7 true [opRow v.n]) h := qAa _ _ rfl
 have b1 : ∀ {β : Type} {O : Oracle} {h : Heap} {d : Nat} {k : TVal → Heap → Option β}, vop O (.bslice 1 1 [.p .nilslice] [(0, .k (.v (.agg [.p (.slice 7 true [opRow v.n])])))] false) h d k = k (pipeP v.n) h := qAa _ _ rfl
 refine (qAA rfl).trans ?_
 show lim tab.get S 21 0 0 [kA v.row] h0 = _
 rw [w21_0, b21_0]
 simp (maxSteps := 9999999) +contextual only [exa, ne_eq, not_false_eq_true, reduceAdd, reduceMul, reduceLT, reduceLeDiff, reduceEqDiff, Int.reduceLT, Int.reduceLE, Int.reduceEq, Int.reduceToNat, hk, b7, b1, c1, oneOf]
open Go Go.AI
theorem qUR {β : Type} {h : Heap} {k : TVal → Heap → Option β} (a : Int) : vbin .shr 0 (kN .u64 a) (kN .u64 32) h k = k (kN .u64 (a / 4294967296)) h := qAT _ _ _ _ _ (by
 show some (Cell.p (.int .u64 (a.fdiv (2 ^ (min ((32 : Int).toNat) 64))))) = _
 rw [show (2 : Int) ^ (min ((32 : Int).toNat) 64) = 4294967296 by decide, Int.fdiv_eq_ediv_of_nonneg _ (by decide)])
theorem qUp {β : Type} {h : Heap} {k : TVal → Heap → Option β} (a : Int) : vbin .shr 0 (kN .u64 a) (kN .u64 16) h k = k (kN .u64 (a / 65536)) h := qAT _ _ _ _ _ (by
 show some (Cell.p (.int .u64 (a.fdiv (2 ^ (min ((16 : Int).toNat) 64))))) = _
 rw [show (2 : Int) ^ (min ((16 : Int).toNat) 64) = 65536 by decide, Int.fdiv_eq_ediv_of_nonneg _ (by decide)])
theorem vsh8 {β : Type} {h : Heap} {k : TVal → Heap → Option β} (a : Int) : vbin .shr 0 (kN .u64 a) (kN .u64 8) h k = k (kN .u64 (a / 256)) h := qAT _ _ _ _ _ (by
 show some (Cell.p (.int .u64 (a.fdiv (2 ^ (min ((8 : Int).toNat) 64))))) = _
 rw [show (2 : Int) ^ (min ((8 : Int).toNat) 64) = 256 by decide, Int.fdiv_eq_ediv_of_nonneg _ (by decide)])
def len8L : List UInt8 := z0a4518d3
theorem qPY : (List.range 256).all (fun x => match len8L[x]? with | some b => (x == 0 && b == 0) || (decide (1 ≤ b.toNat) && decide (2 ^ (b.toNat - 1) ≤ x) && decide (x < 2 ^ b.toNat) && decide (b.toNat ≤ 8)) | none => false) = true := by decide +kernel
def IsLen (u : Int) (L : Nat) : Prop := (u = 0 ∧ L = 0) ∨ (1 ≤ L ∧ (2 : Int) ^ (L - 1) ≤ u ∧ u < 2 ^ L)
theorem qRL (x : Int) (h0 : 0 ≤ x) (h1 : x < 256) : ∃ b : UInt8, len8L[x.toNat]? = some b ∧ IsLen x b.toNat ∧ b.toNat ≤ 8 := by
 have h := List.all_eq_true.1 qPY x.toNat (List.mem_range.2 (by omega))
 revert h
 cases hb : len8L[x.toNat]? with
 | none => intro h; cases h
 | some b =>
  intro h
  refine ⟨b, rfl, ?_⟩
  simp only [Bool.or_eq_true, Bool.and_eq_true, beq_iff_eq, decide_eq_true_eq] at h
  rcases h with ⟨h2, h3⟩ | ⟨⟨⟨h2, h3⟩, h4⟩, h5⟩
  ·subst h3
   exact ⟨.inl ⟨by omega, rfl⟩, by decide⟩
  ·refine ⟨.inr ⟨h2, ?_, ?_⟩, h5⟩
   ·have : ((2 ^ (b.toNat - 1) : Nat) : Int) ≤ ((x.toNat : Nat) : Int) := by exact_mod_cast h3
    rw [Int.toNat_of_nonneg h0] at this
    simpa using this
   ·have : ((x.toNat : Nat) : Int) < ((2 ^ b.toNat : Nat) : Int) := by exact_mod_cast h4
    rw [Int.toNat_of_nonneg h0] at this
    simpa using this
theorem qPy (x : Int) (n : Nat) (h0 : 0 ≤ x) (h1 : x < 256) (hn : n ≤ 200) (h : Heap) : ∃ L : Nat, L ≤ 8 ∧ IsLen x L ∧ lim tab.get S 193 0 3 [kN .u64 x, kI (n : Int)] h = some (kI ((n + L : Nat) : Int), []) := by
 obtain ⟨b, hb, hl, h8⟩ := qRL x h0 h1
 refine ⟨b.toNat, h8, hl, ?_⟩
 have w1 : IntKind.u8.wrap x = x := qAM .u8 _ (by show (0 : Int) ≤ _; omega) (by show _ ≤ (255 : Int); omega)
 have w2 : IntKind.i64.wrap ((b.toNat : Nat) : Int) = ((b.toNat : Nat) : Int) := qAI _ (by omega) (by omega)
 have w3 : IntKind.i64.wrap ((n : Int) + ((b.toNat : Nat) : Int)) = ((n + b.toNat : Nat) : Int) := by rw [qAI _ (by omega) (by omega)]; omega
 have hx : ∀ {β : Type} {h : Heap} {k : TVal → Heap → Option β}, vindex (kS z0a4518d3) (kN .u8 x) h k = k (kU b) h := fun {β h k} => by
  obtain ⟨m, hm⟩ : ∃ m : Nat, x = m := ⟨x.toNat, by omega⟩
  subst hm
  show bnd (nthF len8L m) _ = _
  rw [qAh]
  rw [Int.toNat_natCast] at hb
  rw [hb]; rfl
 rw [w193_3, b193_3]
 simp (maxSteps := 9999999) +contextual only [exa, ne_eq, not_false_eq_true, reduceAdd, reduceMul, reduceLT, reduceLeDiff, reduceEqDiff, Int.reduceLT, Int.reduceLE, Int.reduceEq, Int.reduceToNat, w1, hx, w2, w3, oneOf]
theorem qRe {x : Int} {L : Nat} (hx : 256 ≤ x) (h : IsLen (x / 256) L) : IsLen x (L + 8) := by
 rcases h with ⟨h1, _⟩ | ⟨h1, h2, h3⟩
 ·omega
 ·refine .inr ⟨by omega, ?_, ?_⟩
  ·rw [show L + 8 - 1 = (L - 1) + 8 by omega, Int.pow_add, show (2 : Int) ^ 8 = 256 by decide]
   generalize (2 : Int) ^ (L - 1) = y at h2
   omega
  ·rw [Int.pow_add, show (2 : Int) ^ 8 = 256 by decide]
   generalize (2 : Int) ^ L = y at h3
   omega
theorem qOI {x : Int} {L : Nat} (hx : 65536 ≤ x) (h : IsLen (x / 65536) L) : IsLen x (L + 16) := by
 rcases h with ⟨h1, _⟩ | ⟨h1, h2, h3⟩
 ·omega
 ·refine .inr ⟨by omega, ?_, ?_⟩
  ·rw [show L + 16 - 1 = (L - 1) + 16 by omega, Int.pow_add, show (2 : Int) ^ 16 = 65536 by decide]
   generalize (2 : Int) ^ (L - 1) = y at h2
   omega
  ·rw [Int.pow_add, show (2 : Int) ^ 16 = 65536 by decide]
   generalize (2 : Int) ^ L = y at h3
   omega
theorem qOl {x : Int} {L : Nat} (hx : 4294967296 ≤ x) (h : IsLen (x / 4294967296) L) : IsLen x (L + 32) := by
 rcases h with ⟨h1, _⟩ | ⟨h1, h2, h3⟩
 ·omega
 ·refine .inr ⟨by omega, ?_, ?_⟩
  ·rw [show L + 32 - 1 = (L - 1) + 32 by omega, Int.pow_add, show (2 : Int) ^ 32 = 4294967296 by decide]
   generalize (2 : Int) ^ (L - 1) = y at h2
   omega
  ·rw [Int.pow_add, show (2 : Int) ^ 32 = 4294967296 by decide]
   generalize (2 : Int) ^ L = y at h3
   omega
theorem qP0 (x : Int) (n : Nat) (h0 : 0 ≤ x) (h1 : x < 65536) (hn : n ≤ 150) (h : Heap) : ∃ L : Nat, L ≤ 16 ∧ IsLen x L ∧ lim tab.get S 193 0 2 [kN .u64 x, kI (n : Int)] h = some (kI ((n + L : Nat) : Int), []) := by
 rw [w193_2, b193_2]
 by_cases hx : 256 ≤ x
 ·have hx' : ¬ x < 256 := by omega
  have w : IntKind.i64.wrap ((n : Int) + 8) = ((n + 8 : Nat) : Int) := by rw [qAI _ (by omega) (by omega)]; omega
  obtain ⟨L, h8, hl, e⟩ := qPy (x / 256) (n + 8) (by omega) (by omega) (by omega) h
  refine ⟨L + 8, by omega, qRe hx hl, ?_⟩
  simp (maxSteps := 9999999) +contextual only [exa, ne_eq, not_false_eq_true, reduceAdd, reduceMul, reduceLT, reduceLeDiff, reduceEqDiff, Int.reduceLT, Int.reduceLE, Int.reduceEq, Int.reduceToNat, hx', vsh8, w]
  refine e.trans ?_
  rw [show n + 8 + L = n + (L + 8) by omega]
 ·have hx' : x < 256 := by omega
  obtain ⟨L, h8, hl, e⟩ := qPy x n h0 hx' (by omega) h
  refine ⟨L, by omega, hl, ?_⟩
  simp (maxSteps := 9999999) +contextual only [exa, ne_eq, not_false_eq_true, reduceAdd, reduceMul, reduceLT, reduceLeDiff, reduceEqDiff, Int.reduceLT, Int.reduceLE, Int.reduceEq, Int.reduceToNat, hx']
  exact e
theorem qPx (x : Int) (n : Nat) (h0 : 0 ≤ x) (h1 : x < 4294967296) (hn : n ≤ 100) (h : Heap) : ∃ L : Nat, L ≤ 32 ∧ IsLen x L ∧ lim tab.get S 193 0 1 [kN .u64 x, kI (n : Int)] h = some (kI ((n + L : Nat) : Int), []) := by
 rw [w193_1, b193_1]
 by_cases hx : 65536 ≤ x
 ·have hx' : ¬ x < 65536 := by omega
  have w : IntKind.i64.wrap ((n : Int) + 16) = ((n + 16 : Nat) : Int) := by rw [qAI _ (by omega) (by omega)]; omega
  obtain ⟨L, h8, hl, e⟩ := qP0 (x / 65536) (n + 16) (by omega) (by omega) (by omega) h
  refine ⟨L + 16, by omega, qOI hx hl, ?_⟩
  simp (maxSteps := 9999999) +contextual only [exa, ne_eq, not_false_eq_true, reduceAdd, reduceMul, reduceLT, reduceLeDiff, reduceEqDiff, Int.reduceLT, Int.reduceLE, Int.reduceEq, Int.reduceToNat, hx', qUp, w]
  refine e.trans ?_
  rw [show n + 16 + L = n + (L + 16) by omega]
 ·have hx' : x < 65536 := by omega
  obtain ⟨L, h8, hl, e⟩ := qP0 x n h0 hx' (by omega) h
  refine ⟨L, by omega, hl, ?_⟩
  simp (maxSteps := 9999999) +contextual only [exa, ne_eq, not_false_eq_true, reduceAdd, reduceMul, reduceLT, reduceLeDiff, reduceEqDiff, Int.reduceLT, Int.reduceLE, Int.reduceEq, Int.reduceToNat, hx']
  exact e
theorem qUN (x : Int) (h0 : 0 ≤ x) (h1 : x < 18446744073709551616) : ∃ L : Nat, L ≤ 64 ∧ IsLen x L ∧ Om 193 [kN .u64 x] [] = some (kI (L : Int), []) := by
 have hs : Om 193 [kN .u64 x] [] = lim tab.get S 193 0 0 [kN .u64 x] Go.AI.h0 := qAA rfl
 rw [hs, w193_0, b193_0]
 by_cases hx : 4294967296 ≤ x
 ·have hx' : ¬ x < 4294967296 := by omega
  obtain ⟨L, h8, hl, e⟩ := qPx (x / 4294967296) 32 (by omega) (by omega) (by decide) Go.AI.h0
  refine ⟨L + 32, by omega, qOl hx hl, ?_⟩
  simp (maxSteps := 9999999) +contextual only [exa, ne_eq, not_false_eq_true, reduceAdd, reduceMul, reduceLT, reduceLeDiff, reduceEqDiff, Int.reduceLT, Int.reduceLE, Int.reduceEq, Int.reduceToNat, hx', qUR]
  refine e.trans ?_
  rw [Nat.add_comm]
 ·have hx' : x < 4294967296 := by omega
  obtain ⟨L, h8, hl, e⟩ := qPx x 0 h0 hx' (by decide) Go.AI.h0
  refine ⟨L, by omega, hl, ?_⟩
  simp (maxSteps := 9999999) +contextual only [exa, ne_eq, not_false_eq_true, reduceAdd, reduceMul, reduceLT, reduceLeDiff, reduceEqDiff, Int.reduceLT, Int.reduceLE, Int.reduceEq, Int.reduceToNat, hx']
  refine e.trans ?_
  rw [Nat.zero_add]
open Go Go.AI
def tenL (L : Nat) : Nat := L * 78913 / 262144
theorem qRE : (List.range 65).all (fun L => decide (tenL L < 20) && (decide (L = 0) || (decide (2 ^ L ≤ 10 ^ (tenL L + 1)) && (decide (tenL L = 0) || decide (10 ^ (tenL L - 1) ≤ 2 ^ (L - 1)))))) = true := by decide +kernel
theorem qTF (L : Nat) (hL : L ≤ 64) : Om 192 [kI (L : Int)] [] = some (kI (tenL L : Int), []) := by
 refine (qAA rfl).trans ?_
 show lim tab.get S 192 0 0 [kI (L : Int)] h0 = _
 have w : IntKind.i64.wrap ((L : Int) * 78913) = ((L * 78913 : Nat) : Int) := by rw [qAI _ (by omega) (by omega)]; omega
 have sh : ∀ {β : Type} {h : Heap} {k : TVal → Heap → Option β}, vbin .shr 0 (kI ((L * 78913 : Nat) : Int)) (kN .u64 18) h k = k (kI (tenL L : Int)) h := fun {β h k} => qAT _ _ _ _ _ (by
  show some (Cell.p (.int .i64 ((((L * 78913 : Nat) : Int)).fdiv (2 ^ (min ((18 : Int).toNat) 64))))) = _
  rw [show (2 : Int) ^ (min ((18 : Int).toNat) 64) = 262144 by decide, Int.fdiv_eq_ediv_of_nonneg _ (by decide)]
  unfold tenL
  rw [Int.natCast_ediv]; rfl)
 rw [w192_0, b192_0]
 simp (maxSteps := 9999999) +contextual only [exa, ne_eq, not_false_eq_true, reduceAdd, reduceMul, reduceLT, reduceLeDiff, reduceEqDiff, Int.reduceLT, Int.reduceLE, Int.reduceEq, Int.reduceToNat, w, sh, oneOf]
theorem qS4 (b : Bool) : Om 194 [kB b] [] = some (kI (if b = true then 1 else 0), []) := by
 refine (qAA rfl).trans ?_
 show lim tab.get S 194 0 0 [kB b] h0 = _
 rw [w194_0, b194_0]
 cases b
 ·simp (maxSteps := 9999999) +contextual only [exa, ne_eq, not_false_eq_true, reduceAdd, reduceMul, reduceLT, reduceLeDiff, reduceEqDiff, Int.reduceLT, Int.reduceLE, Int.reduceEq, Int.reduceToNat, oneOf]
  rfl
 ·simp (maxSteps := 9999999) +contextual only [exa, ne_eq, not_false_eq_true, reduceAdd, reduceMul, reduceLT, reduceLeDiff, reduceEqDiff, Int.reduceLT, Int.reduceLE, Int.reduceEq, Int.reduceToNat, oneOf]
  rfl
abbrev powR : List PVal := [.int .u64 1, .int .u64 10, .int .u64 100, .int .u64 1000, .int .u64 10000, .int .u64 100000, .int .u64 1000000, .int .u64 10000000, .int .u64 100000000, .int .u64 1000000000, .int .u64 10000000000, .int .u64 100000000000, .int .u64 1000000000000, .int .u64 10000000000000, .int .u64 100000000000000, .int .u64 1000000000000000, .int .u64 10000000000000000, .int .u64 100000000000000000, .int .u64 1000000000000000000, .int .u64 10000000000000000000]
theorem qS0 (t : Nat) (ht : t < 20) : powR[t]? = some (.int .u64 (10 ^ t)) := by
 match t, ht with
 | 0, _ => rfl
 | 1, _ => rfl
 | 2, _ => rfl
 | 3, _ => rfl
 | 4, _ => rfl
 | 5, _ => rfl
 | 6, _ => rfl
 | 7, _ => rfl
 | 8, _ => rfl
 | 9, _ => rfl
 | 10, _ => rfl
 | 11, _ => rfl
 | 12, _ => rfl
 | 13, _ => rfl
 | 14, _ => rfl
 | 15, _ => rfl
 | 16, _ => rfl
 | 17, _ => rfl
 | 18, _ => rfl
 | 19, _ => rfl
 | n + 20, h => exact absurd h (by omega)
theorem qIe {β : Type} {O : Oracle} {h : Heap} {d : Nat} {k : TVal → Heap → Option β} (n : Nat) (row : List PVal) (t : Nat) (ht : t < n) : vop O (.iaddrA n 1 (.k (.v (.c (.p (.pptr row 0))))) (.k (kI (t : Int)))) h d k = k (.v (.c (.p (.pptr row t)))) h := qAa _ _ (by
 show (if t < n then some (Plan.pure (.pv (.pptr row (0 + t * 1)))) else none) = _
 rw [if_pos ht, Nat.mul_one, Nat.zero_add])
theorem qML (u : Int) (h0 : 0 ≤ u) (h1 : u < 18446744073709551616) : ∃ N : Nat, N ≤ 20 ∧ u < 10 ^ N ∧ (u = 0 ∨ (1 ≤ N ∧ (10 : Int) ^ (N - 1) ≤ u)) ∧ Om 185 [kN .u64 u] [] = some (kI (N : Int), []) := by
 obtain ⟨L, hL, hl, e⟩ := qUN u h0 h1
 have c1 : CAL 193 [kN .u64 u] (kI (L : Int)) := qAB 193 _ _ rfl e rfl
 have c2 : CAL 192 [kI (L : Int)] (kI (tenL L : Int)) := qAB 192 _ _ rfl (qTF L hL) rfl
 have c3 : ∀ {β : Type} {k : TVal → Heap → Option β} {h : Heap} {d : Nat} (b : Bool), vcall Om (.v (.c (.func 194 []))) [kB b] h d k = k (kI (if b = true then 1 else 0)) h := fun b => qAB 194 _ _ rfl (qS4 b) rfl
 have hT := List.all_eq_true.1 qRE L (List.mem_range.2 (by omega))
 simp only [Bool.and_eq_true, Bool.or_eq_true, decide_eq_true_eq] at hT
 obtain ⟨t20, hT⟩ := hT
 have hp := qS0 (tenL L) t20
 have hs : Om 185 [kN .u64 u] [] = lim tab.get S 185 0 0 [kN .u64 u] Go.AI.h0 := qAA rfl
 by_cases hq : u < 10 ^ tenL L
 ·refine ⟨tenL L, by omega, hq, ?_, ?_⟩
  ·rcases hl with ⟨hl, _⟩ | ⟨l1, l2, l3⟩
   ·exact .inl hl
   ·refine .inr ?_
    rcases hT with hT | ⟨_, hT | hT⟩
    ·omega
    ·exfalso
     rw [hT] at hq
     have : (0 : Int) < 2 ^ (L - 1) := Int.pow_pos (by decide)
     have : (10 : Int) ^ 0 = 1 := rfl
     omega
    ·refine ⟨?_, ?_⟩
     ·rcases Nat.eq_zero_or_pos (tenL L) with hz | hz
      ·exfalso
       rw [hz] at hq
       have : (0 : Int) < 2 ^ (L - 1) := Int.pow_pos (by decide)
       have : (10 : Int) ^ 0 = 1 := rfl
       omega
      ·exact hz
     ·have : ((10 ^ (tenL L - 1) : Nat) : Int) ≤ ((2 ^ (L - 1) : Nat) : Int) := by exact_mod_cast hT
      rw [Int.natCast_pow, Int.natCast_pow] at this
      exact Int.le_trans this l2
  ·have w : IntKind.i64.wrap ((tenL L : Int) + 0) = (tenL L : Int) := by rw [qAI _ (by omega) (by omega)]; omega
   rw [hs, w185_0, b185_0]
   simp (maxSteps := 9999999) +contextual only [exa, ne_eq, not_false_eq_true, reduceAdd, reduceMul, reduceLT, reduceLeDiff, reduceEqDiff, Int.reduceLT, Int.reduceLE, Int.reduceEq, Int.reduceToNat, c1, c2, qIe 20 _ _ t20, hp, hq, c3, Bool.false_eq_true, if_false, w, oneOf]
 ·refine ⟨tenL L + 1, by omega, ?_, ?_, ?_⟩
  ·rcases hl with ⟨hl, hz⟩ | ⟨l1, l2, l3⟩
   ·rw [hl]; exact Int.pow_pos (by decide)
   ·rcases hT with hT | ⟨hT, _⟩
    ·omega
    ·have : ((2 ^ L : Nat) : Int) ≤ ((10 ^ (tenL L + 1) : Nat) : Int) := by exact_mod_cast hT
     rw [Int.natCast_pow, Int.natCast_pow] at this
     exact Int.lt_of_lt_of_le l3 this
  ·exact .inr ⟨by omega, by rw [Nat.add_sub_cancel]; omega⟩
  ·have w : IntKind.i64.wrap ((tenL L : Int) + 1) = ((tenL L + 1 : Nat) : Int) := by rw [qAI _ (by omega) (by omega)]; omega
   rw [hs, w185_0, b185_0]
   simp (maxSteps := 9999999) +contextual only [exa, ne_eq, not_false_eq_true, reduceAdd, reduceMul, reduceLT, reduceLeDiff, reduceEqDiff, Int.reduceLT, Int.reduceLE, Int.reduceEq, Int.reduceToNat, c1, c2, qIe 20 _ _ t20, hp, hq, c3, if_true, w, oneOf]
open Go Go.AI
def dig (x : Int) : Cell := .p (.int .u8 (48 + x % 10))
def wr : List Cell → Nat → Int → Nat → List Cell
 | cs, _, _, 0 => cs
 | cs, i, u, k + 1 => wr (cs.set i (dig u)) (i - 1) (u / 10) k
theorem qL9 : ∀ (k : Nat) (cs : List Cell) (i : Nat) (u : Int), (wr cs i u k).length = cs.length
 | 0, _, _, _ => rfl
 | k + 1, cs, i, u => by rw [wr, qL9 k, List.length_set]
theorem qAi (cs : List Cell) (i : Nat) (c : Cell) (hi : i < cs.length) : put1 cs i [c] = cs.set i c := by
 unfold put1 splice
 rw [List.set_eq_take_append_cons_drop, if_pos hi]
 simp
abbrev bufP (N : Nat) : TVal := .v (.c (.sref (.im 0) 1 N (some 23) 1))
def plainC (cs : List Cell) : Prop := ∃ xs, cs = pcells xs
theorem qHb (cs : List Cell) (h : Heap) (hp : plainC cs) (hg : h.get (.im 0) = some (.cells cs 0)) : vfin true 1 [] h = some (.tup [], [.cells cs 0]) := by
 obtain ⟨xs, rfl⟩ := hp
 exact qMI true [] _ rfl hg (qBp xs 0)
theorem fb4 (N i : Nat) (u : Int) (cs : List Cell) (h : Heap) (hp : plainC cs) (hl : cs.length = 24) (hg : h.get (.im 0) = some (.cells cs 0)) (hi : i ≤ 1) (hiN : i ≤ N) (hN : N ≤ 23) (h0 : 0 ≤ u) (h1 : u < 10 ^ i) :
  lim tab.get S 186 1 4 [bufP N, kI (i : Int), kN .u32 u] h = some (.tup [], [.cells (wr cs i u i) 0]) := by
 rw [w186_4, b186_4]
 rcases Nat.le_one_iff_eq_zero_or_eq_one.1 hi with rfl | rfl
 ·have a : ¬ (0 : Int) < ((0 : Nat) : Int) := by omega
  simp (maxSteps := 9999999) +contextual only [exa, ne_eq, not_false_eq_true, reduceAdd, reduceMul, reduceLT, reduceLeDiff, reduceEqDiff, Int.reduceLT, Int.reduceLE, Int.reduceEq, Int.reduceToNat, a]
  exact qHb cs h hp hg
 ·have a : (0 : Int) < ((1 : Nat) : Int) := by omega
  have hu : u < 10 := by simpa using h1
  have w1 : IntKind.u32.wrap (48 + u) = 48 + u := qAM .u32 _ (by show (0 : Int) ≤ _; omega) (by show _ ≤ (4294967295 : Int); omega)
  have w2 : IntKind.u8.wrap (48 + u) = 48 + u := qAM .u8 _ (by show (0 : Int) ≤ _; omega) (by show _ ≤ (255 : Int); omega)
  have hN0 : 0 < N := by omega
  have P : put1 cs 1 [.p (.int .u8 (48 + u))] = wr cs 1 u 1 := by
   rw [qAi _ _ _ (by omega)]
   show _ = cs.set 1 (dig u)
   unfold dig
   rw [Int.emod_eq_of_lt h0 hu]
  have hp2 : plainC (wr cs 1 u 1) := by
   obtain ⟨xs, rfl⟩ := hp
   refine ⟨xs.set 1 (.int .u8 (48 + u % 10)), ?_⟩
   show (pcells xs).set 1 (dig u) = _
   unfold pcells dig
   rw [List.map_set]
  simp (maxSteps := 9999999) +contextual only [exa, ne_eq, not_false_eq_true, reduceAdd, reduceMul, reduceLT, reduceLeDiff, reduceEqDiff, Int.reduceLT, Int.reduceLE, Int.reduceEq, Int.reduceToNat, a, w1, w2, hN0, hg, hl, P]
  exact qHb _ _ hp2 (qAW h 0 _ _ (by rw [hg]; rfl))
open Go Go.AI
def pairL : List UInt8 := z53fdd7c2
theorem qHR : (List.range 100).all (fun q => (pairL[q * 2]? == some (UInt8.ofNat (48 + q / 10))) && (pairL[q * 2 + 1]? == some (UInt8.ofNat (48 + q % 10)))) = true := by decide +kernel
theorem qBt {β : Type} {h : Heap} {k : TVal → Heap → Option β} (K : IntKind) (x : Int) (h0 : 0 ≤ x) (h1 : x < 100) : vindex (kS z53fdd7c2) (kN K (x * 2 + 1)) h k = k (.v (.c (dig x))) h := by
 obtain ⟨q, rfl⟩ : ∃ q : Nat, x = q := ⟨x.toNat, by omega⟩
 have h := List.all_eq_true.1 qHR q (List.mem_range.2 (by omega))
 simp only [Bool.and_eq_true, beq_iff_eq] at h
 show bnd (nthF pairL (q * 2 + 1)) _ = _
 rw [qAh, h.2]
 show k (kU (UInt8.ofNat (48 + q % 10))) _ = _
 unfold dig
 show k (.v (.c (.p (.int .u8 ((UInt8.ofNat (48 + q % 10)).toNat : Int))))) _ = _
 rw [UInt8.toNat_ofNat', Nat.mod_eq_of_lt (by omega)]
 congr 5
theorem qB8 {β : Type} {h : Heap} {k : TVal → Heap → Option β} (K : IntKind) (x : Int) (h0 : 0 ≤ x) (h1 : x < 100) : vindex (kS z53fdd7c2) (kN K (x * 2)) h k = k (.v (.c (dig (x / 10)))) h := by
 obtain ⟨q, rfl⟩ : ∃ q : Nat, x = q := ⟨x.toNat, by omega⟩
 have h := List.all_eq_true.1 qHR q (List.mem_range.2 (by omega))
 simp only [Bool.and_eq_true, beq_iff_eq] at h
 show bnd (nthF pairL (q * 2)) _ = _
 rw [qAh, h.1]
 show k (.v (.c (.p (.int .u8 ((UInt8.ofNat (48 + q / 10)).toNat : Int))))) _ = _
 rw [UInt8.toNat_ofNat', Nat.mod_eq_of_lt (by omega)]
 unfold dig
 have e : ((48 + q / 10 : Nat) : Int) = 48 + (q : Int) / 10 % 10 := by omega
 rw [e]
theorem qAe {cs : List Cell} (hp : plainC cs) (i : Nat) (x : Int) : plainC (cs.set i (dig x)) := by
 obtain ⟨xs, rfl⟩ := hp
 exact ⟨xs.set i (.int .u8 (48 + x % 10)), by unfold pcells dig; rw [List.map_set]⟩
theorem qII : ∀ (k : Nat) (cs : List Cell) (i : Nat) (u : Int), plainC cs → plainC (wr cs i u k)
 | 0, _, _, _, h => h
 | k + 1, cs, i, u, h => qII k _ _ _ (qAe h i u)
theorem qQP (u : Int) (m : Int) (hm : (10 : Int) ∣ m) : dig (u % m) = dig u := by
 unfold dig
 rw [Int.emod_emod_of_dvd _ hm]
theorem fb3 (N i : Nat) (u : Int) (cs : List Cell) (h : Heap) (hp : plainC cs) (hl : cs.length = 24) (hg : h.get (.im 0) = some (.cells cs 0)) (hi : i ≤ 3) (hiN : i ≤ N) (hN : N ≤ 23) (h0 : 0 ≤ u) (h1 : u < 10 ^ i) :
  lim tab.get S 186 1 3 [bufP N, kI (i : Int), kN .u32 u] h = some (.tup [], [.cells (wr cs i u i) 0]) := by
 rw [w186_3, b186_3]
 have hu : u < 1000 := by
  have hi' : i = 0 ∨ i = 1 ∨ i = 2 ∨ i = 3 := by omega
  rcases hi' with rfl | rfl | rfl | rfl <;> simp at h1 <;> omega
 by_cases h2 : 2 ≤ i
 ·have a : ¬ (i : Int) < 2 := by omega
  have e1 : u.tmod 100 = u % 100 := Int.tmod_eq_emod_of_nonneg h0
  have e2 : u.tdiv 100 = u / 100 := Int.tdiv_eq_ediv_of_nonneg h0
  have w1 : IntKind.u32.wrap (u % 100 * 2) = u % 100 * 2 := qAM .u32 _ (by show (0 : Int) ≤ _; omega) (by show _ ≤ (4294967295 : Int); omega)
  have w2 : IntKind.u32.wrap (u % 100 * 2 + 1) = u % 100 * 2 + 1 := qAM .u32 _ (by show (0 : Int) ≤ _; omega) (by show _ ≤ (4294967295 : Int); omega)
  have w3 : IntKind.u32.wrap (u / 100) = u / 100 := qAM .u32 _ (by show (0 : Int) ≤ _; omega) (by show _ ≤ (4294967295 : Int); omega)
  have v1 : IntKind.i64.wrap ((i : Int) - 1) = ((i - 1 : Nat) : Int) := by rw [qAI _ (by omega) (by omega)]; omega
  have v2 : IntKind.i64.wrap ((i : Int) - 2) = ((i - 2 : Nat) : Int) := by rw [qAI _ (by omega) (by omega)]; omega
  have l1 : i - 1 < N := by omega
  have l2 : i - 2 < N := by omega
  have n1 : ((i - 1 : Nat) : Int).toNat = i - 1 := Int.toNat_natCast _
  have n2 : ((i - 2 : Nat) : Int).toNat = i - 2 := Int.toNat_natCast _
  have g1 : (0 : Int) ≤ ((i - 1 : Nat) : Int) := by omega
  have g2 : (0 : Int) ≤ ((i - 2 : Nat) : Int) := by omega
  have P1 : put1 cs (1 + (i - 1)) [dig (u % 100)] = cs.set i (dig u) := by
   rw [qAi _ _ _ (by omega), qQP u 100 (by decide), show 1 + (i - 1) = i by omega]
  have P2 : put1 (cs.set i (dig u)) (1 + (i - 2)) [dig (u % 100 / 10)] = (cs.set i (dig u)).set (i - 1) (dig (u / 10)) := by
   rw [qAi _ _ _ (by rw [List.length_set]; omega), show 1 + (i - 2) = i - 1 by omega]
   congr 1
   unfold dig
   have : u % 100 / 10 % 10 = u / 10 % 10 := by omega
   rw [this]
  have b1 : 1 + (i - 1) + 1 ≤ 24 := by omega
  have b2 : 1 + (i - 2) + 1 ≤ 24 := by omega
  have hgs : ∀ (h : Heap) (c : List Cell), (h.get (.im 0)).isSome = true → (h.put (.im 0) (.cells c 0)).get (.im 0) = some (.cells c 0) := fun h c x => qAW h 0 c 0 x
  have s1 : (h.get (.im 0)).isSome = true := by rw [hg]; rfl
  have q1 : (h.put (.im 0) (.cells (cs.set i (dig u)) 0)).get (.im 0) = some (.cells (cs.set i (dig u)) 0) := hgs _ _ s1
  have q2 : ((h.put (.im 0) (.cells (cs.set i (dig u)) 0)).put (.im 0) (.cells ((cs.set i (dig u)).set (i - 1) (dig (u / 10))) 0)).get (.im 0) = some (.cells ((cs.set i (dig u)).set (i - 1) (dig (u / 10))) 0) := hgs _ _ (by rw [q1]; rfl)
  simp (maxSteps := 9999999) +contextual only [exa, ne_eq, not_false_eq_true, reduceAdd, reduceMul, reduceLT, reduceLeDiff, reduceEqDiff, Int.reduceLT, Int.reduceLE, Int.reduceEq, Int.reduceToNat, a, qAZ 0 .u32 u 100 (by decide), qBS 0 .u32 u 100 (by decide), e1, e2, w1, w2, w3, v1, v2, qBt .u32 (u % 100) (by omega) (by omega), qB8 .u32 (u % 100) (by omega) (by omega), l1, l2, n1, n2, g1, g2, hg, hl, List.length_set, Nat.mul_one, Nat.zero_le, P1, P2, b1, b2, q1]
  have r : wr cs i u i = wr ((cs.set i (dig u)).set (i - 1) (dig (u / 10))) (i - 2) (u / 100) (i - 2) := by
   obtain ⟨m, rfl⟩ : ∃ m, i = m + 2 := ⟨i - 2, by omega⟩
   rw [wr, wr, Int.ediv_ediv_of_nonneg (by decide)]
   rfl
  rw [r]
  refine fb4 N (i - 2) (u / 100) _ _ (qAe (qAe hp _ _) _ _) (by rw [List.length_set, List.length_set]; exact hl) q2 (by omega) (by omega) hN (by omega) ?_
  have hi' : i = 2 ∨ i = 3 := by omega
  rcases hi' with rfl | rfl
  ·simp at h1 ⊢; omega
  ·simp at h1 ⊢; omega
 ·have a : (i : Int) < 2 := by omega
  simp (maxSteps := 9999999) +contextual only [exa, ne_eq, not_false_eq_true, reduceAdd, reduceMul, reduceLT, reduceLeDiff, reduceEqDiff, Int.reduceLT, Int.reduceLE, Int.reduceEq, Int.reduceToNat, a]
  exact fb4 N i u cs h hp hl hg (by omega) hiN hN h0 h1
open Go Go.AI
theorem qBY {x y : Int} (h : x % 10 = y % 10) : dig x = dig y := by unfold dig; rw [h]
theorem fb2 (N i : Nat) (u : Int) (cs : List Cell) (h : Heap) (hp : plainC cs) (hl : cs.length = 24) (hg : h.get (.im 0) = some (.cells cs 0)) (hi : i ≤ 7) (hiN : i ≤ N) (hN : N ≤ 23) (h0 : 0 ≤ u) (h1 : u < 10 ^ i) :
  lim tab.get S 186 1 2 [bufP N, kN .u64 u, kI (i : Int)] h = some (.tup [], [.cells (wr cs i u i) 0]) := by
 rw [w186_2, b186_2]
 have hu : u < 10000000 := by
  have hi' : i = 0 ∨ i = 1 ∨ i = 2 ∨ i = 3 ∨ i = 4 ∨ i = 5 ∨ i = 6 ∨ i = 7 := by omega
  rcases hi' with rfl | rfl | rfl | rfl | rfl | rfl | rfl | rfl <;> simp at h1 <;> omega
 have w0 : IntKind.u32.wrap u = u := qAM .u32 _ (by show (0 : Int) ≤ _; omega) (by show _ ≤ (4294967295 : Int); omega)
 by_cases h2 : 4 ≤ i
 ·have a : ¬ (i : Int) < 4 := by omega
  have e1 : u.tmod 10000 = u % 10000 := Int.tmod_eq_emod_of_nonneg h0
  have e2 : u.tdiv 10000 = u / 10000 := Int.tdiv_eq_ediv_of_nonneg h0
  have e3 : (u % 10000).tdiv 100 = u % 10000 / 100 := Int.tdiv_eq_ediv_of_nonneg (by omega)
  have e4 : (u % 10000).tmod 100 = u % 10000 % 100 := Int.tmod_eq_emod_of_nonneg (by omega)
  have w1 : IntKind.u32.wrap (u / 10000) = u / 10000 := qAM .u32 _ (by show (0 : Int) ≤ _; omega) (by show _ ≤ (4294967295 : Int); omega)
  have w2 : IntKind.u32.wrap (u % 10000 / 100) = u % 10000 / 100 := qAM .u32 _ (by show (0 : Int) ≤ _; omega) (by show _ ≤ (4294967295 : Int); omega)
  have w3 : IntKind.u32.wrap (u % 10000 / 100 * 2) = u % 10000 / 100 * 2 := qAM .u32 _ (by show (0 : Int) ≤ _; omega) (by show _ ≤ (4294967295 : Int); omega)
  have w4 : IntKind.u32.wrap (u % 10000 / 100 * 2 + 1) = u % 10000 / 100 * 2 + 1 := qAM .u32 _ (by show (0 : Int) ≤ _; omega) (by show _ ≤ (4294967295 : Int); omega)
  have w5 : IntKind.u32.wrap (u % 10000 % 100 * 2) = u % 10000 % 100 * 2 := qAM .u32 _ (by show (0 : Int) ≤ _; omega) (by show _ ≤ (4294967295 : Int); omega)
  have w6 : IntKind.u32.wrap (u % 10000 % 100 * 2 + 1) = u % 10000 % 100 * 2 + 1 := qAM .u32 _ (by show (0 : Int) ≤ _; omega) (by show _ ≤ (4294967295 : Int); omega)
  have v1 : IntKind.i64.wrap ((i : Int) - 1) = ((i - 1 : Nat) : Int) := by rw [qAI _ (by omega) (by omega)]; omega
  have l1 : i - 1 < N := by omega
  have n1 : ((i - 1 : Nat) : Int).toNat = i - 1 := Int.toNat_natCast _
  have g1 : (0 : Int) ≤ ((i - 1 : Nat) : Int) := by omega
  have b1 : 1 + (i - 1) + 1 ≤ 24 := by omega
  have v2 : IntKind.i64.wrap ((i : Int) - 2) = ((i - 2 : Nat) : Int) := by rw [qAI _ (by omega) (by omega)]; omega
  have l2 : i - 2 < N := by omega
  have n2 : ((i - 2 : Nat) : Int).toNat = i - 2 := Int.toNat_natCast _
  have g2 : (0 : Int) ≤ ((i - 2 : Nat) : Int) := by omega
  have b2 : 1 + (i - 2) + 1 ≤ 24 := by omega
  have v3 : IntKind.i64.wrap ((i : Int) - 3) = ((i - 3 : Nat) : Int) := by rw [qAI _ (by omega) (by omega)]; omega
  have l3 : i - 3 < N := by omega
  have n3 : ((i - 3 : Nat) : Int).toNat = i - 3 := Int.toNat_natCast _
  have g3 : (0 : Int) ≤ ((i - 3 : Nat) : Int) := by omega
  have b3 : 1 + (i - 3) + 1 ≤ 24 := by omega
  have v4 : IntKind.i64.wrap ((i : Int) - 4) = ((i - 4 : Nat) : Int) := by rw [qAI _ (by omega) (by omega)]; omega
  have l4 : i - 4 < N := by omega
  have n4 : ((i - 4 : Nat) : Int).toNat = i - 4 := Int.toNat_natCast _
  have g4 : (0 : Int) ≤ ((i - 4 : Nat) : Int) := by omega
  have b4 : 1 + (i - 4) + 1 ≤ 24 := by omega
  have P1 : put1 cs (1 + (i - 1)) [dig (u % 10000 % 100)] = (cs.set i (dig (u))) := by
   rw [qAi _ _ _ (by omega), show 1 + (i - 1) = i by omega, qBY (show (u % 10000 % 100) % 10 = (u) % 10 by omega)]
  have P2 : put1 (cs.set i (dig (u))) (1 + (i - 2)) [dig (u % 10000 % 100 / 10)] = ((cs.set i (dig (u))).set (i - 1) (dig (u / 10))) := by
   rw [qAi _ _ _ (by simp only [List.length_set]; omega), show 1 + (i - 2) = (i - 1) by omega, qBY (show (u % 10000 % 100 / 10) % 10 = (u / 10) % 10 by omega)]
  have P3 : put1 ((cs.set i (dig (u))).set (i - 1) (dig (u / 10))) (1 + (i - 3)) [dig (u % 10000 / 100)] = (((cs.set i (dig (u))).set (i - 1) (dig (u / 10))).set (i - 2) (dig (u / 10 / 10))) := by
   rw [qAi _ _ _ (by simp only [List.length_set]; omega), show 1 + (i - 3) = (i - 2) by omega, qBY (show (u % 10000 / 100) % 10 = (u / 10 / 10) % 10 by omega)]
  have P4 : put1 (((cs.set i (dig (u))).set (i - 1) (dig (u / 10))).set (i - 2) (dig (u / 10 / 10))) (1 + (i - 4)) [dig (u % 10000 / 100 / 10)] = ((((cs.set i (dig (u))).set (i - 1) (dig (u / 10))).set (i - 2) (dig (u / 10 / 10))).set (i - 3) (dig (u / 10 / 10 / 10))) := by
   rw [qAi _ _ _ (by simp only [List.length_set]; omega), show 1 + (i - 4) = (i - 3) by omega, qBY (show (u % 10000 / 100 / 10) % 10 = (u / 10 / 10 / 10) % 10 by omega)]
  have q1 : (h.put (.im 0) (.cells (cs.set i (dig (u))) 0)).get (.im 0) = some (.cells (cs.set i (dig (u))) 0) := qAW h 0 _ _ (by rw [hg]; rfl)
  have q2 : ((h.put (.im 0) (.cells (cs.set i (dig (u))) 0)).put (.im 0) (.cells ((cs.set i (dig (u))).set (i - 1) (dig (u / 10))) 0)).get (.im 0) = some (.cells ((cs.set i (dig (u))).set (i - 1) (dig (u / 10))) 0) := qAW (h.put (.im 0) (.cells (cs.set i (dig (u))) 0)) 0 _ _ (by rw [q1]; rfl)
  have q3 : (((h.put (.im 0) (.cells (cs.set i (dig (u))) 0)).put (.im 0) (.cells ((cs.set i (dig (u))).set (i - 1) (dig (u / 10))) 0)).put (.im 0) (.cells (((cs.set i (dig (u))).set (i - 1) (dig (u / 10))).set (i - 2) (dig (u / 10 / 10))) 0)).get (.im 0) = some (.cells (((cs.set i (dig (u))).set (i - 1) (dig (u / 10))).set (i - 2) (dig (u / 10 / 10))) 0) := qAW ((h.put (.im 0) (.cells (cs.set i (dig (u))) 0)).put (.im 0) (.cells ((cs.set i (dig (u))).set (i - 1) (dig (u / 10))) 0)) 0 _ _ (by rw [q2]; rfl)
  have q4 : ((((h.put (.im 0) (.cells (cs.set i (dig (u))) 0)).put (.im 0) (.cells ((cs.set i (dig (u))).set (i - 1) (dig (u / 10))) 0)).put (.im 0) (.cells (((cs.set i (dig (u))).set (i - 1) (dig (u / 10))).set (i - 2) (dig (u / 10 / 10))) 0)).put (.im 0) (.cells ((((cs.set i (dig (u))).set (i - 1) (dig (u / 10))).set (i - 2) (dig (u / 10 / 10))).set (i - 3) (dig (u / 10 / 10 / 10))) 0)).get (.im 0) = some (.cells ((((cs.set i (dig (u))).set (i - 1) (dig (u / 10))).set (i - 2) (dig (u / 10 / 10))).set (i - 3) (dig (u / 10 / 10 / 10))) 0) := qAW (((h.put (.im 0) (.cells (cs.set i (dig (u))) 0)).put (.im 0) (.cells ((cs.set i (dig (u))).set (i - 1) (dig (u / 10))) 0)).put (.im 0) (.cells (((cs.set i (dig (u))).set (i - 1) (dig (u / 10))).set (i - 2) (dig (u / 10 / 10))) 0)) 0 _ _ (by rw [q3]; rfl)
  simp (maxSteps := 9999999) +contextual only [exa, ne_eq, not_false_eq_true, reduceAdd, reduceMul, reduceLT, reduceLeDiff, reduceEqDiff, Int.reduceLT, Int.reduceLE, Int.reduceEq, Int.reduceToNat, a, w0, qAZ 0 .u32 u 10000 (by decide), qBS 0 .u32 u 10000 (by decide), qAZ 0 .u32 (u % 10000) 100 (by decide), qBS 0 .u32 (u % 10000) 100 (by decide), e1, e2, e3, e4, w1, w2, w3, w4, w5, w6, v1, v2, v3, v4, qBt .u32 (u % 10000 % 100) (by omega) (by omega), qB8 .u32 (u % 10000 % 100) (by omega) (by omega), qBt .u32 (u % 10000 / 100) (by omega) (by omega), qB8 .u32 (u % 10000 / 100) (by omega) (by omega), l1, l2, l3, l4, n1, n2, n3, n4, g1, g2, g3, g4, hg, hl, List.length_set, Nat.mul_one, Nat.zero_le, P1, P2, P3, P4, b1, b2, b3, b4, q1, q2, q3]
  have r : wr cs i u i = wr ((((cs.set i (dig (u))).set (i - 1) (dig (u / 10))).set (i - 2) (dig (u / 10 / 10))).set (i - 3) (dig (u / 10 / 10 / 10))) (i - 4) (u / 10000) (i - 4) := by
   obtain ⟨m, rfl⟩ : ∃ m, i = m + 4 := ⟨i - 4, by omega⟩
   rw [wr, wr, wr, wr]
   have : u / 10 / 10 / 10 / 10 = u / 10000 := by omega
   rw [this]
   rfl
  rw [r]
  refine fb3 N (i - 4) (u / 10000) _ _ (qAe (qAe (qAe (qAe hp _ _) _ _) _ _) _ _) (by simp only [List.length_set]; exact hl) q4 (by omega) (by omega) hN (by omega) ?_
  have hi' : i = 4 ∨ i = 5 ∨ i = 6 ∨ i = 7 := by omega
  rcases hi' with rfl | rfl | rfl | rfl
  ·simp at h1 ⊢; omega
  ·simp at h1 ⊢; omega
  ·simp at h1 ⊢; omega
  ·simp at h1 ⊢; omega
 ·have a : (i : Int) < 4 := by omega
  simp (maxSteps := 9999999) +contextual only [exa, ne_eq, not_false_eq_true, reduceAdd, reduceMul, reduceLT, reduceLeDiff, reduceEqDiff, Int.reduceLT, Int.reduceLE, Int.reduceEq, Int.reduceToNat, a, w0]
  exact fb3 N i u cs h hp hl hg (by omega) hiN hN h0 h1
open Go Go.AI
set_option maxHeartbeats 4000000 in
theorem fb1 (N : Nat) (hN : N ≤ 23) : ∀ (m i : Nat), i < m → ∀ (u : Int) (cs : List Cell) (h : Heap), plainC cs → cs.length = 24 → h.get (.im 0) = some (.cells cs 0) → i ≤ N → 0 ≤ u → u < 18446744073709551616 → u < 10 ^ i →
  lim tab.get S 186 1 1 [bufP N, kN .u64 u, kI (i : Int)] h = some (.tup [], [.cells (wr cs i u i) 0]) := by
 intro m
 induction m with
 | zero => intro i h; omega
 | succ m ih =>
 intro i him u cs h hp hl hg hiN h0 hu h1
 rw [w186_1, b186_1]
 by_cases h2 : 8 ≤ i
 ·have a : ¬ (i : Int) < 8 := by omega
  have e1 : u.tmod 100000000 = u % 100000000 := Int.tmod_eq_emod_of_nonneg h0
  have e2 : u.tdiv 100000000 = u / 100000000 := Int.tdiv_eq_ediv_of_nonneg h0
  have e3 : (u % 100000000).tdiv 10000 = u % 100000000 / 10000 := Int.tdiv_eq_ediv_of_nonneg (by omega)
  have e4 : (u % 100000000).tmod 10000 = u % 100000000 % 10000 := Int.tmod_eq_emod_of_nonneg (by omega)
  have e5 : (u % 100000000 % 10000).tdiv 100 = u % 100000000 % 10000 / 100 := Int.tdiv_eq_ediv_of_nonneg (by omega)
  have e6 : (u % 100000000 % 10000).tmod 100 = u % 100000000 % 10000 % 100 := Int.tmod_eq_emod_of_nonneg (by omega)
  have e7 : (u % 100000000 / 10000).tdiv 100 = u % 100000000 / 10000 / 100 := Int.tdiv_eq_ediv_of_nonneg (by omega)
  have e8 : (u % 100000000 / 10000).tmod 100 = u % 100000000 / 10000 % 100 := Int.tmod_eq_emod_of_nonneg (by omega)
  have w0 : IntKind.u64.wrap (u / 100000000) = u / 100000000 := qB1 _ (by omega) (by omega)
  have w1 : IntKind.u32.wrap (u % 100000000) = u % 100000000 := qAM .u32 _ (by show (0 : Int) ≤ _; omega) (by show _ ≤ (4294967295 : Int); omega)
  have w2 : IntKind.u32.wrap (u % 100000000 / 10000) = u % 100000000 / 10000 := qAM .u32 _ (by show (0 : Int) ≤ _; omega) (by show _ ≤ (4294967295 : Int); omega)
  have w3 : IntKind.u32.wrap (u % 100000000 % 10000 / 100) = u % 100000000 % 10000 / 100 := qAM .u32 _ (by show (0 : Int) ≤ _; omega) (by show _ ≤ (4294967295 : Int); omega)
  have w4 : IntKind.u32.wrap (u % 100000000 / 10000 / 100) = u % 100000000 / 10000 / 100 := qAM .u32 _ (by show (0 : Int) ≤ _; omega) (by show _ ≤ (4294967295 : Int); omega)
  have w5 : IntKind.u32.wrap (u % 100000000 % 10000 % 100 * 2) = u % 100000000 % 10000 % 100 * 2 := qAM .u32 _ (by show (0 : Int) ≤ _; omega) (by show _ ≤ (4294967295 : Int); omega)
  have w6 : IntKind.u32.wrap (u % 100000000 % 10000 % 100 * 2 + 1) = u % 100000000 % 10000 % 100 * 2 + 1 := qAM .u32 _ (by show (0 : Int) ≤ _; omega) (by show _ ≤ (4294967295 : Int); omega)
  have w7 : IntKind.u32.wrap (u % 100000000 % 10000 / 100 * 2) = u % 100000000 % 10000 / 100 * 2 := qAM .u32 _ (by show (0 : Int) ≤ _; omega) (by show _ ≤ (4294967295 : Int); omega)
  have w8 : IntKind.u32.wrap (u % 100000000 % 10000 / 100 * 2 + 1) = u % 100000000 % 10000 / 100 * 2 + 1 := qAM .u32 _ (by show (0 : Int) ≤ _; omega) (by show _ ≤ (4294967295 : Int); omega)
  have w9 : IntKind.u32.wrap (u % 100000000 / 10000 % 100 * 2) = u % 100000000 / 10000 % 100 * 2 := qAM .u32 _ (by show (0 : Int) ≤ _; omega) (by show _ ≤ (4294967295 : Int); omega)
  have w10 : IntKind.u32.wrap (u % 100000000 / 10000 % 100 * 2 + 1) = u % 100000000 / 10000 % 100 * 2 + 1 := qAM .u32 _ (by show (0 : Int) ≤ _; omega) (by show _ ≤ (4294967295 : Int); omega)
  have w11 : IntKind.u32.wrap (u % 100000000 / 10000 / 100 * 2) = u % 100000000 / 10000 / 100 * 2 := qAM .u32 _ (by show (0 : Int) ≤ _; omega) (by show _ ≤ (4294967295 : Int); omega)
  have w12 : IntKind.u32.wrap (u % 100000000 / 10000 / 100 * 2 + 1) = u % 100000000 / 10000 / 100 * 2 + 1 := qAM .u32 _ (by show (0 : Int) ≤ _; omega) (by show _ ≤ (4294967295 : Int); omega)
  have v1 : IntKind.i64.wrap ((i : Int) - 1) = ((i - 1 : Nat) : Int) := by rw [qAI _ (by omega) (by omega)]; omega
  have l1 : i - 1 < N := by omega
  have n1 : ((i - 1 : Nat) : Int).toNat = i - 1 := Int.toNat_natCast _
  have g1 : (0 : Int) ≤ ((i - 1 : Nat) : Int) := by omega
  have b1 : 1 + (i - 1) + 1 ≤ 24 := by omega
  have v2 : IntKind.i64.wrap ((i : Int) - 2) = ((i - 2 : Nat) : Int) := by rw [qAI _ (by omega) (by omega)]; omega
  have l2 : i - 2 < N := by omega
  have n2 : ((i - 2 : Nat) : Int).toNat = i - 2 := Int.toNat_natCast _
  have g2 : (0 : Int) ≤ ((i - 2 : Nat) : Int) := by omega
  have b2 : 1 + (i - 2) + 1 ≤ 24 := by omega
  have v3 : IntKind.i64.wrap ((i : Int) - 3) = ((i - 3 : Nat) : Int) := by rw [qAI _ (by omega) (by omega)]; omega
  have l3 : i - 3 < N := by omega
  have n3 : ((i - 3 : Nat) : Int).toNat = i - 3 := Int.toNat_natCast _
  have g3 : (0 : Int) ≤ ((i - 3 : Nat) : Int) := by omega
  have b3 : 1 + (i - 3) + 1 ≤ 24 := by omega
  have v4 : IntKind.i64.wrap ((i : Int) - 4) = ((i - 4 : Nat) : Int) := by rw [qAI _ (by omega) (by omega)]; omega
  have l4 : i - 4 < N := by omega
  have n4 : ((i - 4 : Nat) : Int).toNat = i - 4 := Int.toNat_natCast _
  have g4 : (0 : Int) ≤ ((i - 4 : Nat) : Int) := by omega
  have b4 : 1 + (i - 4) + 1 ≤ 24 := by omega
  have v5 : IntKind.i64.wrap ((i : Int) - 5) = ((i - 5 : Nat) : Int) := by rw [qAI _ (by omega) (by omega)]; omega
  have l5 : i - 5 < N := by omega
  have n5 : ((i - 5 : Nat) : Int).toNat = i - 5 := Int.toNat_natCast _
  have g5 : (0 : Int) ≤ ((i - 5 : Nat) : Int) := by omega
  have b5 : 1 + (i - 5) + 1 ≤ 24 := by omega
  have v6 : IntKind.i64.wrap ((i : Int) - 6) = ((i - 6 : Nat) : Int) := by rw [qAI _ (by omega) (by omega)]; omega
  have l6 : i - 6 < N := by omega
  have n6 : ((i - 6 : Nat) : Int).toNat = i - 6 := Int.toNat_natCast _
  have g6 : (0 : Int) ≤ ((i - 6 : Nat) : Int) := by omega
  have b6 : 1 + (i - 6) + 1 ≤ 24 := by omega
  have v7 : IntKind.i64.wrap ((i : Int) - 7) = ((i - 7 : Nat) : Int) := by rw [qAI _ (by omega) (by omega)]; omega
  have l7 : i - 7 < N := by omega
  have n7 : ((i - 7 : Nat) : Int).toNat = i - 7 := Int.toNat_natCast _
  have g7 : (0 : Int) ≤ ((i - 7 : Nat) : Int) := by omega
  have b7 : 1 + (i - 7) + 1 ≤ 24 := by omega
  have v8 : IntKind.i64.wrap ((i : Int) - 8) = ((i - 8 : Nat) : Int) := by rw [qAI _ (by omega) (by omega)]; omega
  have l8 : i - 8 < N := by omega
  have n8 : ((i - 8 : Nat) : Int).toNat = i - 8 := Int.toNat_natCast _
  have g8 : (0 : Int) ≤ ((i - 8 : Nat) : Int) := by omega
  have b8 : 1 + (i - 8) + 1 ≤ 24 := by omega
  have P1 : put1 cs (1 + (i - 1)) [dig (u % 100000000 % 10000 % 100)] = (cs.set i (dig (u))) := by
   rw [qAi _ _ _ (by omega), show 1 + (i - 1) = i by omega, qBY (show (u % 100000000 % 10000 % 100) % 10 = (u) % 10 by omega)]
  have P2 : put1 (cs.set i (dig (u))) (1 + (i - 2)) [dig (u % 100000000 % 10000 % 100 / 10)] = ((cs.set i (dig (u))).set (i - 1) (dig (u / 10))) := by
   rw [qAi _ _ _ (by simp only [List.length_set]; omega), show 1 + (i - 2) = (i - 1) by omega, qBY (show (u % 100000000 % 10000 % 100 / 10) % 10 = (u / 10) % 10 by omega)]
  have P3 : put1 ((cs.set i (dig (u))).set (i - 1) (dig (u / 10))) (1 + (i - 3)) [dig (u % 100000000 % 10000 / 100)] = (((cs.set i (dig (u))).set (i - 1) (dig (u / 10))).set (i - 2) (dig (u / 10 / 10))) := by
   rw [qAi _ _ _ (by simp only [List.length_set]; omega), show 1 + (i - 3) = (i - 2) by omega, qBY (show (u % 100000000 % 10000 / 100) % 10 = (u / 10 / 10) % 10 by omega)]
  have P4 : put1 (((cs.set i (dig (u))).set (i - 1) (dig (u / 10))).set (i - 2) (dig (u / 10 / 10))) (1 + (i - 4)) [dig (u % 100000000 % 10000 / 100 / 10)] = ((((cs.set i (dig (u))).set (i - 1) (dig (u / 10))).set (i - 2) (dig (u / 10 / 10))).set (i - 3) (dig (u / 10 / 10 / 10))) := by
   rw [qAi _ _ _ (by simp only [List.length_set]; omega), show 1 + (i - 4) = (i - 3) by omega, qBY (show (u % 100000000 % 10000 / 100 / 10) % 10 = (u / 10 / 10 / 10) % 10 by omega)]
  have P5 : put1 ((((cs.set i (dig (u))).set (i - 1) (dig (u / 10))).set (i - 2) (dig (u / 10 / 10))).set (i - 3) (dig (u / 10 / 10 / 10))) (1 + (i - 5)) [dig (u % 100000000 / 10000 % 100)] = (((((cs.set i (dig (u))).set (i - 1) (dig (u / 10))).set (i - 2) (dig (u / 10 / 10))).set (i - 3) (dig (u / 10 / 10 / 10))).set (i - 4) (dig (u / 10 / 10 / 10 / 10))) := by
   rw [qAi _ _ _ (by simp only [List.length_set]; omega), show 1 + (i - 5) = (i - 4) by omega, qBY (show (u % 100000000 / 10000 % 100) % 10 = (u / 10 / 10 / 10 / 10) % 10 by omega)]
  have P6 : put1 (((((cs.set i (dig (u))).set (i - 1) (dig (u / 10))).set (i - 2) (dig (u / 10 / 10))).set (i - 3) (dig (u / 10 / 10 / 10))).set (i - 4) (dig (u / 10 / 10 / 10 / 10))) (1 + (i - 6)) [dig (u % 100000000 / 10000 % 100 / 10)] = ((((((cs.set i (dig (u))).set (i - 1) (dig (u / 10))).set (i - 2) (dig (u / 10 / 10))).set (i - 3) (dig (u / 10 / 10 / 10))).set (i - 4) (dig (u / 10 / 10 / 10 / 10))).set (i - 5) (dig (u / 10 / 10 / 10 / 10 / 10))) := by
   rw [qAi _ _ _ (by simp only [List.length_set]; omega), show 1 + (i - 6) = (i - 5) by omega, qBY (show (u % 100000000 / 10000 % 100 / 10) % 10 = (u / 10 / 10 / 10 / 10 / 10) % 10 by omega)]
  have P7 : put1 ((((((cs.set i (dig (u))).set (i - 1) (dig (u / 10))).set (i - 2) (dig (u / 10 / 10))).set (i - 3) (dig (u / 10 / 10 / 10))).set (i - 4) (dig (u / 10 / 10 / 10 / 10))).set (i - 5) (dig (u / 10 / 10 / 10 / 10 / 10))) (1 + (i - 7)) [dig (u % 100000000 / 10000 / 100)] = (((((((cs.set i (dig (u))).set (i - 1) (dig (u / 10))).set (i - 2) (dig (u / 10 / 10))).set (i - 3) (dig (u / 10 / 10 / 10))).set (i - 4) (dig (u / 10 / 10 / 10 / 10))).set (i - 5) (dig (u / 10 / 10 / 10 / 10 / 10))).set (i - 6) (dig (u / 10 / 10 / 10 / 10 / 10 / 10))) := by
   rw [qAi _ _ _ (by simp only [List.length_set]; omega), show 1 + (i - 7) = (i - 6) by omega, qBY (show (u % 100000000 / 10000 / 100) % 10 = (u / 10 / 10 / 10 / 10 / 10 / 10) % 10 by omega)]
  have P8 : put1 (((((((cs.set i (dig (u))).set (i - 1) (dig (u / 10))).set (i - 2) (dig (u / 10 / 10))).set (i - 3) (dig (u / 10 / 10 / 10))).set (i - 4) (dig (u / 10 / 10 / 10 / 10))).set (i - 5) (dig (u / 10 / 10 / 10 / 10 / 10))).set (i - 6) (dig (u / 10 / 10 / 10 / 10 / 10 / 10))) (1 + (i - 8)) [dig (u % 100000000 / 10000 / 100 / 10)] = ((((((((cs.set i (dig (u))).set (i - 1) (dig (u / 10))).set (i - 2) (dig (u / 10 / 10))).set (i - 3) (dig (u / 10 / 10 / 10))).set (i - 4) (dig (u / 10 / 10 / 10 / 10))).set (i - 5) (dig (u / 10 / 10 / 10 / 10 / 10))).set (i - 6) (dig (u / 10 / 10 / 10 / 10 / 10 / 10))).set (i - 7) (dig (u / 10 / 10 / 10 / 10 / 10 / 10 / 10))) := by
   rw [qAi _ _ _ (by simp only [List.length_set]; omega), show 1 + (i - 8) = (i - 7) by omega, qBY (show (u % 100000000 / 10000 / 100 / 10) % 10 = (u / 10 / 10 / 10 / 10 / 10 / 10 / 10) % 10 by omega)]
  have q1 : (h.put (.im 0) (.cells (cs.set i (dig (u))) 0)).get (.im 0) = some (.cells (cs.set i (dig (u))) 0) := qAW h 0 _ _ (by rw [hg]; rfl)
  have q2 : ((h.put (.im 0) (.cells (cs.set i (dig (u))) 0)).put (.im 0) (.cells ((cs.set i (dig (u))).set (i - 1) (dig (u / 10))) 0)).get (.im 0) = some (.cells ((cs.set i (dig (u))).set (i - 1) (dig (u / 10))) 0) := qAW (h.put (.im 0) (.cells (cs.set i (dig (u))) 0)) 0 _ _ (by rw [q1]; rfl)
  have q3 : (((h.put (.im 0) (.cells (cs.set i (dig (u))) 0)).put (.im 0) (.cells ((cs.set i (dig (u))).set (i - 1) (dig (u / 10))) 0)).put (.im 0) (.cells (((cs.set i (dig (u))).set (i - 1) (dig (u / 10))).set (i - 2) (dig (u / 10 / 10))) 0)).get (.im 0) = some (.cells (((cs.set i (dig (u))).set (i - 1) (dig (u / 10))).set (i - 2) (dig (u / 10 / 10))) 0) := qAW ((h.put (.im 0) (.cells (cs.set i (dig (u))) 0)).put (.im 0) (.cells ((cs.set i (dig (u))).set (i - 1) (dig (u / 10))) 0)) 0 _ _ (by rw [q2]; rfl)
  have q4 : ((((h.put (.im 0) (.cells (cs.set i (dig (u))) 0)).put (.im 0) (.cells ((cs.set i (dig (u))).set (i - 1) (dig (u / 10))) 0)).put (.im 0) (.cells (((cs.set i (dig (u))).set (i - 1) (dig (u / 10))).set (i - 2) (dig (u / 10 / 10))) 0)).put (.im 0) (.cells ((((cs.set i (dig (u))).set (i - 1) (dig (u / 10))).set (i - 2) (dig (u / 10 / 10))).set (i - 3) (dig (u / 10 / 10 / 10))) 0)).get (.im 0) = some (.cells ((((cs.set i (dig (u))).set (i - 1) (dig (u / 10))).set (i - 2) (dig (u / 10 / 10))).set (i - 3) (dig (u / 10 / 10 / 10))) 0) := qAW (((h.put (.im 0) (.cells (cs.set i (dig (u))) 0)).put (.im 0) (.cells ((cs.set i (dig (u))).set (i - 1) (dig (u / 10))) 0)).put (.im 0) (.cells (((cs.set i (dig (u))).set (i - 1) (dig (u / 10))).set (i - 2) (dig (u / 10 / 10))) 0)) 0 _ _ (by rw [q3]; rfl)
  have q5 : (((((h.put (.im 0) (.cells (cs.set i (dig (u))) 0)).put (.im 0) (.cells ((cs.set i (dig (u))).set (i - 1) (dig (u / 10))) 0)).put (.im 0) (.cells (((cs.set i (dig (u))).set (i - 1) (dig (u / 10))).set (i - 2) (dig (u / 10 / 10))) 0)).put (.im 0) (.cells ((((cs.set i (dig (u))).set (i - 1) (dig (u / 10))).set (i - 2) (dig (u / 10 / 10))).set (i - 3) (dig (u / 10 / 10 / 10))) 0)).put (.im 0) (.cells (((((cs.set i (dig (u))).set (i - 1) (dig (u / 10))).set (i - 2) (dig (u / 10 / 10))).set (i - 3) (dig (u / 10 / 10 / 10))).set (i - 4) (dig (u / 10 / 10 / 10 / 10))) 0)).get (.im 0) = some (.cells (((((cs.set i (dig (u))).set (i - 1) (dig (u / 10))).set (i - 2) (dig (u / 10 / 10))).set (i - 3) (dig (u / 10 / 10 / 10))).set (i - 4) (dig (u / 10 / 10 / 10 / 10))) 0) := qAW ((((h.put (.im 0) (.cells (cs.set i (dig (u))) 0)).put (.im 0) (.cells ((cs.set i (dig (u))).set (i - 1) (dig (u / 10))) 0)).put (.im 0) (.cells (((cs.set i (dig (u))).set (i - 1) (dig (u / 10))).set (i - 2) (dig (u / 10 / 10))) 0)).put (.im 0) (.cells ((((cs.set i (dig (u))).set (i - 1) (dig (u / 10))).set (i - 2) (dig (u / 10 / 10))).set (i - 3) (dig (u / 10 / 10 / 10))) 0)) 0 _ _ (by rw [q4]; rfl)
  have q6 : ((((((h.put (.im 0) (.cells (cs.set i (dig (u))) 0)).put (.im 0) (.cells ((cs.set i (dig (u))).set (i - 1) (dig (u / 10))) 0)).put (.im 0) (.cells (((cs.set i (dig (u))).set (i - 1) (dig (u / 10))).set (i - 2) (dig (u / 10 / 10))) 0)).put (.im 0) (.cells ((((cs.set i (dig (u))).set (i - 1) (dig (u / 10))).set (i - 2) (dig (u / 10 / 10))).set (i - 3) (dig (u / 10 / 10 / 10))) 0)).put (.im 0) (.cells (((((cs.set i (dig (u))).set (i - 1) (dig (u / 10))).set (i - 2) (dig (u / 10 / 10))).set (i - 3) (dig (u / 10 / 10 / 10))).set (i - 4) (dig (u / 10 / 10 / 10 / 10))) 0)).put (.im 0) (.cells ((((((cs.set i (dig (u))).set (i - 1) (dig (u / 10))).set (i - 2) (dig (u / 10 / 10))).set (i - 3) (dig (u / 10 / 10 / 10))).set (i - 4) (dig (u / 10 / 10 / 10 / 10))).set (i - 5) (dig (u / 10 / 10 / 10 / 10 / 10))) 0)).get (.im 0) = some (.cells ((((((cs.set i (dig (u))).set (i - 1) (dig (u / 10))).set (i - 2) (dig (u / 10 / 10))).set (i - 3) (dig (u / 10 / 10 / 10))).set (i - 4) (dig (u / 10 / 10 / 10 / 10))).set (i - 5) (dig (u / 10 / 10 / 10 / 10 / 10))) 0) := qAW (((((h.put (.im 0) (.cells (cs.set i (dig (u))) 0)).put (.im 0) (.cells ((cs.set i (dig (u))).set (i - 1) (dig (u / 10))) 0)).put (.im 0) (.cells (((cs.set i (dig (u))).set (i - 1) (dig (u / 10))).set (i - 2) (dig (u / 10 / 10))) 0)).put (.im 0) (.cells ((((cs.set i (dig (u))).set (i - 1) (dig (u / 10))).set (i - 2) (dig (u / 10 / 10))).set (i - 3) (dig (u / 10 / 10 / 10))) 0)).put (.im 0) (.cells (((((cs.set i (dig (u))).set (i - 1) (dig (u / 10))).set (i - 2) (dig (u / 10 / 10))).set (i - 3) (dig (u / 10 / 10 / 10))).set (i - 4) (dig (u / 10 / 10 / 10 / 10))) 0)) 0 _ _ (by rw [q5]; rfl)
  have q7 : (((((((h.put (.im 0) (.cells (cs.set i (dig (u))) 0)).put (.im 0) (.cells ((cs.set i (dig (u))).set (i - 1) (dig (u / 10))) 0)).put (.im 0) (.cells (((cs.set i (dig (u))).set (i - 1) (dig (u / 10))).set (i - 2) (dig (u / 10 / 10))) 0)).put (.im 0) (.cells ((((cs.set i (dig (u))).set (i - 1) (dig (u / 10))).set (i - 2) (dig (u / 10 / 10))).set (i - 3) (dig (u / 10 / 10 / 10))) 0)).put (.im 0) (.cells (((((cs.set i (dig (u))).set (i - 1) (dig (u / 10))).set (i - 2) (dig (u / 10 / 10))).set (i - 3) (dig (u / 10 / 10 / 10))).set (i - 4) (dig (u / 10 / 10 / 10 / 10))) 0)).put (.im 0) (.cells ((((((cs.set i (dig (u))).set (i - 1) (dig (u / 10))).set (i - 2) (dig (u / 10 / 10))).set (i - 3) (dig (u / 10 / 10 / 10))).set (i - 4) (dig (u / 10 / 10 / 10 / 10))).set (i - 5) (dig (u / 10 / 10 / 10 / 10 / 10))) 0)).put (.im 0) (.cells (((((((cs.set i (dig (u))).set (i - 1) (dig (u / 10))).set (i - 2) (dig (u / 10 / 10))).set (i - 3) (dig (u / 10 / 10 / 10))).set (i - 4) (dig (u / 10 / 10 / 10 / 10))).set (i - 5) (dig (u / 10 / 10 / 10 / 10 / 10))).set (i - 6) (dig (u / 10 / 10 / 10 / 10 / 10 / 10))) 0)).get (.im 0) = some (.cells (((((((cs.set i (dig (u))).set (i - 1) (dig (u / 10))).set (i - 2) (dig (u / 10 / 10))).set (i - 3) (dig (u / 10 / 10 / 10))).set (i - 4) (dig (u / 10 / 10 / 10 / 10))).set (i - 5) (dig (u / 10 / 10 / 10 / 10 / 10))).set (i - 6) (dig (u / 10 / 10 / 10 / 10 / 10 / 10))) 0) := qAW ((((((h.put (.im 0) (.cells (cs.set i (dig (u))) 0)).put (.im 0) (.cells ((cs.set i (dig (u))).set (i - 1) (dig (u / 10))) 0)).put (.im 0) (.cells (((cs.set i (dig (u))).set (i - 1) (dig (u / 10))).set (i - 2) (dig (u / 10 / 10))) 0)).put (.im 0) (.cells ((((cs.set i (dig (u))).set (i - 1) (dig (u / 10))).set (i - 2) (dig (u / 10 / 10))).set (i - 3) (dig (u / 10 / 10 / 10))) 0)).put (.im 0) (.cells (((((cs.set i (dig (u))).set (i - 1) (dig (u / 10))).set (i - 2) (dig (u / 10 / 10))).set (i - 3) (dig (u / 10 / 10 / 10))).set (i - 4) (dig (u / 10 / 10 / 10 / 10))) 0)).put (.im 0) (.cells ((((((cs.set i (dig (u))).set (i - 1) (dig (u / 10))).set (i - 2) (dig (u / 10 / 10))).set (i - 3) (dig (u / 10 / 10 / 10))).set (i - 4) (dig (u / 10 / 10 / 10 / 10))).set (i - 5) (dig (u / 10 / 10 / 10 / 10 / 10))) 0)) 0 _ _ (by rw [q6]; rfl)
  have q8 : ((((((((h.put (.im 0) (.cells (cs.set i (dig (u))) 0)).put (.im 0) (.cells ((cs.set i (dig (u))).set (i - 1) (dig (u / 10))) 0)).put (.im 0) (.cells (((cs.set i (dig (u))).set (i - 1) (dig (u / 10))).set (i - 2) (dig (u / 10 / 10))) 0)).put (.im 0) (.cells ((((cs.set i (dig (u))).set (i - 1) (dig (u / 10))).set (i - 2) (dig (u / 10 / 10))).set (i - 3) (dig (u / 10 / 10 / 10))) 0)).put (.im 0) (.cells (((((cs.set i (dig (u))).set (i - 1) (dig (u / 10))).set (i - 2) (dig (u / 10 / 10))).set (i - 3) (dig (u / 10 / 10 / 10))).set (i - 4) (dig (u / 10 / 10 / 10 / 10))) 0)).put (.im 0) (.cells ((((((cs.set i (dig (u))).set (i - 1) (dig (u / 10))).set (i - 2) (dig (u / 10 / 10))).set (i - 3) (dig (u / 10 / 10 / 10))).set (i - 4) (dig (u / 10 / 10 / 10 / 10))).set (i - 5) (dig (u / 10 / 10 / 10 / 10 / 10))) 0)).put (.im 0) (.cells (((((((cs.set i (dig (u))).set (i - 1) (dig (u / 10))).set (i - 2) (dig (u / 10 / 10))).set (i - 3) (dig (u / 10 / 10 / 10))).set (i - 4) (dig (u / 10 / 10 / 10 / 10))).set (i - 5) (dig (u / 10 / 10 / 10 / 10 / 10))).set (i - 6) (dig (u / 10 / 10 / 10 / 10 / 10 / 10))) 0)).put (.im 0) (.cells ((((((((cs.set i (dig (u))).set (i - 1) (dig (u / 10))).set (i - 2) (dig (u / 10 / 10))).set (i - 3) (dig (u / 10 / 10 / 10))).set (i - 4) (dig (u / 10 / 10 / 10 / 10))).set (i - 5) (dig (u / 10 / 10 / 10 / 10 / 10))).set (i - 6) (dig (u / 10 / 10 / 10 / 10 / 10 / 10))).set (i - 7) (dig (u / 10 / 10 / 10 / 10 / 10 / 10 / 10))) 0)).get (.im 0) = some (.cells ((((((((cs.set i (dig (u))).set (i - 1) (dig (u / 10))).set (i - 2) (dig (u / 10 / 10))).set (i - 3) (dig (u / 10 / 10 / 10))).set (i - 4) (dig (u / 10 / 10 / 10 / 10))).set (i - 5) (dig (u / 10 / 10 / 10 / 10 / 10))).set (i - 6) (dig (u / 10 / 10 / 10 / 10 / 10 / 10))).set (i - 7) (dig (u / 10 / 10 / 10 / 10 / 10 / 10 / 10))) 0) := qAW (((((((h.put (.im 0) (.cells (cs.set i (dig (u))) 0)).put (.im 0) (.cells ((cs.set i (dig (u))).set (i - 1) (dig (u / 10))) 0)).put (.im 0) (.cells (((cs.set i (dig (u))).set (i - 1) (dig (u / 10))).set (i - 2) (dig (u / 10 / 10))) 0)).put (.im 0) (.cells ((((cs.set i (dig (u))).set (i - 1) (dig (u / 10))).set (i - 2) (dig (u / 10 / 10))).set (i - 3) (dig (u / 10 / 10 / 10))) 0)).put (.im 0) (.cells (((((cs.set i (dig (u))).set (i - 1) (dig (u / 10))).set (i - 2) (dig (u / 10 / 10))).set (i - 3) (dig (u / 10 / 10 / 10))).set (i - 4) (dig (u / 10 / 10 / 10 / 10))) 0)).put (.im 0) (.cells ((((((cs.set i (dig (u))).set (i - 1) (dig (u / 10))).set (i - 2) (dig (u / 10 / 10))).set (i - 3) (dig (u / 10 / 10 / 10))).set (i - 4) (dig (u / 10 / 10 / 10 / 10))).set (i - 5) (dig (u / 10 / 10 / 10 / 10 / 10))) 0)).put (.im 0) (.cells (((((((cs.set i (dig (u))).set (i - 1) (dig (u / 10))).set (i - 2) (dig (u / 10 / 10))).set (i - 3) (dig (u / 10 / 10 / 10))).set (i - 4) (dig (u / 10 / 10 / 10 / 10))).set (i - 5) (dig (u / 10 / 10 / 10 / 10 / 10))).set (i - 6) (dig (u / 10 / 10 / 10 / 10 / 10 / 10))) 0)) 0 _ _ (by rw [q7]; rfl)
  simp (maxSteps := 9999999) +contextual only [exa, ne_eq, not_false_eq_true, reduceAdd, reduceMul, reduceLT, reduceLeDiff, reduceEqDiff, Int.reduceLT, Int.reduceLE, Int.reduceEq, Int.reduceToNat, a, qAZ 0 .u64 u 100000000 (by decide), qBS 0 .u64 u 100000000 (by decide), qAZ 0 .u32 (u % 100000000) 10000 (by decide), qBS 0 .u32 (u % 100000000) 10000 (by decide), qAZ 0 .u32 (u % 100000000 % 10000) 100 (by decide), qBS 0 .u32 (u % 100000000 % 10000) 100 (by decide), qAZ 0 .u32 (u % 100000000 / 10000) 100 (by decide), qBS 0 .u32 (u % 100000000 / 10000) 100 (by decide), e1, e2, e3, e4, e5, e6, e7, e8, w0, w1, w2, w3, w4, w5, w6, w7, w8, w9, w10, w11, w12, v1, v2, v3, v4, v5, v6, v7, v8, qBt .u32 (u % 100000000 % 10000 % 100) (by omega) (by omega), qB8 .u32 (u % 100000000 % 10000 % 100) (by omega) (by omega), qBt .u32 (u % 100000000 % 10000 / 100) (by omega) (by omega), qB8 .u32 (u % 100000000 % 10000 / 100) (by omega) (by omega), qBt .u32 (u % 100000000 / 10000 % 100) (by omega) (by omega), qB8 .u32 (u % 100000000 / 10000 % 100) (by omega) (by omega), qBt .u32 (u % 100000000 / 10000 / 100) (by omega) (by omega), qB8 .u32 (u % 100000000 / 10000 / 100) (by omega) (by omega), l1, l2, l3, l4, l5, l6, l7, l8, n1, n2, n3, n4, n5, n6, n7, n8, g1, g2, g3, g4, g5, g6, g7, g8, hg, hl, List.length_set, Nat.mul_one, Nat.zero_le, P1, P2, P3, P4, P5, P6, P7, P8, b1, b2, b3, b4, b5, b6, b7, b8, q1, q2, q3, q4, q5, q6, q7]
  have r : wr cs i u i = wr ((((((((cs.set i (dig (u))).set (i - 1) (dig (u / 10))).set (i - 2) (dig (u / 10 / 10))).set (i - 3) (dig (u / 10 / 10 / 10))).set (i - 4) (dig (u / 10 / 10 / 10 / 10))).set (i - 5) (dig (u / 10 / 10 / 10 / 10 / 10))).set (i - 6) (dig (u / 10 / 10 / 10 / 10 / 10 / 10))).set (i - 7) (dig (u / 10 / 10 / 10 / 10 / 10 / 10 / 10))) (i - 8) (u / 100000000) (i - 8) := by
   obtain ⟨m, rfl⟩ : ∃ m, i = m + 8 := ⟨i - 8, by omega⟩
   rw [wr, wr, wr, wr, wr, wr, wr, wr]
   have : u / 10 / 10 / 10 / 10 / 10 / 10 / 10 / 10 = u / 100000000 := by omega
   rw [this]
   rfl
  rw [r]
  refine ih (i - 8) (by omega) (u / 100000000) _ _ (qAe (qAe (qAe (qAe (qAe (qAe (qAe (qAe (hp) _ _) _ _) _ _) _ _) _ _) _ _) _ _) _ _) (by simp only [List.length_set]; exact hl) q8 (by omega) (by omega) (by omega) ?_
  obtain ⟨m, rfl⟩ : ∃ m, i = m + 8 := ⟨i - 8, by omega⟩
  rw [Int.pow_add, show (10 : Int) ^ 8 = 100000000 by decide] at h1
  rw [Nat.add_sub_cancel]
  generalize (10 : Int) ^ m = y at h1
  omega
 ·have a : (i : Int) < 8 := by omega
  simp (maxSteps := 9999999) +contextual only [exa, ne_eq, not_false_eq_true, reduceAdd, reduceMul, reduceLT, reduceLeDiff, reduceEqDiff, Int.reduceLT, Int.reduceLE, Int.reduceEq, Int.reduceToNat, a]
  exact fb2 N i u cs h hp hl hg (by omega) hiN hN h0 h1
open Go Go.AI
theorem qUi (N : Nat) (u : Int) (cs : List Cell) (hp : plainC cs) (hl : cs.length = 24) (hN : N ≤ 23) (h0 : 0 ≤ u) (hu : u < 18446744073709551616) (h1 : u < 10 ^ N) :
  Om 186 [bufP N, kN .u64 u] [.cells cs 0] = some (.tup [], [.cells (wr cs N u N) 0]) := by
 refine (qAA rfl).trans ?_
 show lim tab.get S 186 1 0 [bufP N, kN .u64 u] { ims := [.cells cs 0], owns := .nil } = _
 rw [w186_0, b186_0]
 simp (maxSteps := 9999999) +contextual only [exa, ne_eq, not_false_eq_true, reduceAdd, reduceMul, reduceLT, reduceLeDiff, reduceEqDiff, Int.reduceLT, Int.reduceLE, Int.reduceEq, Int.reduceToNat, exU]
 exact fb1 N hN (N + 1) N (Nat.lt_succ_self _) u cs _ hp hl rfl (Nat.le_refl _) h0 hu h1
theorem qMN : ∀ (k : Nat) (cs : List Cell) (i : Nat) (u : Int) (j : Nat), k ≤ i → i < cs.length → (wr cs i u k)[j]? = if i < j + k ∧ j ≤ i then some (dig (u / 10 ^ (i - j))) else cs[j]?
 | 0, cs, i, u, j, _, _ => by
  rw [wr, if_neg (by omega)]
 | k + 1, cs, i, u, j, hk, hi => by
  rw [wr, qMN k _ _ _ _ (by omega) (by rw [List.length_set]; omega), List.getElem?_set]
  by_cases h1 : j = i
  ·subst h1
   rw [if_neg (by omega), if_pos rfl, if_pos hi, if_pos ⟨by omega, Nat.le_refl _⟩, Nat.sub_self]
   simp
  ·by_cases h2 : i - 1 < j + k ∧ j ≤ i - 1
   ·rw [if_pos h2, if_pos ⟨by omega, by omega⟩, Int.ediv_ediv_of_nonneg (by decide)]
    rw [show i - j = (i - 1 - j) + 1 by omega, Int.pow_succ, Int.mul_comm]
   ·rw [if_neg h2, if_neg (fun e => h1 e.symm), if_neg (by omega)]
theorem qE6 : ∀ (N u : Nat), u < 10 ^ (N + 1) → (10 ^ N ≤ u ∨ N = 0) → Lib.decDigits u = (List.range (N + 1)).map fun j => UInt8.ofNat (48 + u / 10 ^ (N - j) % 10)
 | 0, u, h, _ => by
  have hu : u < 10 := by simpa using h
  rw [Lib.decDigits, dif_pos hu]
  simp [Nat.mod_eq_of_lt hu]
 | N + 1, u, h, h2 => by
  have h3 : 10 ^ (N + 1) ≤ u := by rcases h2 with h2 | h2; exact h2; omega
  have h4 : 10 ≤ u := by
   have : 10 ^ 1 ≤ 10 ^ (N + 1) := Nat.pow_le_pow_right (by decide) (by omega)
   omega
  rw [Lib.decDigits, dif_neg (by omega), qE6 N (u / 10) (by rw [Nat.pow_succ] at h; omega) (.inl (by rw [Nat.pow_succ] at h3; omega)), List.range_succ (n := N + 1), List.map_append]
  congr 1
  ·refine List.map_congr_left fun j hj => ?_
   have hj' := List.mem_range.1 hj
   rw [Nat.div_div_eq_div_mul, Nat.mul_comm, ← Nat.pow_succ, show (N - j).succ = N + 1 - j by omega]
  ·simp
open Go Go.AI
theorem qOg (u m : Nat) : dig ((u : Int) / 10 ^ m) = .p (.int .u8 ((UInt8.ofNat (48 + u / 10 ^ m % 10)).toNat : Int)) := by
 unfold dig
 rw [UInt8.toNat_ofNat', Nat.mod_eq_of_lt (by omega)]
 have : ((48 + u / 10 ^ m % 10 : Nat) : Int) = 48 + (u : Int) / 10 ^ m % 10 := by
  rw [Int.natCast_add, Int.natCast_emod, Int.natCast_ediv, Int.natCast_pow]; rfl
 rw [this]
theorem qSS (n u : Nat) (cs : List Cell) (hl : cs.length = 24) (hN : n + 1 ≤ 23) (h1 : u < 10 ^ (n + 1)) (h2 : 10 ^ n ≤ u ∨ n = 0) :
  ((wr cs (n + 1) (u : Int) (n + 1)).drop 1).take (n + 1) = (Lib.decDigits u).map fun b => Cell.p (.int .u8 (b.toNat : Int)) := by
 rw [qE6 n u h1 h2, List.map_map]
 refine List.ext_getElem? fun j => ?_
 rw [List.getElem?_take, List.getElem?_map]
 by_cases hj : j < n + 1
 ·rw [if_pos hj, List.getElem?_drop, qMN _ _ _ _ _ (Nat.le_refl _) (by omega), if_pos ⟨by omega, by omega⟩, List.getElem?_range hj]
  show some (dig _) = some _
  rw [show n + 1 - (1 + j) = n - j by omega, qOg]; rfl
 ·rw [if_neg hj]
  rw [List.getElem?_eq_none (by simpa using hj)]; rfl
open Go Go.AI
def isStrR (r : Res1) (x : List UInt8) : Bool := match r with
 | some (.v (.c (.p (.str y))), []) => y == x
 | _ => false
theorem qKg {r : Res1} {x : List UInt8} (h : isStrR r x = true) : r = some (kS x, []) := by
 unfold isStrR at h
 split at h
 ·simp only [beq_iff_eq] at h; subst h; rfl
 ·cases h
def smallL (n : Nat) : List UInt8 := bif Nat.blt n 10 then [UInt8.ofNat (48 + n)] else [UInt8.ofNat (48 + n / 10), UInt8.ofNat (48 + n % 10)]
theorem qNW (n : Nat) (hn : n < 100) : smallL n = Lib.decDigits n := by
 unfold smallL
 by_cases h : n < 10
 ·rw [Lib.decDigits, dif_pos h, show Nat.blt n 10 = true from Nat.ble_eq_true_of_le h]; rfl
 ·have : Nat.blt n 10 = false := Bool.eq_false_iff.2 fun e => h (Nat.le_of_ble_eq_true e)
  rw [Lib.decDigits, dif_neg h, Lib.decDigits, dif_pos (by omega), this]
  rfl
theorem qNN : ((List.range 100).all fun n => isStrR (machU blks.get S 500 184 0 0 [kN .i64 (.ofNat n)] h0) (smallL n)) = true := by kernel_rfl
theorem qOD (n : Nat) (hn : n < 100) : Om 184 [kI (n : Int)] [] = some (kS (Lib.decDigits n), []) := by
 refine (qAA rfl).trans ?_
 rw [← qNW n hn]
 exact qAD blks_ok 500 184 0 0 _ _ _ (qKg (List.all_eq_true.1 qNN n (List.mem_range.2 hn)))
theorem qME (n : Int) (u g : Nat) (h : Heap) (cs : List Cell) (hp : plainC cs) (hl : cs.length = 24) (hg : h.get (.own 5 g) = some (.cells cs 0)) (hu : 1 ≤ u) (hu2 : u < 18446744073709551616) :
  lim tab.get S 178 0 1 [kI n, .v (.c (.ptr (.own 5 g) 0)), kN .u64 (u : Int)] h = some (kS (if n < 0 then 45 :: Lib.decDigits u else Lib.decDigits u), []) := by
 obtain ⟨N, hN, l1, l2, e185⟩ := qML (u : Int) (by omega) (by omega)
 have l2 : 1 ≤ N ∧ (10 : Int) ^ (N - 1) ≤ u := by rcases l2 with l2 | l2; exact absurd l2 (by omega); exact l2
 obtain ⟨m, rfl⟩ : ∃ m, N = m + 1 := ⟨N - 1, by omega⟩
 have l1' : u < 10 ^ (m + 1) := by
  have : ((u : Nat) : Int) < ((10 ^ (m + 1) : Nat) : Int) := by rw [Int.natCast_pow]; exact l1
  omega
 have l2' : 10 ^ m ≤ u := by
  have : ((10 ^ m : Nat) : Int) ≤ ((u : Nat) : Int) := by rw [Int.natCast_pow]; exact l2.2
  omega
 have hw := qSS m u cs hl (by omega) l1' (.inl l2')
 have hwl : (wr cs (m + 1) (u : Int) (m + 1)).length = 24 := by rw [qL9, hl]
 have c1 : CAL 185 [kN .u64 (u : Int)] (kI ((m + 1 : Nat) : Int)) := qAB 185 _ _ rfl e185 rfl
 have w1 : IntKind.i64.wrap (1 + ((m + 1 : Nat) : Int)) = ((m + 2 : Nat) : Int) := by rw [qAI _ (by omega) (by omega)]; omega
 have s1 : ∀ {β : Type} {k : TVal → Heap → Option β} {d : Nat}, vop Om (.sliceA 24 1 (.k (.v (.c (.ptr (.own 5 g) 0)))) (some (.k (kI 1))) (some (.k (kI ((m + 2 : Nat) : Int))))) h d k = k (.v (.c (.sref (.own 5 g) 1 (m + 1) (some 23) 1))) h :=
  fun {β k d} => (qHy 24 1 (.own 5 g) 0 1 (m + 2) cs 0 (by omega) (by omega) (by omega) hg (by omega)).trans (by rw [show m + 2 - 1 = m + 1 by omega])
 have e186 := qUi (m + 1) (u : Int) cs hp hl (by omega) (by omega) (by omega) l1
 obtain ⟨xs, hxs⟩ := hp
 obtain ⟨ys, hys⟩ := qII (m + 1) cs (m + 1) (u : Int) ⟨xs, hxs⟩
 have hin : (TVal.v (.c (.sref (.own 5 g) 1 (m + 1) (some 23) 1))).ren (inn [.own 5 g]) = bufP (m + 1) := by
  show TVal.v (.c (match inn [Ref.own 5 g] (.own 5 g) with | some s => Cell.sref s 1 (m + 1) (some 23) 1 | none => .junk)) = _
  have : inn [Ref.own 5 g] (.own 5 g) = some (.im 0) := by simp [inn, idx]
  rw [this]
 have c2 : ∀ {β : Type} {k : TVal → Heap → Option β} {d : Nat}, vcall Om (.v (.c (.func 186 []))) [.v (.c (.sref (.own 5 g) 1 (m + 1) (some 23) 1)), kN .u64 (u : Int)] h d k = k (.tup []) (h.own 5 g (.cells (wr cs (m + 1) (u : Int) (m + 1)) 0)) :=
  fun {β k d} => qPi 186 (.own 5 g) (.v (.c (.sref (.own 5 g) 1 (m + 1) (some 23) 1))) (bufP (m + 1)) [] [kN .u64 (u : Int)] _ (.cells (wr cs (m + 1) (u : Int) (m + 1)) 0) (.tup []) rfl rfl
   hin rfl rfl hg (by rw [hxs]; exact qBp xs 0) (by rw [hys]; exact qBp ys 0) rfl e186
 have hg2 : (h.own 5 g (.cells (wr cs (m + 1) (u : Int) (m + 1)) 0)).get (.own 5 g) = some (.cells (wr cs (m + 1) (u : Int) (m + 1)) 0) := qBP _ _ _ _ _ (by omega)
 rw [w178_1, b178_1]
 by_cases hn : n < 0
 ·have i1 : ∀ {β : Type} {k : TVal → Heap → Option β} {h : Heap} {d : Nat}, vop Om (.iaddrA 24 1 (.k (.v (.c (.ptr (.own 5 g) 0)))) (.k (kI 0))) h d k = k (.v (.c (.ptr (.own 5 g) 0))) h := fun {β k h d} => qIE 24 1 _ 0 0 (by omega)
  have hp2 : put1 (wr cs (m + 1) (u : Int) (m + 1)) 0 [.p (.int .u8 45)] = .p (.int .u8 45) :: (wr cs (m + 1) (u : Int) (m + 1)).drop 1 := by
   unfold put1 splice; simp
  have hg3 : ((h.own 5 g (.cells (wr cs (m + 1) (u : Int) (m + 1)) 0)).own 5 g (.cells (.p (.int .u8 45) :: (wr cs (m + 1) (u : Int) (m + 1)).drop 1) 0)).get (.own 5 g) = some (.cells (.p (.int .u8 45) :: (wr cs (m + 1) (u : Int) (m + 1)).drop 1) 0) := qBP _ _ _ _ _ (by omega)
  have s2 : ∀ {β : Type} {k : TVal → Heap → Option β} {d : Nat}, vop Om (.sliceA 24 1 (.k (.v (.c (.ptr (.own 5 g) 0)))) none (some (.k (kI ((m + 2 : Nat) : Int))))) ((h.own 5 g (.cells (wr cs (m + 1) (u : Int) (m + 1)) 0)).own 5 g (.cells (.p (.int .u8 45) :: (wr cs (m + 1) (u : Int) (m + 1)).drop 1) 0)) d k = k (.v (.c (.sref (.own 5 g) 0 (m + 2) (some 24) 1))) ((h.own 5 g (.cells (wr cs (m + 1) (u : Int) (m + 1)) 0)).own 5 g (.cells (.p (.int .u8 45) :: (wr cs (m + 1) (u : Int) (m + 1)).drop 1) 0)) := fun {β k d} => by
   refine qEb _ (.own 5 g) (fun
    | .cells cs _ => if 0 + 24 * 1 ≤ cs.length then some (.v (.c (.sref (.own 5 g) (0 + 0 * 1) (m + 2 - 0) (some (24 - 0)) 1))) else none
    | _ => none) _ _ ?_ hg3 ?_
   ·show (if 0 ≤ m + 2 ∧ m + 2 ≤ 24 ∧ 0 < 24 then some (Plan.read _ _) else none) = _
    rw [if_pos ⟨by omega, by omega, by omega⟩]
    rfl
   ·show (if _ then _ else _) = _
    rw [if_pos (by simp; omega)]
    rfl
  have t2 : ∀ {β : Type} {k : TVal → Heap → Option β} {d : Nat}, vop Om (.toStr (.k (.v (.c (.sref (.own 5 g) 0 (m + 2) (some 24) 1))))) ((h.own 5 g (.cells (wr cs (m + 1) (u : Int) (m + 1)) 0)).own 5 g (.cells (.p (.int .u8 45) :: (wr cs (m + 1) (u : Int) (m + 1)).drop 1) 0)) d k = k (kS (45 :: Lib.decDigits u)) ((h.own 5 g (.cells (wr cs (m + 1) (u : Int) (m + 1)) 0)).own 5 g (.cells (.p (.int .u8 45) :: (wr cs (m + 1) (u : Int) (m + 1)).drop 1) 0)) :=
   fun {β k d} => qEZ (.own 5 g) 0 (m + 2) (some 24) _ 0 _ hg3 (by simp; omega) (by
    rw [List.drop_zero, List.take_succ_cons, hw]
    exact qEY (45 :: Lib.decDigits u))
  have q1 : 0 + 1 ≤ (wr cs (m + 1) (u : Int) (m + 1)).length := by omega
  simp (maxSteps := 9999999) +contextual only [exa, ne_eq, not_false_eq_true, reduceAdd, reduceMul, reduceLT, reduceLeDiff, reduceEqDiff, Int.reduceLT, Int.reduceLE, Int.reduceEq, Int.reduceToNat, c1, w1, s1, c2, hn, i1, hg2, q1, hp2, s2, t2, oneOf, if_true]
 ·have s2 : ∀ {β : Type} {k : TVal → Heap → Option β} {d : Nat}, vop Om (.sliceA 24 1 (.k (.v (.c (.ptr (.own 5 g) 0)))) (some (.k (kI 1))) (some (.k (kI ((m + 2 : Nat) : Int))))) (h.own 5 g (.cells (wr cs (m + 1) (u : Int) (m + 1)) 0)) d k = k (.v (.c (.sref (.own 5 g) 1 (m + 1) (some 23) 1))) (h.own 5 g (.cells (wr cs (m + 1) (u : Int) (m + 1)) 0)) :=
   fun {β k d} => (qHy 24 1 (.own 5 g) 0 1 (m + 2) _ 0 (by omega) (by omega) (by omega) hg2 (by omega)).trans (by rw [show m + 2 - 1 = m + 1 by omega])
  have t2 : ∀ {β : Type} {k : TVal → Heap → Option β} {d : Nat}, vop Om (.toStr (.k (.v (.c (.sref (.own 5 g) 1 (m + 1) (some 23) 1))))) (h.own 5 g (.cells (wr cs (m + 1) (u : Int) (m + 1)) 0)) d k = k (kS (Lib.decDigits u)) (h.own 5 g (.cells (wr cs (m + 1) (u : Int) (m + 1)) 0)) :=
   fun {β k d} => qEZ (.own 5 g) 1 (m + 1) (some 23) _ 0 _ hg2 (by omega) (by rw [hw]; exact qEY _)
  simp (maxSteps := 9999999) +contextual only [exa, ne_eq, not_false_eq_true, reduceAdd, reduceMul, reduceLT, reduceLeDiff, reduceEqDiff, Int.reduceLT, Int.reduceLE, Int.reduceEq, Int.reduceToNat, c1, w1, s1, c2, hn, s2, t2, oneOf, if_false]
theorem qJx : plainC (List.replicate 24 (.p (.int .u8 0))) := ⟨List.replicate 24 (.int .u8 0), by unfold pcells; rw [List.map_replicate]⟩
theorem qR1 (n : Int) (h1 : -9223372036854775808 ≤ n) (h2 : n ≤ 9223372036854775807) : Om 178 [kI n, kI 10] [] = some (kS (Lib.itoa n), []) := by
 refine (qAA rfl).trans ?_
 show lim tab.get S 178 0 0 [kI n, kI 10] h0 = _
 rw [w178_0, b178_0]
 by_cases hn : n < 0
 ·have e1 : IntKind.u64.wrap (0 - IntKind.u64.wrap n) = ((n.natAbs : Nat) : Int) := by
   have w : ∀ z : Int, IntKind.u64.wrap z = z % 18446744073709551616 := fun z => rfl
   rw [w, w]
   omega
  have hx : ¬ (0 : Int) ≤ n := by omega
  simp (maxSteps := 9999999) +contextual only [exa, ne_eq, not_false_eq_true, reduceAdd, reduceMul, reduceLT, reduceLeDiff, reduceEqDiff, Int.reduceLT, Int.reduceLE, Int.reduceEq, Int.reduceToNat, hn, hx, e1]
  refine (qME n n.natAbs 1 _ (List.replicate 24 (.p (.int .u8 0))) qJx rfl (qBP h0 5 1 _ 0 (by decide)) (by omega) (by omega)).trans ?_
  rw [if_pos hn]
  unfold Lib.itoa
  rw [if_pos hn]
 ·by_cases hs : n < 100
  ·obtain ⟨m, rfl⟩ : ∃ m : Nat, n = m := ⟨n.toNat, by omega⟩
   have c1 : CAL 184 [kI (m : Int)] (kS (Lib.decDigits m)) := qAB 184 _ _ rfl (qOD m (by omega)) rfl
   simp (maxSteps := 9999999) +contextual only [exa, ne_eq, not_false_eq_true, reduceAdd, reduceMul, reduceLT, reduceLeDiff, reduceEqDiff, Int.reduceLT, Int.reduceLE, Int.reduceEq, Int.reduceToNat, hn, hs, c1, oneOf]
   unfold Lib.itoa
   rw [if_neg hn, Int.toNat_natCast]
  ·obtain ⟨m, rfl⟩ : ∃ m : Nat, n = m := ⟨n.toNat, by omega⟩
   have e1 : IntKind.u64.wrap (m : Int) = (m : Int) := qB1 _ (by omega) (by omega)
   simp (maxSteps := 9999999) +contextual only [exa, ne_eq, not_false_eq_true, reduceAdd, reduceMul, reduceLT, reduceLeDiff, reduceEqDiff, Int.reduceLT, Int.reduceLE, Int.reduceEq, Int.reduceToNat, hn, hs, e1]
   refine (qME (m : Int) m 1 _ (List.replicate 24 (.p (.int .u8 0))) qJx rfl (qBP h0 5 1 _ 0 (by decide)) (by omega) (by omega)).trans ?_
   rw [if_neg hn]
   unfold Lib.itoa
   rw [if_neg hn, Int.toNat_natCast]
theorem qS9 (n : Int) (h1 : -9223372036854775808 ≤ n) (h2 : n ≤ 9223372036854775807) : Om 154 [kI n, kI 10] [] = some (kS (Lib.itoa n), []) := by
 have c1 : CAL 178 [kI n, kI 10] (kS (Lib.itoa n)) := qAB 178 _ _ rfl (qR1 n h1 h2) rfl
 refine (qAA rfl).trans ?_
 show lim tab.get S 154 0 0 [kI n, kI 10] h0 = _
 rw [w154_0, b154_0]
 simp (maxSteps := 9999999) +contextual only [exa, ne_eq, not_false_eq_true, reduceAdd, reduceMul, reduceLT, reduceLeDiff, reduceEqDiff, Int.reduceLT, Int.reduceLE, Int.reduceEq, Int.reduceToNat, c1, oneOf]
theorem qTI (b : Bool) : Om 155 [kB b] [] = some (kS (if b = true then trueS else falseS), []) := by
 refine (qAA rfl).trans ?_
 cases b
 ·exact qAD blks_ok 500 155 0 0 _ _ _ (by kernel_rfl)
 ·exact qAD blks_ok 500 155 0 0 _ _ _ (by kernel_rfl)
open Go Go.AI
def rngN (n : Int) : Prop := -9223372036854775808 ≤ n ∧ n ≤ 9223372036854775807
def wrtM (v : VT) : VT × Int := if v.kind = 2 then (txtV (Lib.itoa v.n), 0) else if v.kind = 1 then (txtV (if v.b = true then trueS else falseS), 0) else (VT.nul, 17)
theorem qLO (v : VT) (hr : rngN v.n) : Om 90 [kA v.row] [] = some (ansE (wrtM v), []) := by
 have c1 : CAL 154 [kI v.n, kI 10] (kS (Lib.itoa v.n)) := qAB 154 _ _ rfl (qS9 v.n hr.1 hr.2) rfl
 have c2 : CAL 155 [kB v.b] (kS (if v.b = true then trueS else falseS)) := qAB 155 _ _ rfl (qTI v.b) rfl
 refine (qAA rfl).trans ?_
 show lim tab.get S 90 0 0 [kA v.row] h0 = _
 rw [w90_0, b90_0]
 unfold wrtM
 by_cases h2 : v.kind = 2
 ·rw [if_pos h2]
  simp (maxSteps := 9999999) +contextual only [exa, ne_eq, not_false_eq_true, reduceAdd, reduceMul, reduceLT, reduceLeDiff, reduceEqDiff, Int.reduceLT, Int.reduceLE, Int.reduceEq, Int.reduceToNat, h2, c1, qOB, qAC _ (VT.row_len (txtV _))]
  rfl
 rw [if_neg h2]
 by_cases h1 : v.kind = 1
 ·rw [if_pos h1]
  simp (maxSteps := 9999999) +contextual only [exa, ne_eq, not_false_eq_true, reduceAdd, reduceMul, reduceLT, reduceLeDiff, reduceEqDiff, Int.reduceLT, Int.reduceLE, Int.reduceEq, Int.reduceToNat, h1, h2, c2, qOB, qAC _ (VT.row_len (txtV _))]
  rfl
 rw [if_neg h1]
 simp (maxSteps := 9999999) +contextual only [exa, ne_eq, not_false_eq_true, reduceAdd, reduceMul, reduceLT, reduceLeDiff, reduceEqDiff, Int.reduceLT, Int.reduceLE, Int.reduceEq, Int.reduceToNat, h1, h2, qHS]
 rfl
theorem qQJ (t : Bool) (v : VT) (hr : rngN v.n) : Om 38 [kS n_text, kSl 6 t [v.row]] [] = some (ansE (wrtM v), []) := by
 refine (qAA rfl).trans ?_
 show lim tab.get S 38 0 0 [kS n_text, kSl 6 t [v.row]] h0 = _
 have hc := qLO v hr
 generalize (wrtM v) = p at hc ⊢
 have cc : CAL 90 [kA v.row] (.tup [.agg (pcells p.1.row), .c (.p (.int .i64 p.2))]) := qAB 90 _ _ (by simp only [exP]) hc (by simp only [exP])
 rw [w38_0, b38_0]
 simp (maxSteps := 9999999) +contextual only [exa, ne_eq, not_false_eq_true, reduceAdd, reduceMul, reduceLT, reduceLeDiff, reduceEqDiff, Int.reduceLT, Int.reduceLE, Int.reduceEq, Int.reduceToNat, qJm, qJd, qCr, qAU, qAX, qAR, qAO, qAN, cc, qAC _ (VT.row_len p.1)]
 rw [w38_1, b38_1]
 simp (maxSteps := 9999999) +contextual only [exa, ne_eq, not_false_eq_true, reduceAdd, reduceMul, reduceLT, reduceLeDiff, reduceEqDiff, Int.reduceLT, Int.reduceLE, Int.reduceEq, Int.reduceToNat, qJm, qJd, qCr, qAU, qAX, qAR, qAO, qAN, cc, qAC _ (VT.row_len p.1)]
 rfl
theorem qPM (t : Bool) (v : VT) (hr : rngN v.n) : Om 41 [kS n_text, kSl 6 t [v.row]] [] = some (ansE (wrtM v), []) := by
 refine qCh _ qC1 qEH t v _ (fun h H => ?_)
 rw [w41_1, b41_1]
 simp (maxSteps := 9999999) +contextual only [exa, ne_eq, not_false_eq_true, reduceAdd, reduceMul, reduceLT, reduceLeDiff, reduceEqDiff, Int.reduceLT, Int.reduceLE, Int.reduceEq, Int.reduceToNat, qCr, H.a4, H.a6, H.a7]
 rw [w41_2, b41_2]
 unfold wrtM
 by_cases h2 : v.kind = 2
 ·rw [if_pos h2]
  have c1 : CAL 21 [kA v.row] (kS (Lib.itoa v.n)) := qAB 21 _ _ (by simp only [exP]) (qPL v h2 hr.1 hr.2) rfl
  simp (maxSteps := 9999999) +contextual only [exa, ne_eq, not_false_eq_true, reduceAdd, reduceMul, reduceLT, reduceLeDiff, reduceEqDiff, Int.reduceLT, Int.reduceLE, Int.reduceEq, Int.reduceToNat, qCr, H.a4, H.a6, H.a7, h2, c1, qOO, qAC _ (VT.row_len (txtV _))]
  rfl
 rw [if_neg h2]
 by_cases h1 : v.kind = 1
 ·rw [if_pos h1]
  have c1 : CAL 21 [kA v.row] (kS (if v.b = true then trueS else falseS)) := qAB 21 _ _ (by simp only [exP]) (qNT v h1) rfl
  simp (maxSteps := 9999999) +contextual only [exa, ne_eq, not_false_eq_true, reduceAdd, reduceMul, reduceLT, reduceLeDiff, reduceEqDiff, Int.reduceLT, Int.reduceLE, Int.reduceEq, Int.reduceToNat, qCr, H.a4, H.a6, H.a7, h1, h2, c1, qOO, qAC _ (VT.row_len (txtV _))]
  rfl
 rw [if_neg h1]
 simp (maxSteps := 9999999) +contextual only [exa, ne_eq, not_false_eq_true, reduceAdd, reduceMul, reduceLT, reduceLeDiff, reduceEqDiff, Int.reduceLT, Int.reduceLE, Int.reduceEq, Int.reduceToNat, qCr, H.a4, H.a6, H.a7, h1, h2, u97, qAC _ qAJ]
 rfl
theorem qQ0 (v : VT) (hr : rngN v.n) : smV (wrtM v).1 := by
 unfold wrtM
 split
 ·exact qBM _ _ _ _ (by have := qHj v.n hr.1 hr.2; omega)
 split
 ·exact qBM _ _ _ _ (by split <;> decide)
 ·exact qBB
theorem qRO (a : Sl VT) (ha : ∀ x ∈ a.list, rngN x.n) : Ag n_text a := by
 match a, ha with
 | .nil, _ => exact agC 1 qGK qF4 qC1 qEH (by show ¬ (0 : Int) = 1; decide)
 | .mk t [], _ => exact agC 1 qGK qF4 qC1 qEH (by show ¬ (0 : Int) = 1; decide)
 | .mk t [v], ha => exact agE (qQJ t v (ha v (by simp [Sl.list]))) (qPM t v (ha v (by simp [Sl.list]))) rfl (qQ0 v (ha v (by simp [Sl.list])))
 | .mk t (v :: w :: l), _ => exact agC 1 qGK qF4 qC1 qEH (by show ¬ ((l.length + 1 + 1 : Nat) : Int) = 1; omega)
theorem qDT (nm : List UInt8) (hl : nm.length ≤ 1000) (a : Sl VT) (ha : ∀ x ∈ a.list, smV x ∧ rngN x.n) : Ag nm a :=
 qED nm hl a (fun x hx => (ha x hx).1) (qRO a fun x hx => (ha x hx).2)
open Go Go.AI
theorem u40 {β : Type} {k : TVal → Heap → Option β} {h : Heap} {d : Nat} : vcall Om (.v (.c (.func 40 []))) [] h d k = k (kSl 1 true (nmsL.map sRow)) h := qAB 40 _ _ rfl ((qAA rfl).trans (qAD blks_ok 500 40 0 0 _ _ _ (by kernel_rfl))) rfl
theorem qDK {c : Cell} {l : List VT} (G : Bears 6 c (l.map VT.row)) (n : Nat) (hn : n ≤ l.length) :
  ∃ c' : Cell, plan .nil (.slice 6 false (.k (.v (.c c))) none (some (.k (kI (n : Int)))) none) = some (.pure (.v (.c c'))) ∧ ∃ a : Sl VT, c'.strip = .p (slP 6 VT.row a) ∧ a.list = l.take n := by
 have hp : ∀ c', sliceV 6 false c none (some n) none = some c' → plan .nil (.slice 6 false (.k (.v (.c c))) none (some (.k (kI (n : Int)))) none) = some (.pure (.v (.c c'))) := by
  intro c' e
  show Option.map (fun c => Plan.pure (.v (.c c))) (sliceV 6 false c none (some n) none) = _
  rw [e]; rfl
 rcases G with ⟨hr, rfl⟩ | ⟨hne, r, rfl⟩
 ·have hl : l = [] := List.map_eq_nil_iff.1 hr
  subst hl
  have hn0 : n = 0 := Nat.le_zero.1 hn
  subst hn0
  exact ⟨.p .nilslice, rfl, .nil, rfl, rfl⟩
 ·by_cases hq : n = l.length ∧ 0 < n
  ·refine ⟨.tsl 6 (l.map VT.row) r, hp _ ?_, .mk false l, ?_, ?_⟩
   ·show (if _ then _ else _) = _
    rw [if_pos ⟨rfl, Nat.zero_le _, by simpa using hn, by simp⟩]
    show (if _ then _ else _) = _
    rw [if_pos ⟨rfl, by simpa using hq.1, hq.2⟩]
    rfl
   ·rfl
   ·rw [hq.1, List.take_length]; rfl
  ·refine ⟨.p (.slice 6 (tightOf false n none) (((l.map VT.row).take n).drop 0)), hp _ ?_, .mk (tightOf false n none) (l.take n), ?_, rfl⟩
   ·show (if _ then _ else _) = _
    rw [if_pos ⟨rfl, Nat.zero_le _, by simpa using hn, by simp⟩]
    show (if _ then _ else _) = _
    rw [if_neg (fun e => hq ⟨by simpa using e.2.1, e.2.2⟩)]
    rfl
   ·rw [List.drop_zero, ← List.map_take]; rfl
theorem qIS {c : Cell} {l : List VT} (G : Bears 6 c (l.map VT.row)) : ∃ a : Sl VT, c.strip = .p (slP 6 VT.row a) ∧ a.list = l := by
 rcases G with ⟨hr, rfl⟩ | ⟨hne, r, rfl⟩
 ·have hl : l = [] := List.map_eq_nil_iff.1 hr
  subst hl
  exact ⟨.nil, rfl, rfl⟩
 ·exact ⟨.mk false l, rfl, rfl⟩
theorem uAg {nm : List UInt8} {a : Sl VT} {c : Cell} (hc : c.strip = .p (slP 6 VT.row a)) (A : Ag nm a) : ∃ p p' : VT × Int, p.2 = p'.2 ∧ smV p.1 ∧ sameV p.1 p'.1 = true ∧
  (∀ {β : Type} {k : TVal → Heap → Option β} {h : Heap} {d : Nat}, vcall Om (.v (.c (.func 38 []))) [kS nm, .v (.c c)] h d k = k (.tup [.agg (pcells p.1.row), .c (.p (.int .i64 p.2))]) h) ∧
  (∀ {β : Type} {k : TVal → Heap → Option β} {h : Heap} {d : Nat}, vcall Om (.v (.c (.func 41 []))) [kS nm, .v (.c c)] h d k = k (.tup [.agg (pcells p'.1.row), .c (.p (.int .i64 p'.2))]) h) := by
 obtain ⟨p, p', h1, h2, h3, h4, h5⟩ := A
 have key : ∀ g {β : Type} {k : TVal → Heap → Option β} {h : Heap} {d : Nat}, vcall Om (.v (.c (.func g []))) [kS nm, .v (.c c)] h d k = vcall Om (.v (.c (.func g []))) [kS nm, .v (.c (.p (slP 6 VT.row a)))] h d k := by
  intro g β k h d
  rw [qCC g [kS nm, .v (.c c)], qCC g [kS nm, .v (.c (.p (slP 6 VT.row a)))]]
  show vcall Om _ [kS nm, .v (.c c.strip)] h d k = _
  rw [hc]; rfl
 exact ⟨p, p', h3, h4, h5, (key 38).trans (qAB 38 _ _ (by simp only [exP]) h1 (by simp only [exP])), (key 41).trans (qAB 41 _ _ (by simp only [exP]) h2 (by simp only [exP]))⟩
abbrev rf (i len : Nat) (cap : Option Nat) : TVal := .v (.c (.sref (.im i) 0 len cap 1))
def SameIm (h h' : Heap) : Prop := ∀ i, h'.get (.im i) = h.get (.im i)
theorem qTg (nm : List UInt8) (x0 x3 x9 x11 x12 : TVal) (b : Nat) (cs : List Cell) (hl : cs.length = 5) (hA : ∀ c ∈ cs, ∃ a : Sl VT, c.strip = .p (slP 6 VT.row a) ∧ Ag nm a) (r : Res1) :
  ∀ (j : Nat) (h : Heap), h.get (.im b) = some (.cells cs 0) → (∀ h', SameIm h h' → lim tab.get S 11 0 7 [x0, x3, x9, x11, x12] h' = r) → lim tab.get S 11 0 6 [x0, x3, x9, x11, x12, kS nm, rf b 5 none, kI (j : Int)] h = r := by
 refine qAj 5 (fun j hj h hb K => ?_) (fun j hj ihl h hb K => ?_) <;> rw [w11_6, b11_6]
 ·have h1 : ¬ (j : Int) < 5 := by omega
  have hlen : ((5 : Nat) : Int) = 5 := rfl
  simp (maxSteps := 9999999) +contextual only [exa, ne_eq, not_false_eq_true, reduceAdd, reduceMul, reduceLT, reduceLeDiff, reduceEqDiff, Int.reduceLT, Int.reduceLE, Int.reduceEq, Int.reduceToNat, exU, hlen, h1]
  exact K h (fun _ => rfl)
 ·have h1 : (j : Int) < 5 := by omega
  have hlen : ((5 : Nat) : Int) = 5 := rfl
  obtain ⟨c, hs, _, hc⟩ := qAS (l := cs) (i := j) (by omega)
  obtain ⟨a, hca, A⟩ := hA c hc
  obtain ⟨p, p', e2, sm, sme, U1, U2⟩ := uAg hca A
  have hj1 : 0 + j * 1 = j := by omega
  simp (maxSteps := 9999999) +contextual only [exa, ne_eq, not_false_eq_true, reduceAdd, reduceMul, reduceLT, reduceLeDiff, reduceEqDiff, Int.reduceLT, Int.reduceLE, Int.reduceEq, Int.reduceToNat, exU, hlen, h1, hj, hb, hj1, hs, U1, U2, e2, u24 p.1 p'.1 sm, sme, qAC _ (VT.row_len p.1), qAC _ (VT.row_len p'.1), qA5 j (by omega)]
  exact ihl _ hb (fun h' e => K h' (fun i => (e i).trans rfl))
open Go Go.AI
def okV (x : VT) : Prop := smV x ∧ rngN x.n
theorem qSE {n : Int} (h : rngN n) : okV (numV n) := ⟨qAz n, h⟩
abbrev nsP (s : Sl Int) : TVal := .v (.c (.p (slP 1 iRow s)))
theorem qTt (s : Sl Int) (hs : ∀ n ∈ s.list, rngN n) (x0 x9 x11 x12 x13 x14 : TVal) (r : Res1) :
  ∀ (j : Nat) (acc : List VT) (c : Cell) (h : Heap), acc.length ≤ j → (∀ x ∈ acc, okV x) → Grow [100] 6 c (acc.map VT.row) h →
   (∀ (acc' : List VT) (c' : Cell) (h' : Heap), (∀ x ∈ acc', okV x) → Grow [100] 6 c' (acc'.map VT.row) h' → SameIm h h' → lim tab.get S 11 0 5 [x0, nsP s, x9, x11, x12, x13, x14, .v (.c c')] h' = r) →
   lim tab.get S 11 0 4 [x0, nsP s, x9, x11, x12, x13, x14, .v (.c c), kI (j : Int)] h = r := by
 refine qAj 2 (fun j hj acc c h hl ha G K => ?_) (fun j hj ihl acc c h hl ha G K => ?_) <;> rw [w11_4, b11_4]
 ·have h1 : ¬ (j : Int) < 2 := by omega
  by_cases h2 : (j : Int) < (s.len : Int)
  ·simp (maxSteps := 9999999) +contextual only [exa, ne_eq, not_false_eq_true, reduceAdd, reduceMul, reduceLT, reduceLeDiff, reduceEqDiff, Int.reduceLT, Int.reduceLE, Int.reduceEq, Int.reduceToNat, exU, h1, h2]
   exact K acc c h ha G (fun _ => rfl)
  ·simp (maxSteps := 9999999) +contextual only [exa, ne_eq, not_false_eq_true, reduceAdd, reduceMul, reduceLT, reduceLeDiff, reduceEqDiff, Int.reduceLT, Int.reduceLE, Int.reduceEq, Int.reduceToNat, exU, h1, h2]
   exact K acc c h ha G (fun _ => rfl)
 ·have h1 : (j : Int) < 2 := by omega
  by_cases h2 : (j : Int) < (s.len : Int)
  ·obtain ⟨n, hn, _, hm⟩ := qAS (l := s.list) (i := j) (by show j < s.len; omega)
   have B : ∀ {β : Type} {O : Oracle} {h : Heap} {d : Nat} {k : TVal → Heap → Option β}, vop O (.bslice 6 1 z6 [(0, .k (.v (.agg [.p (.int .i64 2), .p (.bool false), .p (.int .i64 n), .p (.str []), .p .nilslice, .p .nilslice])))] false) h d k = k (kSl 6 true [(numV n).row]) h := fun {β O h d k} =>
    qDH 6 z6 (numV n).row rfl (VT.row_len _)
   obtain ⟨c', h', G', e', K', I'⟩ := G.app (d := 100) (by' := 88) (new := [(numV n).row]) true (by decide) (by simp) (fun r hr => by simp at hr; subst hr; exact VT.row_len _) (by simp; omega) (by decide)
   simp (maxSteps := 9999999) +contextual only [exa, ne_eq, not_false_eq_true, reduceAdd, reduceMul, reduceLT, reduceLeDiff, reduceEqDiff, Int.reduceLT, Int.reduceLE, Int.reduceEq, Int.reduceToNat, exU, h1, h2, hn, B, e', qA5 j (by omega)]
   refine ihl (acc ++ [numV n]) c' h' (by simp; omega) (fun x hx => ?_) (by rw [List.map_append]; exact G') (fun acc2 c2 h2 a2 g2 s2 => K acc2 c2 h2 a2 g2 (fun i => (s2 i).trans (I' i)))
   rcases List.mem_append.1 hx with hx | hx
   ·exact ha x hx
   ·obtain rfl := List.mem_singleton.1 hx
    exact qSE (hs n hm)
  ·simp (maxSteps := 9999999) +contextual only [exa, ne_eq, not_false_eq_true, reduceAdd, reduceMul, reduceLT, reduceLeDiff, reduceEqDiff, Int.reduceLT, Int.reduceLE, Int.reduceEq, Int.reduceToNat, exU, h1, h2]
   exact K acc c h ha G (fun _ => rfl)
theorem qF7 (a n : Nat) : (if (a : Int) < (n : Int) then (a : Int) else (n : Int)) = ((min a n : Nat) : Int) := by split <;> omega
theorem qF5 {l : List VT} {a : Sl VT} {n : Nat} (e : a.list = l.take n) (h : ∀ x ∈ l, okV x) : ∀ x ∈ a.list, okV x := fun x hx => h x (List.mem_of_mem_take (e ▸ hx))
theorem qSx (nm : List UInt8) (hnm : nm.length ≤ 1000) (x0 x3 x9 x11 x12 : TVal) (b : Nat) (cs : List Cell) (hl : cs.length = 3) (hA : ∀ c ∈ cs, ∃ a : Sl VT, c.strip = .p (slP 6 VT.row a) ∧ ∀ x ∈ a.list, okV x) (r : Res1)
  (acc : List VT) (c : Cell) (h : Heap) (ha : ∀ x ∈ acc, okV x) (G : Grow [100] 6 c (acc.map VT.row) h) (hb : h.get (.im b) = some (.cells cs 0))
  (K : ∀ h', (∀ i o, h.get (.im i) = some o → h'.get (.im i) = some o) → lim tab.get S 11 0 7 [x0, x3, x9, x11, x12] h' = r) :
  lim tab.get S 11 0 5 [x0, x3, x9, x11, x12, kS nm, rf b 3 (some 3), .v (.c c)] h = r := by
 rw [w11_5, b11_5]
 have hB := G.bears
 have L : ∀ {β : Type} {O : Oracle} {h : Heap} {d : Nat} {k : TVal → Heap → Option β}, vlen O 2 (.v (.c c)) h d k = k (kI (acc.length : Int)) h := fun {β O h d k} => by rw [hB.len, List.length_map]
 obtain ⟨c1, e1, a1, s1, l1⟩ := qDK hB (min 1 acc.length) (by omega)
 obtain ⟨a0, s0, l0⟩ := qIS hB
 have P : ∀ {β : Type} {O : Oracle} {h : Heap} {d : Nat} {k : TVal → Heap → Option β}, vop O (.slice 6 false (.k (.v (.c c))) none (some (.k (kI ((min 1 acc.length : Nat) : Int)))) none) h d k = k (.v (.c c1)) h := fun {β O h d k} => qAa _ _ e1
 have M := qF7 1 acc.length
 rw [show ((1 : Nat) : Int) = 1 from rfl] at M
 have AH : ∀ {β : Type} {k : TVal → Heap → Option β}, vop Om (.append 1 24 true (.k (rf b 3 (some 3))) (.k (rf h.ims.length 2 (some 2)))) (h.push (.cells [c, c1] 0)) 109 k = k (rf (h.push (.cells [c, c1] 0)).ims.length 5 none) ((h.push (.cells [c, c1] 0)).push (.cells (cs ++ [c, c1]) 0)) := fun {β k} =>
  qKe (O := Om) (sz := 1) (by' := 24) (la := 3) (ca := 3) (lb := 2) (by decide) (by decide) (by decide) (qBO h _ hb) (qAw h _ (by simp)) (by omega) rfl
 simp (maxSteps := 9999999) +contextual only [exa, ne_eq, not_false_eq_true, reduceAdd, reduceMul, reduceLT, reduceLeDiff, reduceEqDiff, Int.reduceLT, Int.reduceLE, Int.reduceEq, Int.reduceToNat, exU, L, M, P, qLf, AH]
 refine qTg nm x0 x3 x9 x11 x12 _ (cs ++ [c, c1]) (by simp [hl]) (fun c2 hc2 => ?_) r 0 _ (qAw _ _ (by simp)) (fun h' e => K h' (fun i o hi => (e i).trans (qBO _ _ (qBO _ _ hi))))
 rcases List.mem_append.1 hc2 with hc2 | hc2
 ·obtain ⟨a, h1, h2⟩ := hA c2 hc2
  exact ⟨a, h1, qDT nm hnm a h2⟩
 ·simp only [List.mem_cons, List.not_mem_nil, or_false] at hc2
  rcases hc2 with rfl | rfl
  ·exact ⟨a0, s0, qDT nm hnm a0 (l0 ▸ ha)⟩
  ·exact ⟨a1, s1, qDT nm hnm a1 (qF5 l1 ha)⟩
theorem qSm (f : Int) (name : List UInt8) (hname : name.length ≤ 30) (s : Sl Int) (hs : ∀ n ∈ s.list, rngN n) (l : List VT) (hl : l.length ≤ 5) (hok : ∀ x ∈ l, okV x) (c : Cell) (G : Bears 6 c (l.map VT.row)) (a : Nat) :
  ∀ (i : Nat) (h : Heap), h.get (.im a) = some (.cells (pcells ((nmsL ++ [name]).map .str)) 0) → lim tab.get S 11 0 3 [kI f, nsP s, .v (.c c), rf a 24 none, kI (i : Int)] h = some (kB true, []) := by
 refine qAj 4 (fun i hi h hn => ?_) (fun i hi ihl h hn => ?_) <;> rw [w11_3, b11_3]
 ·have h1 : ¬ (i : Int) < 4 := by omega
  simp (maxSteps := 9999999) +contextual only [exa, ne_eq, not_false_eq_true, reduceAdd, reduceMul, reduceLT, reduceLeDiff, reduceEqDiff, Int.reduceLT, Int.reduceLE, Int.reduceEq, Int.reduceToNat, exU, h1, oneOf]
 ·have h1 : (i : Int) < 4 := by omega
  have hw := qBo (IntKind.i64.wrap (f + (i : Int))) 24 (by decide)
  obtain ⟨nm, hs1, _, hm⟩ := qAS (l := nmsL ++ [name]) (i := (withinM (IntKind.i64.wrap (f + (i : Int))) 24).toNat) (by show _ < 24; omega)
  have hs2 : ((nmsL ++ [name]).map PVal.str)[(withinM (IntKind.i64.wrap (f + (i : Int))) 24).toNat]? = some (.str nm) := by rw [List.getElem?_map, hs1]; rfl
  have hnm : nm.length ≤ 1000 := by
   rcases List.mem_append.1 hm with hm | hm
   ·exact (by decide : ∀ x ∈ nmsL, x.length ≤ 1000) nm hm
   ·obtain rfl := List.mem_singleton.1 hm; omega
  have hj1 : 0 + (withinM (IntKind.i64.wrap (f + (i : Int))) 24).toNat * 1 = (withinM (IntKind.i64.wrap (f + (i : Int))) 24).toNat := by omega
  have w0 : decide (0 ≤ withinM (IntKind.i64.wrap (f + (i : Int))) 24) = true := decide_eq_true hw.1
  have w1 : decide ((withinM (IntKind.i64.wrap (f + (i : Int))) 24).toNat < 24) = true := decide_eq_true (by omega)
  have hlen : ((24 : Nat) : Int) = 24 := rfl
  have L : ∀ {β : Type} {O : Oracle} {h : Heap} {d : Nat} {k : TVal → Heap → Option β}, vlen O 2 (.v (.c c)) h d k = k (kI (l.length : Int)) h := fun {β O h d k} => by rw [G.len, List.length_map]
  obtain ⟨c1, e1, a1, s1, l1⟩ := qDK G (min 1 l.length) (by omega)
  obtain ⟨c2, e2, a2, s2, l2⟩ := qDK G (min 2 l.length) (by omega)
  obtain ⟨a0, s0, l0⟩ := qIS G
  have P1 : ∀ {β : Type} {O : Oracle} {h : Heap} {d : Nat} {k : TVal → Heap → Option β}, vop O (.slice 6 false (.k (.v (.c c))) none (some (.k (kI ((min 1 l.length : Nat) : Int)))) none) h d k = k (.v (.c c1)) h := fun {β O h d k} => qAa _ _ e1
  have P2 : ∀ {β : Type} {O : Oracle} {h : Heap} {d : Nat} {k : TVal → Heap → Option β}, vop O (.slice 6 false (.k (.v (.c c))) none (some (.k (kI ((min 2 l.length : Nat) : Int)))) none) h d k = k (.v (.c c2)) h := fun {β O h d k} => qAa _ _ e2
  have M1 := qF7 1 l.length
  rw [show ((1 : Nat) : Int) = 1 from rfl] at M1
  have M2 := qF7 2 l.length
  rw [show ((2 : Nat) : Int) = 2 from rfl] at M2
  simp (maxSteps := 9999999) +contextual only [exa, ne_eq, not_false_eq_true, reduceAdd, reduceMul, reduceLT, reduceLeDiff, reduceEqDiff, Int.reduceLT, Int.reduceLE, Int.reduceEq, Int.reduceToNat, exU, h1, hlen, u37 (IntKind.i64.wrap (f + (i : Int))) 24 (by decide) (by decide), hn, hj1, hs2, w0, w1, L, M1, M2, P1, P2, qK5]
  refine qTt s hs _ _ _ _ _ _ _ 0 [] (.p .nilslice) _ (Nat.le_refl _) (fun x hx => by cases hx) (Grow.nil _ _ _) (fun acc' c' h' ha' G' S' => ?_)
  refine qSx nm hnm _ _ _ _ _ _ [c, c1, c2] rfl (fun x hx => ?_) _ acc' c' h' ha' G' ((S' _).trans (qAw _ _ (by simp))) (fun h2 e => ?_)
  ·simp only [List.mem_cons, List.not_mem_nil, or_false] at hx
   rcases hx with rfl | rfl | rfl
   ·exact ⟨a0, s0, l0 ▸ hok⟩
   ·exact ⟨a1, s1, qF5 l1 hok⟩
   ·exact ⟨a2, s2, qF5 l2 hok⟩
  ·rw [w11_7, b11_7]
   simp (maxSteps := 9999999) +contextual only [exa, ne_eq, not_false_eq_true, reduceAdd, reduceMul, reduceLT, reduceLeDiff, reduceEqDiff, Int.reduceLT, Int.reduceLE, Int.reduceEq, Int.reduceToNat, qA5 i (by omega)]
   exact ihl h2 (e _ _ ((S' _).trans (qBO _ _ hn)))
theorem qSk (f : Int) (name : List UInt8) (hname : name.length ≤ 30) (s : Sl Int) (hs : ∀ n ∈ s.list, rngN n) (l : List VT) (hl : l.length ≤ 5) (hok : ∀ x ∈ l, okV x) (c : Cell) (G : Bears 6 c (l.map VT.row)) (h : Heap) :
  lim tab.get S 11 0 2 [kI f, kS name, nsP s, .v (.c c)] h = some (kB true, []) := by
 rw [w11_2, b11_2]
 have e1 : ∀ rows : List (List UInt8), (rows.map sRow).flatten = rows.map PVal.str := fun rows => by
  induction rows with
  | nil => rfl
  | cons a rows ih => rw [List.map_cons, List.flatten_cons, ih]; rfl
 have A1 : ∀ {β : Type} {k : TVal → Heap → Option β}, vop Om (.append 1 16 true (.k (rf h.ims.length 0 (some 0))) (.k (kSl 1 true (nmsL.map sRow)))) (h.push (.cells [] 0)) 54 k = k (rf (h.push (.cells [] 0)).ims.length 23 none) ((h.push (.cells [] 0)).push (.cells (pcells (nmsL.map PVal.str)) 0)) := fun {β k} => by
  rw [← e1]
  exact qGY (O := Om) (sz := 1) (by' := 16) (new := nmsL.map sRow) (.inr ⟨true, rfl⟩) (by decide) (by decide) (qAw h _ (by simp))
 have A2 : ∀ {β : Type} {k : TVal → Heap → Option β} (h1 : Heap), h1.get (.im (h.push (.cells [] 0)).ims.length) = some (.cells (pcells (nmsL.map PVal.str)) 0) → vop Om (.append 1 16 true (.k (rf (h.push (.cells [] 0)).ims.length 23 none)) (.k (rf h1.ims.length 1 (some 1)))) (h1.push (.cells [.p (.str name)] 0)) 57 k
   = k (rf (h1.push (.cells [.p (.str name)] 0)).ims.length 24 none) (((h1.push (.cells [.p (.str name)] 0)).put (.im (h.push (.cells [] 0)).ims.length) .dead).push (.cells (pcells (nmsL.map PVal.str) ++ [.p (.str name)]) 0)) := fun {β k} h1 hg =>
  qLm (O := Om) (sz := 1) (by' := 16) (la := 23) (lb := 1) (by decide) (by decide) (qBO _ _ hg) (qAw h1 _ (by simp)) rfl rfl
 have A2' := fun {β : Type} {k : TVal → Heap → Option β} => A2 (k := k) ((h.push (.cells [] 0)).push (.cells (pcells (nmsL.map PVal.str)) 0)) (qAw _ _ (by simp))
 simp (maxSteps := 9999999) +contextual only [exa, ne_eq, not_false_eq_true, reduceAdd, reduceMul, reduceLT, reduceLeDiff, reduceEqDiff, Int.reduceLT, Int.reduceLE, Int.reduceEq, Int.reduceToNat, exU, qDo, qLl, u40, A1, A2']
 have e2 : nmsL.map PVal.str ++ [PVal.str name] = (nmsL ++ [name]).map PVal.str := by
  rw [List.map_append]; rfl
 rw [e2]
 have hlen : ∀ (h : Heap) (i : Nat) (o : AObj), (h.put (.im i) o).ims.length = h.ims.length := fun h i o => by show (h.ims.set i o).length = _; rw [List.length_set]
 refine qSm f name hname s hs l hl hok c G _ 0 _ ?_
 have := qAw (((((h.push (.cells [] 0)).push (.cells (pcells (nmsL.map PVal.str)) 0)).push (.cells [.p (.str name)] 0)).put (.im (h.push (.cells [] 0)).ims.length) .dead)) (.cells (pcells ((nmsL ++ [name]).map PVal.str)) 0) (by simp)
 rw [hlen] at this
 exact this
theorem qSB (v x : VT) (key : List UInt8) : (putM v key x).n = v.n := by
 unfold putM
 split <;> rfl
theorem qM7 : ∀ (g : List VT) (v : VT) (ks : List Int), (tabM v ks g).n = v.n
 | [], _, _ => rfl
 | x :: g, v, ks => by rw [tabM, qM7 g, qSB]
theorem qO6 (r : RT) (d : Int) (h : rngN r.n) : rngN (goodR r d).n := by
 have z : rngN 0 := ⟨by decide, by decide⟩
 rw [qEu]
 unfold goodK
 repeat' split
 all_goals first | exact z | exact h | (rw [qM7]; exact z)
abbrev argsP (s : Sl RT) : TVal := .v (.c (.p (slP 5 RT.row s)))
theorem qR0 (f : Int) (name : List UInt8) (hname : name.length ≤ 30) (s : Sl Int) (hs : ∀ n ∈ s.list, rngN n) (ars : Sl RT) (hlen : ars.len ≤ 5) (har : ∀ r ∈ ars.list, rngN r.n) :
  ∀ (i : Nat) (acc : List VT) (c : Cell) (h : Heap), acc.length = min i ars.len → (∀ x ∈ acc, okV x) → Grow [51] 6 c (acc.map VT.row) h → lim tab.get S 11 0 1 [kI f, kS name, argsP ars, nsP s, .v (.c c), kI (i : Int)] h = some (kB true, []) := by
 refine qAj ars.len (fun i hi acc c h hl ha G => ?_) (fun i hi ihl acc c h hl ha G => ?_) <;> rw [w11_1, b11_1]
 ·have h1 : ¬ (i : Int) < (ars.len : Int) := by omega
  simp (maxSteps := 9999999) +contextual only [exa, ne_eq, not_false_eq_true, reduceAdd, reduceMul, reduceLT, reduceLeDiff, reduceEqDiff, Int.reduceLT, Int.reduceLE, Int.reduceEq, Int.reduceToNat, exW, h1]
  exact qSk f name hname s hs acc (by omega) ha c G.bears h
 ·have h1 : (i : Int) < (ars.len : Int) := by omega
  obtain ⟨r, hr, _, hm⟩ := qAS (l := ars.list) (i := i) hi
  by_cases hf : fewR r 40 = 0
  ·simp (maxSteps := 9999999) +contextual only [exa, ne_eq, not_false_eq_true, reduceAdd, reduceMul, reduceLT, reduceLeDiff, reduceEqDiff, Int.reduceLT, Int.reduceLE, Int.reduceEq, Int.reduceToNat, exW, h1, hr, u29, hf, oneOf]
  ·have sm := qNK (by decide) hf
   have u31' := fun {β : Type} {k : TVal → Heap → Option β} {h : Heap} {d : Nat} => u31 (k := k) (h := h) (d := d) r sm 4
   obtain ⟨c', h', G', e', K', I'⟩ := G.app (d := 51) (by' := 88) (new := [(goodR r 4).row]) true (by decide) (by simp) (fun r hr => by simp at hr; subst hr; exact VT.row_len _) (by simp; omega) (by decide)
   have B : ∀ {β : Type} {O : Oracle} {h : Heap} {d : Nat} {k : TVal → Heap → Option β}, vop O (.bslice 6 1 z6 [(0, .k (.v (.agg (pcells (goodR r 4).row))))] false) h d k = k (kSl 6 true [(goodR r 4).row]) h := fun {β O h d k} => qDH 6 z6 _ rfl (VT.row_len _)
   simp (maxSteps := 9999999) +contextual only [exa, ne_eq, not_false_eq_true, reduceAdd, reduceMul, reduceLT, reduceLeDiff, reduceEqDiff, Int.reduceLT, Int.reduceLE, Int.reduceEq, Int.reduceToNat, exW, h1, hr, u29, hf, u31', B, e', qA5 i (by omega)]
   refine ihl (acc ++ [goodR r 4]) c' h' (by simp; omega) (fun x hx => ?_) (by rw [List.map_append]; exact G')
   rcases List.mem_append.1 hx with hx | hx
   ·exact ha x hx
   ·obtain rfl := List.mem_singleton.1 hx
    exact ⟨qQX sm 4, qO6 r 4 (har r hm)⟩
def toSl (o : Option (List Int)) : Sl Int := match o with
 | none => .nil
 | some l => .mk false l
theorem qN0 (o : Option (List Int)) : intsP .i64 o = slP 1 iRow (toSl o) := by cases o <;> rfl
theorem qMT (o : Option (List Int)) : (toSl o).list = intsL o := by cases o <;> rfl
theorem qOi {β : Type} {k : TVal → Heap → Option β} {h : Heap} {d : Nat} : vcall Om (.v (.c (.func 36 []))) [] h d k = k (kB true) h := qAB 36 _ _ rfl qRh rfl
theorem evals_law (f : Int) (name : List UInt8) (ars : Sl RT) (ns : Option (List Int)) (har : ∀ r ∈ ars.list, rngN r.n) (hns : ∀ n ∈ intsL ns, rngN n) : orc S (lim tab.get S) 11 [kI f, kS name, argsP ars, .pv (intsP .i64 ns)] [] = some (kB true, []) := by
 refine (qAA rfl).trans ?_
 show lim tab.get S 11 0 0 [kI f, kS name, argsP ars, .pv (intsP .i64 ns)] h0 = _
 rw [qN0, w11_0, b11_0]
 by_cases h1 : (5 : Int) < (ars.len : Int)
 ·simp (maxSteps := 9999999) +contextual only [exa, ne_eq, not_false_eq_true, reduceAdd, reduceMul, reduceLT, reduceLeDiff, reduceEqDiff, Int.reduceLT, Int.reduceLE, Int.reduceEq, Int.reduceToNat, exW, qOi, h1, oneOf]
 ·by_cases h2 : (30 : Int) < (name.length : Int)
  ·simp (maxSteps := 9999999) +contextual only [exa, ne_eq, not_false_eq_true, reduceAdd, reduceMul, reduceLT, reduceLeDiff, reduceEqDiff, Int.reduceLT, Int.reduceLE, Int.reduceEq, Int.reduceToNat, exW, qOi, h1, h2, oneOf]
  ·simp (maxSteps := 9999999) +contextual only [exa, ne_eq, not_false_eq_true, reduceAdd, reduceMul, reduceLT, reduceLeDiff, reduceEqDiff, Int.reduceLT, Int.reduceLE, Int.reduceEq, Int.reduceToNat, exW, qOi, h1, h2]
   exact qR0 f name (by omega) (toSl ns) (fun n hn => hns n (qMT ns ▸ hn)) ars (by omega) har 0 [] (.p .nilslice) _ rfl (fun x hx => by cases hx) (Grow.nil _ _ _)
end Go.Proofs.YtlkejchbcchecaaDoor.Ab
