/- Names, rows of names: small contracts. -/
import Derived.Test.YtlkejchbcchecaaDoorFrA
set_option linter.all false
set_option linter.unusedVariables false
set_option linter.unusedSimpArgs false
set_option maxRecDepth 100000
namespace Go.Proofs.YtlkejchbcchecaaDoor.Ab
open Go Go.AI
def isDigit (n : Nat) : Bool := Nat.ble 48 n && Nat.ble n 57
def isLetter (n : Nat) : Bool := Nat.ble 97 n && Nat.ble n 122 || Nat.ble 65 n && Nat.ble n 90 || Nat.beq n 95
def isWord (n : Nat) : Bool := isLetter n || isDigit n
theorem rdigit_ok (b : UInt8) : Om 108 [kU b] [] = some (kB (isDigit b.toNat), []) := (orc_none rfl).trans (byte_bool blks_ok (p := isDigit) (N := 20) (by kernel_rfl) b)
theorem rletter_ok (b : UInt8) : Om 107 [kU b] [] = some (kB (isLetter b.toNat), []) := (orc_none rfl).trans (byte_bool blks_ok (p := isLetter) (N := 20) (by kernel_rfl) b)
theorem u107 {β : Type} {k : TVal → Heap → Option β} {h : Heap} {d : Nat} (b : UInt8) : vcall Om (.v (.c (.func 107 []))) [kU b] h d k = k (kB (isLetter b.toNat)) h := vcall_pure 107 _ _ rfl (rletter_ok b) rfl
theorem u108 {β : Type} {k : TVal → Heap → Option β} {h : Heap} {d : Nat} (b : UInt8) : vcall Om (.v (.c (.func 108 []))) [kU b] h d k = k (kB (isDigit b.toNat)) h := vcall_pure 108 _ _ rfl (rdigit_ok b) rfl
def identM : List UInt8 → Bool
 | [] => false
 | b :: s => decide ((b :: s).length ≤ 16) && isLetter b.toNat && (b :: s).all fun c => isWord c.toNat
theorem ident_loop (s : List UInt8) (hl : s.length < 4611686018427387904) (h : Heap) : ∀ i : Nat, lim tab.get S 49 0 1 [kS s, kI (i : Int)] h = some (kB ((s.drop i).all fun c => isWord c.toNat), []) := by
 refine loop_up s.length (fun i hi => ?_) (fun i hi ih => ?_) <;> rw [w49_1, b49_1]
 ·have h1 : ¬ (i : Int) < (s.length : Int) := by omega
  simp (config := { maxSteps := 10000000 }) +contextual only [exa, ne_eq, not_false_eq_true, Nat.reduceAdd, Nat.reduceMul, Nat.reduceLT, Nat.reduceLeDiff, Nat.reduceEqDiff, Int.reduceLT, Int.reduceLE, Int.reduceEq, Int.reduceToNat, h1, at_end hi, oneOf, List.all_nil]
 ·have h1 : (i : Int) < (s.length : Int) := by omega
  obtain ⟨b, hs, h2, _⟩ := at_step hi
  cases h3 : (!isLetter b.toNat && !isDigit b.toNat)
  ·simp (config := { maxSteps := 10000000 }) +contextual only [exa, ne_eq, not_false_eq_true, Nat.reduceAdd, Nat.reduceMul, Nat.reduceLT, Nat.reduceLeDiff, Nat.reduceEqDiff, Int.reduceLT, Int.reduceLE, Int.reduceEq, Int.reduceToNat, h1, h2, hs, u107, u108, List.all_cons, h3, wrapS i (by omega), ih]
   have : isWord b.toNat = true := by unfold isWord; revert h3; cases isLetter b.toNat <;> cases isDigit b.toNat <;> simp
   rw [this]; rfl
  ·simp (config := { maxSteps := 10000000 }) +contextual only [exa, ne_eq, not_false_eq_true, Nat.reduceAdd, Nat.reduceMul, Nat.reduceLT, Nat.reduceLeDiff, Nat.reduceEqDiff, Int.reduceLT, Int.reduceLE, Int.reduceEq, Int.reduceToNat, h1, h2, hs, u107, u108, List.all_cons, h3, oneOf]
   have : isWord b.toNat = false := by unfold isWord; revert h3; cases isLetter b.toNat <;> cases isDigit b.toNat <;> simp
   rw [this]; rfl
theorem ident_ok (s : List UInt8) : Om 49 [kS s] [] = some (kB (identM s), []) := by
 refine (orc_none rfl).trans ?_
 show lim tab.get S 49 0 0 [kS s] h0 = _
 rw [w49_0, b49_0]
 match s with
 | [] =>
  simp (config := { maxSteps := 10000000 }) +contextual only [exa, ne_eq, not_false_eq_true, Nat.reduceAdd, Nat.reduceMul, Nat.reduceLT, Nat.reduceLeDiff, Nat.reduceEqDiff, Int.reduceLT, Int.reduceLE, Int.reduceEq, Int.reduceToNat, oneOf, identM, Int.natCast_zero]
 | b :: s =>
  have z0 : ¬ ((s.length + 1 : Nat) : Int) = 0 := by omega
  by_cases h1 : (16 : Int) < ((s.length + 1 : Nat) : Int)
  ·have h2 : ¬ s.length + 1 ≤ 16 := by omega
   simp (config := { maxSteps := 10000000 }) +contextual only [exa, ne_eq, not_false_eq_true, Nat.reduceAdd, Nat.reduceMul, Nat.reduceLT, Nat.reduceLeDiff, Nat.reduceEqDiff, Int.reduceLT, Int.reduceLE, Int.reduceEq, Int.reduceToNat, z0, h1, h2, oneOf, identM, u107]
  ·have h2 : s.length + 1 ≤ 16 := by omega
   have hr := ident_loop (b :: s) (by simp; omega) h0 0
   rw [List.drop_zero] at hr
   cases h3 : isLetter b.toNat
   ·simp (config := { maxSteps := 10000000 }) +contextual only [exa, ne_eq, not_false_eq_true, Nat.reduceAdd, Nat.reduceMul, Nat.reduceLT, Nat.reduceLeDiff, Nat.reduceEqDiff, Int.reduceLT, Int.reduceLE, Int.reduceEq, Int.reduceToNat, z0, h1, h2, h3, oneOf, identM, u107]
   ·simp (config := { maxSteps := 10000000 }) +contextual only [exa, ne_eq, not_false_eq_true, Nat.reduceAdd, Nat.reduceMul, Nat.reduceLT, Nat.reduceLeDiff, Nat.reduceEqDiff, Int.reduceLT, Int.reduceLE, Int.reduceEq, Int.reduceToNat, z0, h1, h2, h3, oneOf, identM, u107]
    exact hr
theorem u49 {β : Type} {k : TVal → Heap → Option β} {h : Heap} {d : Nat} (s : List UInt8) : vcall Om (.v (.c (.func 49 []))) [kS s] h d k = k (kB (identM s)) h := vcall_pure 49 _ _ rfl (ident_ok s) rfl
/-! ### rows of names -/
def idxM (x : List UInt8) : List (List UInt8) → Option Nat
 | [] => none
 | a :: l => if x = a then some 0 else (idxM x l).map (· + 1)
def idxI (o : Option Nat) (i : Nat) : Int := match o with
 | none => -1
 | some n => ((i + n : Nat) : Int)
theorem idxI_s (o : Option Nat) (i : Nat) : idxI (o.map (· + 1)) i = idxI o (i + 1) := by cases o <;> simp [idxI]; omega
theorem index_loop (l : Sl (List UInt8)) (x : List UInt8) (hl : l.len < 4611686018427387904) (h : Heap) : ∀ i : Nat, lim tab.get S 131 0 1 [.v (.c (.p (slP 1 sRow l))), kS x, kI (l.len : Int), kI (i : Int)] h = some (kI (idxI (idxM x (l.list.drop i)) i), []) := by
 refine loop_up l.len (fun i hi => ?_) (fun i hi ih => ?_) <;> rw [w131_1, b131_1]
 ·have h1 : ¬ (i : Int) < (l.len : Int) := by omega
  simp (config := { maxSteps := 10000000 }) +contextual only [exa, ne_eq, not_false_eq_true, Nat.reduceAdd, Nat.reduceMul, Nat.reduceLT, Nat.reduceLeDiff, Nat.reduceEqDiff, Int.reduceLT, Int.reduceLE, Int.reduceEq, Int.reduceToNat, h1, at_end hi, oneOf, idxM, idxI]
 ·have h1 : (i : Int) < (l.len : Int) := by omega
  obtain ⟨b, hs, h2, _⟩ := at_step hi
  by_cases h3 : x = b
  ·simp (config := { maxSteps := 10000000 }) +contextual only [exa, ne_eq, not_false_eq_true, Nat.reduceAdd, Nat.reduceMul, Nat.reduceLT, Nat.reduceLeDiff, Nat.reduceEqDiff, Int.reduceLT, Int.reduceLE, Int.reduceEq, Int.reduceToNat, h1, h2, hs, h3, oneOf, idxM, idxI, if_true]
  ·simp (config := { maxSteps := 10000000 }) +contextual only [exa, ne_eq, not_false_eq_true, Nat.reduceAdd, Nat.reduceMul, Nat.reduceLT, Nat.reduceLeDiff, Nat.reduceEqDiff, Int.reduceLT, Int.reduceLE, Int.reduceEq, Int.reduceToNat, h1, h2, hs, h3, oneOf, idxM, wrapS i (by omega), ih, if_false, idxI_s]
theorem index_ok (l : Sl (List UInt8)) (x : List UInt8) (hl : l.len < 4611686018427387904) : Om 131 [.v (.c (.p (slP 1 sRow l))), kS x] [] = some (kI (idxI (idxM x l.list) 0), []) := by
 refine (orc_none rfl).trans ?_
 show lim tab.get S 131 0 0 [.v (.c (.p (slP 1 sRow l))), kS x] h0 = _
 rw [w131_0, b131_0]
 simp (config := { maxSteps := 10000000 }) +contextual only [exa, ne_eq, not_false_eq_true, Nat.reduceAdd, Nat.reduceMul, Nat.reduceLT, Nat.reduceLeDiff, Nat.reduceEqDiff, Int.reduceLT, Int.reduceLE, Int.reduceEq, Int.reduceToNat]
 exact index_loop l x hl h0 0
theorem u131 {β : Type} {k : TVal → Heap → Option β} {h : Heap} {d : Nat} (l : Sl (List UInt8)) (x : List UInt8) (hl : l.len < 4611686018427387904) : vcall Om (.v (.c (.func 131 []))) [.v (.c (.p (slP 1 sRow l))), kS x] h d k = k (kI (idxI (idxM x l.list) 0)) h := vcall_pure 131 _ _ rfl (index_ok l x hl) rfl
theorem contains_ok (l : Sl (List UInt8)) (x : List UInt8) (hl : l.len < 4611686018427387904) : Om 139 [.v (.c (.p (slP 1 sRow l))), kS x] [] = some (kB (idxM x l.list).isSome, []) := by
 refine (orc_none rfl).trans ?_
 show lim tab.get S 139 0 0 [.v (.c (.p (slP 1 sRow l))), kS x] h0 = _
 rw [w139_0, b139_0]
 simp (config := { maxSteps := 10000000 }) +contextual only [exa, ne_eq, not_false_eq_true, Nat.reduceAdd, Nat.reduceMul, Nat.reduceLT, Nat.reduceLeDiff, Nat.reduceEqDiff, Int.reduceLT, Int.reduceLE, Int.reduceEq, Int.reduceToNat, u131 l x hl, oneOf]
 cases idxM x l.list with
 | none => rfl
 | some n => simp [idxI]
theorem u139 {β : Type} {k : TVal → Heap → Option β} {h : Heap} {d : Nat} (l : Sl (List UInt8)) (x : List UInt8) (hl : l.len < 4611686018427387904) : vcall Om (.v (.c (.func 139 []))) [.v (.c (.p (slP 1 sRow l))), kS x] h d k = k (kB (idxM x l.list).isSome) h := vcall_pure 139 _ _ rfl (contains_ok l x hl) rfl
theorem in_loop (l : Sl (List UInt8)) (x : List UInt8) (hl : l.len < 4611686018427387904) (h : Heap) : ∀ i : Nat, lim tab.get S 163 0 1 [.v (.c (.p (slP 1 sRow l))), kS x, kI (i : Int)] h = some (kB (idxM x (l.list.drop i)).isSome, []) := by
 refine loop_up l.len (fun i hi => ?_) (fun i hi ih => ?_) <;> rw [w163_1, b163_1]
 ·have h1 : ¬ (i : Int) < (l.len : Int) := by omega
  simp (config := { maxSteps := 10000000 }) +contextual only [exa, ne_eq, not_false_eq_true, Nat.reduceAdd, Nat.reduceMul, Nat.reduceLT, Nat.reduceLeDiff, Nat.reduceEqDiff, Int.reduceLT, Int.reduceLE, Int.reduceEq, Int.reduceToNat, h1, at_end hi, oneOf, idxM]
  rfl
 ·have h1 : (i : Int) < (l.len : Int) := by omega
  obtain ⟨b, hs, h2, _⟩ := at_step hi
  by_cases h3 : b = x
  ·simp (config := { maxSteps := 10000000 }) +contextual only [exa, ne_eq, not_false_eq_true, Nat.reduceAdd, Nat.reduceMul, Nat.reduceLT, Nat.reduceLeDiff, Nat.reduceEqDiff, Int.reduceLT, Int.reduceLE, Int.reduceEq, Int.reduceToNat, h1, h2, hs, h3, oneOf, idxM, if_true]
  ·have h4 : ¬ x = b := fun e => h3 e.symm
   simp (config := { maxSteps := 10000000 }) +contextual only [exa, ne_eq, not_false_eq_true, Nat.reduceAdd, Nat.reduceMul, Nat.reduceLT, Nat.reduceLeDiff, Nat.reduceEqDiff, Int.reduceLT, Int.reduceLE, Int.reduceEq, Int.reduceToNat, h1, h2, hs, h3, h4, oneOf, idxM, wrapS i (by omega), ih, if_false]
   cases idxM x (l.list.drop (i + 1)) <;> rfl
theorem in_ok (l : Sl (List UInt8)) (x : List UInt8) (hl : l.len < 4611686018427387904) : Om 163 [.v (.c (.p (slP 1 sRow l))), kS x] [] = some (kB (idxM x l.list).isSome, []) := by
 refine (orc_none rfl).trans ?_
 show lim tab.get S 163 0 0 [.v (.c (.p (slP 1 sRow l))), kS x] h0 = _
 rw [w163_0, b163_0]
 exact in_loop l x hl h0 0
theorem u163 {β : Type} {k : TVal → Heap → Option β} {h : Heap} {d : Nat} (l : Sl (List UInt8)) (x : List UInt8) (hl : l.len < 4611686018427387904) : vcall Om (.v (.c (.func 163 []))) [.v (.c (.p (slP 1 sRow l))), kS x] h d k = k (kB (idxM x l.list).isSome) h := vcall_pure 163 _ _ rfl (in_ok l x hl) rfl
end Go.Proofs.YtlkejchbcchecaaDoor.Ab
