/- The rules,the contracts,the plain laws that lead to the statement. Own work. Condition: what each theorem names. -/
import Derived.Test.YtiahgnkffnokfaaGreatDoorTabXW
import Derived.Test.YtiahgnkffnokfaaGreatDoorV0
import Derived.ArgAppend
import Derived.Below
import Derived.ChangeAlike
import Derived.Deep.RegionLaw
import Derived.Defers
import Derived.Laws.IdiomCopy
import Derived.Laws.IdiomStrings
import Derived.Laws.LoneSync
import Derived.Laws.MakeOwn
import Derived.Laws.NewBlocks
import Derived.Laws.Pointers
import Derived.Lib.CountLaws
import Derived.Lib.LazyBuf
import Derived.Lib.SliceRun
import Derived.LoopN
import Derived.LoopTactic
import Derived.RangeFuncBox
import Derived.RegionCalls
import Derived.RegionTactic
import Derived.Tactics
import Derived.Tactics2
import Derived.WalkKit
import Derived.WalkSpells
import Derived.Lib.ItoaNum
set_option linter.all false
set_option linter.unusedVariables false
set_option linter.unusedSimpArgs false
set_option linter.unusedSectionVars false
set_option maxRecDepth 100000
set_option maxHeartbeats 4000000
open Nat renaming reduceAdd→rA,reduceMul→rB,reduceLT→rD,reduceLeDiff→rE,reduceEqDiff→rF
open Int renaming reduceLT→rG,reduceLE→rH,reduceEq→rI,reduceToNat→rJ
open Option renaming some.injEq→rK,bind_eq_some_iff→rL,bind_eq_bind→rM
namespace Go.Proofs.Quo
open Go Go.RowKit
def bsA(l:List UInt8):Value := .string ⟨l.toArray⟩
def olds:List (List UInt8):=[[92],[92,92],[34],[92,34],[10],[92,110],[9],[92,116]]
theorem qJU{e:TypeId}{z:Option Value}{n b:Nat}(h:(Tryz.prog.info? e).map (fun i=>(i.zero,i.size,i.bytes))=some (z,n,b)):∃ i,Tryz.prog.info? e=some i∧i.zero=z∧i.size=n∧i.bytes=b:=by
  obtain⟨i,h1,h2⟩:=Option.map_eq_some_iff.1 h;cases h2;exact⟨i,h1,rfl,rfl,rfl⟩
theorem qPk:∃ i,Tryz.prog.info? 9=some i∧i.zero=some (.string ⟨#[]⟩)∧i.size=1∧i.bytes=16:=qJU (by kernel_rfl)
theorem qAZ{w:World}{a:Addr}{v:Value}(h:w.cell? a=some v):a.block<w.heap.size:=World.block_lt_of_cell? _ _ h
structure St (w:World) (C D:Nat) (dn:List Nat) (n:Nat) (W:World):Prop where
  bel:Below w.heap.size w W
  nl:∀ j,j<256→j∉dn→W.cell? ⟨C,j,none⟩=some (.slice none 0 0)
  an:∀ j,j<256→(W.cell? ⟨C,j,none⟩).isSome=true
  tor:W.cell? ⟨C,256,none⟩=some (.slice (some ⟨D,0,none⟩) n 4)
  fc:∀ j,W.frozen? ⟨C,j,none⟩=false
  dc:∀ j,j<4→(W.cell? ⟨D,j,none⟩).isSome=true
  fd:∀ j,W.frozen? ⟨D,j,none⟩=false
  lC:w.heap.size≤C∧C<W.heap.size
  lD:w.heap.size≤D∧D<W.heap.size
  ne:C≠D
theorem St.alloc{w:World}{C D:Nat}{dn:List Nat}{n:Nat}{W:World}(H:St w C D dn n W)(o:Obj):St w C D dn n (W.alloc o) where
  bel:=H.bel.alloc H.bel.size _
  nl:=fun j hj h=>(World.cell?_alloc_past _ _ _ H.lC.2).trans (H.nl j hj h)
  an:=fun j hj=>by rw[World.cell?_alloc_past _ _ _ H.lC.2]; exact H.an j hj
  tor:=(World.cell?_alloc_past _ _ _ H.lC.2).trans H.tor
  fc:=fun j=>(World.frozen?_alloc_past _ _ _ H.lC.2).trans (H.fc j)
  dc:=fun j hj=>by rw[World.cell?_alloc_past _ _ _ H.lD.2]; exact H.dc j hj
  fd:=fun j=>(World.frozen?_alloc_past _ _ _ H.lD.2).trans (H.fd j)
  lC:=⟨H.lC.1,by have:=H.lC.2; simp; omega⟩
  lD:=⟨H.lD.1,by have:=H.lD.2; simp; omega⟩
  ne:=H.ne
theorem St.drew{w:World}{C D:Nat}{dn:List Nat}{n:Nat}{W:World}(H:St w C D dn n W):St w C D dn n W.drew:=⟨H.bel.drew,H.nl,H.an,H.tor,H.fc,H.dc,H.fd,H.lC,H.lD,H.ne⟩
theorem St.setD{w:World}{C D:Nat}{dn:List Nat}{n:Nat}{W:World}(H:St w C D dn n W)(k:Nat)(v:Value)(hk:k<4):St w C D dn n (W.setCell ⟨D,k,none⟩ v) where
  bel:=H.bel.setCell (p:=⟨D,k,none⟩) H.lD.1 _
  nl:=fun j hj h=>(World.cell?_setCell_other _ _ _ _ (fun e=>H.ne (congrArg Addr.block e).symm)).trans (H.nl j hj h)
  an:=fun j hj=>by rw[World.cell?_setCell_other _ _ _ _ (fun e=>H.ne (congrArg Addr.block e).symm)]; exact H.an j hj
  tor:=(World.cell?_setCell_other _ _ _ _ (fun e=>H.ne (congrArg Addr.block e).symm)).trans H.tor
  fc:=fun j=>(World.frozen?_setCell _ _ _ _).trans (H.fc j)
  dc:=fun j hj=>by
    by_cases h:j=k
    · subst h
      obtain⟨u,hu⟩:=Option.isSome_iff_exists.1 (H.dc j hj);rw[World.cell?_setCell_same _ _ _ hu]; rfl
    · rw[World.cell?_setCell_other _ _ _ _ (fun e=>h (congrArg Addr.off e).symm)]; exact H.dc j hj
  fd:=fun j=>(World.frozen?_setCell _ _ _ _).trans (H.fd j)
  lC:=⟨H.lC.1,by have:=H.lC.2; simp; omega⟩
  lD:=⟨H.lD.1,by have:=H.lD.2; simp; omega⟩
  ne:=H.ne
theorem St.setT{w:World}{C D:Nat}{dn:List Nat}{n:Nat}{W:World}(H:St w C D dn n W)(m:Nat):St w C D dn m (W.setCell ⟨C,256,none⟩ (.slice (some ⟨D,0,none⟩) m 4)) where
  bel:=H.bel.setCell (p:=⟨C,256,none⟩) H.lC.1 _
  nl:=fun j hj h=>(World.cell?_setCell_other _ _ _ _ (fun e=>by have:=congrArg Addr.off e; simp at this; omega)).trans (H.nl j hj h)
  an:=fun j hj=>by rw[World.cell?_setCell_other _ _ _ _ (fun e=>by have:=congrArg Addr.off e; simp at this; omega)]; exact H.an j hj
  tor:=World.cell?_setCell_same _ _ _ H.tor
  fc:=fun j=>(World.frozen?_setCell _ _ _ _).trans (H.fc j)
  dc:=fun j hj=>by rw[World.cell?_setCell_other _ _ _ _ (fun e=>H.ne (congrArg Addr.block e))]; exact H.dc j hj
  fd:=fun j=>(World.frozen?_setCell _ _ _ _).trans (H.fd j)
  lC:=⟨H.lC.1,by have:=H.lC.2; simp; omega⟩
  lD:=⟨H.lD.1,by have:=H.lD.2; simp; omega⟩
  ne:=H.ne
theorem St.setO{w:World}{C D:Nat}{dn:List Nat}{n:Nat}{W:World}(H:St w C D dn n W)(o:Nat)(v:Value)(ho:o<256):St w C D (o::dn) n (W.setCell ⟨C,o,none⟩ v) where
  bel:=H.bel.setCell (p:=⟨C,o,none⟩) H.lC.1 _
  nl:=fun j hj h=>(World.cell?_setCell_other _ _ _ _ (fun e=>by have:=congrArg Addr.off e; simp at this h; omega)).trans (H.nl j hj (fun h2=>h (by simp[h2])))
  an:=fun j hj=>by
    by_cases h:j=o
    · subst h
      obtain⟨u,hu⟩:=Option.isSome_iff_exists.1 (H.an j hj);rw[World.cell?_setCell_same _ _ _ hu]; rfl
    · rw[World.cell?_setCell_other _ _ _ _ (fun e=>h (congrArg Addr.off e).symm)]; exact H.an j hj
  tor:=(World.cell?_setCell_other _ _ _ _ (fun e=>by have:=congrArg Addr.off e; simp at this; omega)).trans H.tor
  fc:=fun j=>(World.frozen?_setCell _ _ _ _).trans (H.fc j)
  dc:=fun j hj=>by rw[World.cell?_setCell_other _ _ _ _ (fun e=>H.ne (congrArg Addr.block e))]; exact H.dc j hj
  fd:=fun j=>(World.frozen?_setCell _ _ _ _).trans (H.fd j)
  lC:=⟨H.lC.1,by have:=H.lC.2; simp; omega⟩
  lD:=⟨H.lD.1,by have:=H.lD.2; simp; omega⟩
  ne:=H.ne
theorem zeros194:Tryz.zeroCells194.toList=List.replicate 257 (.slice none 0 0):=by kernel_rfl
theorem zero_at(j:Nat)(h:j<Tryz.zeroCells194.toList.length):Tryz.zeroCells194.toList[j] = .slice none 0 0:=by
  obtain⟨x,hx⟩:∃ x,x=Tryz.zeroCells194.toList[j]:=⟨_,rfl⟩;have hm:x∈Tryz.zeroCells194.toList:=hx▸List.getElem_mem h;rw[← hx];rw[zeros194] at hm;exact List.eq_of_mem_replicate hm
theorem qCW(b:Nat):∀ (vs:List Value) (o:Nat) (w:World),(w.setCells b o vs).heap.size=w.heap.size
  |[],_,_=>rfl
  |v::vs,o,w=>by rw[World.setCells,qCW b vs]; simp
theorem qDO{B b:Nat}{a:World}(hb:B≤b):∀ (vs:List Value) (o:Nat) (w:World),Below B a w→Below B a (w.setCells b o vs)
  |[],_,_,h=>h
  |v::vs,o,w,h=>qDO hb vs (o+1) _ (h.setCell (p:=⟨b,o,none⟩) hb v)
theorem qIZ(w:World):∃ W2,(storeCells ⟨w.heap.size+1,0,none⟩ (Tryz.zeroCells194.toList.set 256 (.slice (some ⟨w.heap.size,0,none⟩) 0 4))).run Tryz.prog ((w.alloc (.cells #[.string ⟨#[]⟩,.string ⟨#[]⟩,.string ⟨#[]⟩,.string ⟨#[]⟩] 9)).alloc (.cells Tryz.zeroCells194 194)) = .ok () W2∧St w (w.heap.size+1) w.heap.size [] 0 W2:=by
  generalize hWA:(w.alloc (.cells #[.string ⟨#[]⟩,.string ⟨#[]⟩,.string ⟨#[]⟩,.string ⟨#[]⟩] 9)).alloc (.cells Tryz.zeroCells194 194)=WA;have hsz:WA.heap.size=w.heap.size+2:=by rw[← hWA]; simp
  have hh1:WA.heap[w.heap.size+1]?=some (.cells Tryz.zeroCells194 194 (0,0)):=by
    rw[← hWA];have:=World.alloc_heap_new (w.alloc (.cells #[.string ⟨#[]⟩,.string ⟨#[]⟩,.string ⟨#[]⟩,.string ⟨#[]⟩] 9)) (.cells Tryz.zeroCells194 194)
    simpa using this
  have hh0:WA.heap[w.heap.size]?=some (.cells #[.string ⟨#[]⟩,.string ⟨#[]⟩,.string ⟨#[]⟩,.string ⟨#[]⟩] 9 (0,0)):=by
    rw[← hWA];have h1:=World.alloc_heap_new w (.cells #[.string ⟨#[]⟩,.string ⟨#[]⟩,.string ⟨#[]⟩,.string ⟨#[]⟩] 9);exact((World.grownBy_alloc (w.alloc (.cells #[.string ⟨#[]⟩,.string ⟨#[]⟩,.string ⟨#[]⟩,.string ⟨#[]⟩] 9)) (.cells Tryz.zeroCells194 194) none).block _ (by simp) (by simp)).trans h1
  have hc:∀ j,j<257→WA.cell? ⟨w.heap.size+1,j,none⟩=some (.slice none 0 0):=fun j hj=>by
    have hv:Tryz.zeroCells194[j]?=some (.slice none 0 0):=by rw[← Array.getElem?_toList,zeros194,List.getElem?_replicate,if_pos hj]
    unfold World.cell?;simp only[hh1,hv];rfl
  have hf1:∀ j,WA.frozen? ⟨w.heap.size+1,j,none⟩=false:=fun j=>by simp[World.frozen?,hh1]
  have hf0:∀ j,WA.frozen? ⟨w.heap.size,j,none⟩=false:=fun j=>by simp[World.frozen?,hh0]
  have hd:∀ j,j<4→(WA.cell? ⟨w.heap.size,j,none⟩).isSome=true:=fun j hj=>by
    match j,hj with
    |0,_|1,_|2,_|3,_=>simp[World.cell?,hh0]
  have hB:Below w.heap.size w WA:=by rw[← hWA]; exact((Below.refl _ w).alloc (Nat.le_refl _) _).alloc (by simp) _
  have hlen:(Tryz.zeroCells194.toList.set 256 (.slice (some ⟨w.heap.size,0,none⟩) 0 4)).length=257:=by rw[List.length_set,zeros194,List.length_replicate]
  have hst:=run_storeCells_cells (P:=Tryz.prog) (w.heap.size+1) 0 (Tryz.zeroCells194.toList.set 256 (.slice (some ⟨w.heap.size,0,none⟩) 0 4)) 0 WA (fun j hj=>by rw[hlen] at hj; simp only[Nat.zero_add]; rw[hc j hj]; rfl) (fun j _=>hf1 _)
    (fun v hv=>by
      rcases List.mem_or_eq_of_mem_set hv with h|rfl
      · rw[zeros194] at h
        rw[List.eq_of_mem_replicate h]; rfl
      · rfl)
  refine⟨_,hst,?_⟩;have hin:=World.cell?_setCells_in (w.heap.size+1) (Tryz.zeroCells194.toList.set 256 (.slice (some ⟨w.heap.size,0,none⟩) 0 4)) 0 WA (fun j hj=>by rw[hlen] at hj; simp only[Nat.zero_add]; rw[hc j hj]; rfl);have hn:∀ j,j<256→(WA.setCells (w.heap.size+1) (0+0) (Tryz.zeroCells194.toList.set 256 (.slice (some ⟨w.heap.size,0,none⟩) 0 4))).cell? ⟨w.heap.size+1,j,none⟩=some (.slice none 0 0):=fun j hj=>by
    have:=hin j (by rw[hlen]; omega);rw[Nat.zero_add] at this;refine this.trans ?_;rw[List.getElem_set_ne (by omega),zero_at]
  have out:∀ j,(WA.setCells (w.heap.size+1) (0+0) (Tryz.zeroCells194.toList.set 256 (.slice (some ⟨w.heap.size,0,none⟩) 0 4))).cell? ⟨w.heap.size,j,none⟩=WA.cell? ⟨w.heap.size,j,none⟩:=fun j=>World.cell?_setCells_out _ _ _ _ _ (fun h=>by simp at h)
  exact{
    bel:=qDO (by omega) _ _ _ hB
    nl:=fun j hj _=>hn j hj
    an:=fun j hj=>by rw[hn j hj]; rfl
    tor:=by
      have:=hin 256 (by rw[hlen]; omega);rw[Nat.zero_add] at this;refine this.trans ?_;rw[List.getElem_set_self]
    fc:=fun j=>(World.frozen?_setCells _ _ _ _ _).trans (hf1 j)
    dc:=fun j hj=>by rw[out]; exact hd j hj
    fd:=fun j=>(World.frozen?_setCells _ _ _ _ _).trans (hf0 j)
    lC:=⟨by omega,by rw[qCW]; omega⟩
    lD:=⟨by omega,by rw[qCW]; omega⟩
    ne:=by omega }
set_option maxRecDepth 100000 in
theorem qOf(rb B cap:Nat)(w:World)(h4:w.cell? ⟨rb,4,none⟩=some (.slice (some ⟨B,0,none⟩) 8 cap))
    (c0:w.cell? ⟨B,0,none⟩=some (.string { data:=#[92] })) (c1:w.cell? ⟨B,1,none⟩=some (.string { data:=#[92,92] })) (c2:w.cell? ⟨B,2,none⟩=some (.string { data:=#[34] })) (c3:w.cell? ⟨B,3,none⟩=some (.string { data:=#[92,34] }))
    (c4:w.cell? ⟨B,4,none⟩=some (.string { data:=#[10] })) (c5:w.cell? ⟨B,5,none⟩=some (.string { data:=#[92,110] })) (c6:w.cell? ⟨B,6,none⟩=some (.string { data:=#[9] })) (c7:w.cell? ⟨B,7,none⟩=some (.string { data:=#[92,116] })) :
    Calls Tryz.prog 117 #[.pointer (some ⟨rb,0,none⟩)] w fun e w'=>e = .returned (.iface 195 (.pointer (some ⟨w.heap.size+1,0,none⟩)))∧St w (w.heap.size+1) w.heap.size [92,34,10,9] 4 w':=by
  obtain⟨i9,i91,i92,i93,i94⟩:=qPk;have hmk:∀ w:World,(Instr.makeSlice 27 (.int .i64 0) (.int .i64 4)).run Tryz.prog w = .ok (.slice (some ⟨w.heap.size,0,none⟩) 0 4) (w.alloc (.cells #[.string ⟨#[]⟩,.string ⟨#[]⟩,.string ⟨#[]⟩,.string ⟨#[]⟩] 9)):=fun w=>by
    have h:=run_makeSlice (P:=Tryz.prog) w 27 9 i9 (.string ⟨#[]⟩) Tryz.underlying27 i91 i92 .i64 .i64 0 4 (by decide) (by decide) (by rw[i93]; decide) (by rw[i94]; decide) (by decide);rw[i93,show madeCells (Value.string ⟨#[]⟩).cells (Int.toNat 4*1)=#[.string ⟨#[]⟩,.string ⟨#[]⟩,.string ⟨#[]⟩,.string ⟨#[]⟩] by kernel_rfl] at h;exact h
  obtain⟨W2,hst,H2⟩:=qIZ w
  go_enter Tryz.func117,Tryz.ntmps117
  go_wp2
  refine wp_loop_rounds 5 ?_
  repeat (rw[rounds_succ]; go_wp2)
  go_loopw [12] (fun i wr=>∃ k:Nat,k≤4∧i = .int .i64 (6 - 2*(k:Int))∧St w (w.heap.size+1) w.heap.size (([9,10,34,92]:List Nat).take k).reverse k wr) (fun i _=>(intOf i+2).toNat)
  case atStart=>exact⟨0,by omega,rfl,H2⟩
  case round =>
    obtain⟨k,hk,rfl,H⟩:=hrel;have lB:B<w.heap.size:=qAZ c0;have d0:=(H.bel.cell (p:=⟨B,0,none⟩) lB).trans c0;have d1:=(H.bel.cell (p:=⟨B,1,none⟩) lB).trans c1;have d2:=(H.bel.cell (p:=⟨B,2,none⟩) lB).trans c2;have d3:=(H.bel.cell (p:=⟨B,3,none⟩) lB).trans c3;have d4:=(H.bel.cell (p:=⟨B,4,none⟩) lB).trans c4;have d5:=(H.bel.cell (p:=⟨B,5,none⟩) lB).trans c5;have d6:=(H.bel.cell (p:=⟨B,6,none⟩) lB).trans c6;have d7:=(H.bel.cell (p:=⟨B,7,none⟩) lB).trans c7;have ht:=H.tor;have hq:∀ (w:World) (a:Option Addr) (n c n' c':Nat),(binOp .eql 26 (.slice a n c) (.slice none n' c')).run Tryz.prog w = .ok (.bool a.isNone) w:=fun w a n c n' c'=>Lib.run_eql_slice_nil w _ _ a n c n' c' Tryz.underlying26
    have e9:∀ h,(({ data:=#[9] }:ByteArray)[0]'h).toNat=9:=fun _=>rfl
    have e10:∀ h,(({ data:=#[10] }:ByteArray)[0]'h).toNat=10:=fun _=>rfl
    have e34:∀ h,(({ data:=#[34] }:ByteArray)[0]'h).toNat=34:=fun _=>rfl
    have e92:∀ h,(({ data:=#[92] }:ByteArray)[0]'h).toNat=92:=fun _=>rfl
    have hcv:∀ (W:World) (b:UInt8),(convert 26 9 (.slice (some ⟨W.heap.size,0,none⟩) 1 1)).run Tryz.prog (W.alloc (.cells #[.int .u8 (b.toNat:Int)] 5)) = .ok (.string ⟨#[b]⟩) (W.alloc (.cells #[.int .u8 (b.toNat:Int)] 5)):=fun W b=>by
      have h:=run_convert_bytes_back (P:=Tryz.prog) (W.alloc (.cells #[.int .u8 (b.toNat:Int)] 5)) 26 9 5 ⟨W.heap.size,0,none⟩ 1 [b] Tryz.underlying26 Tryz.underlying5 Tryz.underlying9;exact h fun j hj=>by
        match j,hj with
        |0,_=>exact(Boxed.new W 5 (.int .u8 (b.toNat:Int))).cell
    have hsb:∀ (W:World) (s:ByteArray),(convert 9 26 (.string s)).run Tryz.prog W = .ok (.slice (some ⟨W.heap.size,0,none⟩) s.size (grownCap W s.size 0 5)) (W.drew.alloc (.cells (bytesRow s (grownCap W s.size 0 5)) 5 ((bytesRow s (grownCap W s.size 0 5)).size,(bytesRow s (grownCap W s.size 0 5)).size+1))):=fun W s=>run_bytes_of_string W 9 26 5 s Tryz.underlying9 Tryz.underlying26 Tryz.underlying5
    have hc9:∀ W:World,(convert 26 9 (.slice (some ⟨W.heap.size,0,none⟩) 1 1)).run Tryz.prog (W.alloc (.cells #[.int .u8 9] 5)) = .ok (.string ⟨#[9]⟩) (W.alloc (.cells #[.int .u8 9] 5)):=fun W=>hcv W 9
    have hc10:∀ W:World,(convert 26 9 (.slice (some ⟨W.heap.size,0,none⟩) 1 1)).run Tryz.prog (W.alloc (.cells #[.int .u8 10] 5)) = .ok (.string ⟨#[10]⟩) (W.alloc (.cells #[.int .u8 10] 5)):=fun W=>hcv W 10
    have hc34:∀ W:World,(convert 26 9 (.slice (some ⟨W.heap.size,0,none⟩) 1 1)).run Tryz.prog (W.alloc (.cells #[.int .u8 34] 5)) = .ok (.string ⟨#[34]⟩) (W.alloc (.cells #[.int .u8 34] 5)):=fun W=>hcv W 34
    have hc92:∀ W:World,(convert 26 9 (.slice (some ⟨W.heap.size,0,none⟩) 1 1)).run Tryz.prog (W.alloc (.cells #[.int .u8 92] 5)) = .ok (.string ⟨#[92]⟩) (W.alloc (.cells #[.int .u8 92] 5)):=fun W=>hcv W 92
    match k,hk with
    |0,_ =>
      have hn:=H.nl 9 (by decide) (by decide);obtain⟨x,hx⟩:=Option.isSome_iff_exists.1 (H.dc 0 (by decide));have hfx:=H.fd 0;have lC:=H.lC.2;have lD:=H.lD.2;have hf1:=H.fc 256;have hf2:=H.fc 9
      go_wp2
      exact⟨⟨1,by decide,rfl,((((((H.setD 0 _ (by decide)).setT 1).setO 9 _ (by decide)).alloc _).alloc _).alloc _).drew⟩,by decide⟩
    |1,_ =>
      have hn:=H.nl 10 (by decide) (by decide);obtain⟨x,hx⟩:=Option.isSome_iff_exists.1 (H.dc 1 (by decide));have hfx:=H.fd 1;have lC:=H.lC.2;have lD:=H.lD.2;have hf1:=H.fc 256;have hf2:=H.fc 10
      go_wp2
      exact⟨⟨2,by decide,rfl,((((((H.setD 1 _ (by decide)).setT 2).setO 10 _ (by decide)).alloc _).alloc _).alloc _).drew⟩,by decide⟩
    |2,_ =>
      have hn:=H.nl 34 (by decide) (by decide);obtain⟨x,hx⟩:=Option.isSome_iff_exists.1 (H.dc 2 (by decide));have hfx:=H.fd 2;have lC:=H.lC.2;have lD:=H.lD.2;have hf1:=H.fc 256;have hf2:=H.fc 34
      go_wp2
      exact⟨⟨3,by decide,rfl,((((((H.setD 2 _ (by decide)).setT 3).setO 34 _ (by decide)).alloc _).alloc _).alloc _).drew⟩,by decide⟩
    |3,_ =>
      have hn:=H.nl 92 (by decide) (by decide);obtain⟨x,hx⟩:=Option.isSome_iff_exists.1 (H.dc 3 (by decide));have hfx:=H.fd 3;have lC:=H.lC.2;have lD:=H.lD.2;have hf1:=H.fc 256;have hf2:=H.fc 92
      go_wp2
      exact⟨⟨4,by decide,rfl,((((((H.setD 3 _ (by decide)).setT 4).setO 92 _ (by decide)).alloc _).alloc _).alloc _).drew⟩,by decide⟩
    |4,_ =>
      go_wp2
      go_ret
      exact⟨rfl,H⟩
theorem disable(w:World):(callFunc 149 #[]).run Tryz.prog w = .ok (.value (.tuple #[])) w:=run_call_mark0 Tryz.func149 (by kernel_rfl) (by kernel_rfl) (by kernel_rfl) .disable (by kernel_rfl) w
theorem enable(w:World):(callFunc 151 #[]).run Tryz.prog w = .ok (.value (.tuple #[])) w:=run_call_mark0 Tryz.func151 (by kernel_rfl) (by kernel_rfl) (by kernel_rfl) .enable (by kernel_rfl) w
theorem acquire(a:Addr)(w:World):(callFunc 152 #[.pointer (some a)]).run Tryz.prog w = .ok (.value (.tuple #[])) w:=run_call_marked Tryz.func152 (by kernel_rfl) (by kernel_rfl) (by kernel_rfl) .acquire (by kernel_rfl) a w
theorem releaseMerge(a:Addr)(w:World):(callFunc 154 #[.pointer (some a)]).run Tryz.prog w = .ok (.value (.tuple #[])) w:=run_call_marked Tryz.func154 (by kernel_rfl) (by kernel_rfl) (by kernel_rfl) .releaseMerge (by kernel_rfl) a w
theorem qDD(a:Addr)(x:Value)(u:FrameMode)(w:World)(hc:w.cell? a=some x)(hz:w.frozen? a=false) :
    CallsD Tryz.prog 134 #[.pointer (some a),.bool true] u w fun e u' w'=>u'=u∧(e = .returned (.tuple #[])∧w'=w.drew.setCell a (.int .u32 1)):=by
  have hc':w.drew.cell? a=some x:=by go_simp
  have hz':w.drew.frozen? a=false:=by go_simp
  have hst:=run_call_store (P:=Tryz.prog) Tryz.func144 (by kernel_rfl) (by kernel_rfl) (by kernel_rfl) (by kernel_rfl) (k := .u32) (y:=1) hc' hz'
  go_enter_d Tryz.func134,Tryz.ntmps134
  go_wp2
  go_region_calls
  all_goals (go_end0; exact⟨rfl,rfl⟩)
theorem qCx(a:Addr)(u:FrameMode)(w:World)(hc:w.cell? a=some (.int .i32 1))(hz:w.frozen? a=false) :
    CallsD Tryz.prog 133 #[.pointer (some a)] u w fun e u' w'=>u'=u∧(e = .returned (.tuple #[])∧w'=w.setCell a (.int .i32 0)):=by
  have hd:=disable;have he:=enable;have hr:=releaseMerge;have hadd:=run_call_add (P:=Tryz.prog) Tryz.func155 (by kernel_rfl) (by kernel_rfl) (by kernel_rfl) .i32 (by kernel_rfl) (y := -1) (s:=0) hc hz (by simp[go_sem]; rfl);have hcv:=run_convert_to_unsafe (P:=Tryz.prog) (src:=218) (dst:=172) Tryz.underlying218 Tryz.underlying172 (by kernel_rfl) hc
  go_enter_d Tryz.func133,Tryz.ntmps133
  go_wp2
  go_end0
  go_wp2
  go_end0
  exact⟨rfl,rfl⟩
theorem qGq(a:Addr)(w:World)(hc:w.cell? a=some (.int .i32 0))(hz:w.frozen? a=false) :
    Calls Tryz.prog 132 #[.pointer (some a)] w fun e w'=>e = .returned (.tuple #[])∧w'=w.setCell a (.int .i32 1):=by
  have hd:=disable;have he:=enable;have ha:=acquire;have hcas:=run_call_cas_hit (P:=Tryz.prog) Tryz.func150 (by kernel_rfl) (by kernel_rfl) (by kernel_rfl) .i32 (by kernel_rfl) (y:=1) hc hz;have hc':(w.setCell a (.int .i32 1)).cell? a=some (.int .i32 1):=World.cell?_setCell_same w a _ hc;have hcv:=run_convert_to_unsafe (P:=Tryz.prog) (src:=218) (dst:=172) Tryz.underlying218 Tryz.underlying172 (by kernel_rfl) hc'
  go_enter Tryz.func132,Tryz.ntmps132
  go_wp2
  first|go_end0|(simp only[Exit.inBlock,Exit.then]; refine bodyPost_ret (results_none rfl _ _ _) rfl ?_)|refine bodyPost_ret (results_none rfl _ _ _) rfl ?_
  go_wp2
  go_end0
  exact⟨rfl,rfl⟩
theorem qBK{n:Nat}{W W':World}(h:Below n W W'){a:Addr}(ha:a.block<n):W'.frozen? a=W.frozen? a:=by
  unfold World.frozen?;rw[h.block a.block ha]
abbrev ifc(C:Nat):Value := .iface 195 (.pointer (some ⟨C,0,none⟩))
theorem qQX(rb B cap:Nat)(x3:Value)(w:World)(hne:rb≠B)(h3:w.cell? ⟨rb,3,none⟩=some x3)(h4:w.cell? ⟨rb,4,none⟩=some (.slice (some ⟨B,0,none⟩) 8 cap))(fz:∀ j,w.frozen? ⟨rb,j,none⟩=false)
    (c0:w.cell? ⟨B,0,none⟩=some (.string { data:=#[92] })) (c1:w.cell? ⟨B,1,none⟩=some (.string { data:=#[92,92] })) (c2:w.cell? ⟨B,2,none⟩=some (.string { data:=#[34] })) (c3:w.cell? ⟨B,3,none⟩=some (.string { data:=#[92,34] }))
    (c4:w.cell? ⟨B,4,none⟩=some (.string { data:=#[10] })) (c5:w.cell? ⟨B,5,none⟩=some (.string { data:=#[92,110] })) (c6:w.cell? ⟨B,6,none⟩=some (.string { data:=#[9] })) (c7:w.cell? ⟨B,7,none⟩=some (.string { data:=#[92,116] })) :
    Calls Tryz.prog 93 #[.pointer (some ⟨rb,0,none⟩)] w fun e w'=>e = .returned (.tuple #[])∧∃ W,St w (w.heap.size+1) w.heap.size [92,34,10,9] 4 W∧w'=(W.setCell ⟨rb,3,none⟩ (ifc (w.heap.size+1))).setCell ⟨rb,4,none⟩ (.slice none 0 0):=by
  have lr:rb<w.heap.size:=qAZ h3
  go_enter Tryz.func93,Tryz.ntmps93
  have key:Calls Tryz.prog 117 #[.pointer (some ⟨rb,0,none⟩)] w fun e W=>e = .returned (ifc (w.heap.size+1))∧St w (w.heap.size+1) w.heap.size [92,34,10,9] 4 W∧W.cell? ⟨rb,3,none⟩=some x3∧W.cell? ⟨rb,4,none⟩=some (.slice (some ⟨B,0,none⟩) 8 cap)∧W.frozen? ⟨rb,3,none⟩=false∧W.frozen? ⟨rb,4,none⟩=false :=
    (qOf rb B cap w h4 c0 c1 c2 c3 c4 c5 c6 c7).mono fun e W ⟨he,H⟩=>⟨he,H,(H.bel.cell (p:=⟨rb,3,none⟩) lr).trans h3,(H.bel.cell (p:=⟨rb,4,none⟩) lr).trans h4,(qBK H.bel (a:=⟨rb,3,none⟩) lr).trans (fz 3),(qBK H.bel (a:=⟨rb,4,none⟩) lr).trans (fz 4)⟩
  go_wp2_with (go_at_call 117; refine key.mono ?_; rintro e W ⟨rfl,H,g3,g4,f3,f4⟩)
  go_end0
  exact⟨rfl,W,H,rfl⟩
theorem qAR{W:World}{b b' j k:Nat}(h:b≠b')(v:Value):(W.setCell ⟨b,j,none⟩ v).cell? ⟨b',k,none⟩=W.cell? ⟨b',k,none⟩:=World.cell?_setCell_other _ _ _ _ (fun e=>h (congrArg Addr.block e))
theorem qAS{W:World}{b j k:Nat}(h:j≠k)(v:Value):(W.setCell ⟨b,j,none⟩ v).cell? ⟨b,k,none⟩=W.cell? ⟨b,k,none⟩:=World.cell?_setCell_other _ _ _ _ (fun e=>h (congrArg Addr.off e))
abbrev fin(W:World)(rb C:Nat):World:=((((W.setCell ⟨rb,3,none⟩ (ifc C)).setCell ⟨rb,4,none⟩ (.slice none 0 0)).drew.setCell ⟨rb,0,none⟩ (.int .u32 1)).setCell ⟨rb,1,none⟩ (.int .i32 0))
theorem qQA(rb B cap:Nat)(x3:Value)(w:World)(hne:rb≠B)(h0:w.cell? ⟨rb,0,none⟩=some (.int .u32 0))(h1:w.cell? ⟨rb,1,none⟩=some (.int .i32 0))(h3:w.cell? ⟨rb,3,none⟩=some x3)(h4:w.cell? ⟨rb,4,none⟩=some (.slice (some ⟨B,0,none⟩) 8 cap))(fz:∀ j,w.frozen? ⟨rb,j,none⟩=false)
    (c0:w.cell? ⟨B,0,none⟩=some (.string { data:=#[92] })) (c1:w.cell? ⟨B,1,none⟩=some (.string { data:=#[92,92] })) (c2:w.cell? ⟨B,2,none⟩=some (.string { data:=#[34] })) (c3:w.cell? ⟨B,3,none⟩=some (.string { data:=#[92,34] }))
    (c4:w.cell? ⟨B,4,none⟩=some (.string { data:=#[10] })) (c5:w.cell? ⟨B,5,none⟩=some (.string { data:=#[92,110] })) (c6:w.cell? ⟨B,6,none⟩=some (.string { data:=#[9] })) (c7:w.cell? ⟨B,7,none⟩=some (.string { data:=#[92,116] })) :
    Calls Tryz.prog 116 #[.pointer (some ⟨rb,0,none⟩),.func (.func 93) #[.pointer (some ⟨rb,0,none⟩)] #[]] w fun e w'=>e = .returned (.tuple #[])∧∃ W,St (w.setCell ⟨rb,1,none⟩ (.int .i32 1)) (w.heap.size+1) w.heap.size [92,34,10,9] 4 W∧w'=fin W rb (w.heap.size+1):=by
  have hl:=run_call_load (P:=Tryz.prog) Tryz.func131 (by kernel_rfl) (by kernel_rfl) (by kernel_rfl) .u32 (by kernel_rfl) (w:=w.setCell ⟨rb,1,none⟩ (.int .i32 1)) (a:=⟨rb,0,none⟩) (x:=0) ((qAS (by decide) _).trans h0);have lr:rb<w.heap.size:=qAZ h3;have hs1:(w.setCell ⟨rb,1,none⟩ (.int .i32 1)).heap.size=w.heap.size:=by simp
  have key:=qQX rb B cap x3 (w.setCell ⟨rb,1,none⟩ (.int .i32 1)) hne ((qAS (by decide) _).trans h3) ((qAS (by decide) _).trans h4) (fun j=>(World.frozen?_setCell _ _ _ _).trans (fz j))
    ((qAR hne _).trans c0) ((qAR hne _).trans c1) ((qAR hne _).trans c2) ((qAR hne _).trans c3) ((qAR hne _).trans c4) ((qAR hne _).trans c5) ((qAR hne _).trans c6) ((qAR hne _).trans c7)
  rw[hs1] at key;have hnot:∀ (x:Bool) (w:World),(Op.unary .not (.bool x)).run Tryz.prog w = .ok (.bool (!x)) w:=fun _ _=>rfl
  go_enter_defers Tryz.func116,Tryz.ntmps116
  go_wp2_with (first|(go_at_call 132; refine(qGq ⟨rb,1,none⟩ _ (by go_simp) (by go_simp)).mono ?_; rintro e w' ⟨rfl,rfl⟩)|(go_at_call 115; go_in)|(go_at_call 93; refine key.mono ?_; rintro e w' ⟨rfl,W,H,rfl⟩))
  have lt1:rb<(w.setCell ⟨rb,1,none⟩ (.int .i32 1)).heap.size:=by rw[hs1]; exact lr
  have k0:W.cell? ⟨rb,0,none⟩=some (.int .u32 0):=(H.bel.cell (p:=⟨rb,0,none⟩) lt1).trans ((qAS (by decide) _).trans h0);have k1:W.cell? ⟨rb,1,none⟩=some (.int .i32 1):=(H.bel.cell (p:=⟨rb,1,none⟩) lt1).trans (World.cell?_setCell_same _ _ _ h1);have kf:∀ j,W.frozen? ⟨rb,j,none⟩=false:=fun j=>(qBK H.bel (a:=⟨rb,j,none⟩) lt1).trans ((World.frozen?_setCell _ _ _ _).trans (fz j))
  refine leaves_cons (f:=134) (args:=#[.pointer (some ⟨rb,0,none⟩),.bool true]) (by simp) (by simp[go_sem]) ?_;refine(qDD ⟨rb,0,none⟩ (.int .u32 0) .returning _ ((qAS (by decide) _).trans ((qAS (by decide) _).trans k0)) (by simp[kf])).mono ?_
  rintro e u' w'' ⟨rfl,rfl,rfl⟩
  refine leaves_cons (f:=133) (args:=#[.pointer (some ⟨rb,1,none⟩)]) (by simp[settle]) (by simp[go_sem]) ?_;refine(qCx ⟨rb,1,none⟩ _ _ ?_ (by simp[kf])).mono ?_
  · refine(qAS (by decide) _).trans ?_
    rw[World.cell?_drew];exact(qAS (by decide) _).trans ((qAS (by decide) _).trans k1)
  rintro e u' w'' ⟨rfl,rfl,rfl⟩
  have hfin:∃ W',St (w.setCell ⟨rb,1,none⟩ (.int .i32 1)) (w.heap.size+1) w.heap.size [92,34,10,9] 4 W'∧fin W rb (w.heap.size+1)=fin W' rb (w.heap.size+1):=⟨W,H,rfl⟩;simp[Leaves,settle,results,Tryz.results116];exact⟨W,H,rfl⟩
theorem qSr(rb B cap:Nat)(x3:Value)(w:World)(hne:rb≠B)(h0:w.cell? ⟨rb,0,none⟩=some (.int .u32 0))(h1:w.cell? ⟨rb,1,none⟩=some (.int .i32 0))(h3:w.cell? ⟨rb,3,none⟩=some x3)(h4:w.cell? ⟨rb,4,none⟩=some (.slice (some ⟨B,0,none⟩) 8 cap))(fz:∀ j,w.frozen? ⟨rb,j,none⟩=false)
    (c0:w.cell? ⟨B,0,none⟩=some (.string { data:=#[92] })) (c1:w.cell? ⟨B,1,none⟩=some (.string { data:=#[92,92] })) (c2:w.cell? ⟨B,2,none⟩=some (.string { data:=#[34] })) (c3:w.cell? ⟨B,3,none⟩=some (.string { data:=#[92,34] }))
    (c4:w.cell? ⟨B,4,none⟩=some (.string { data:=#[10] })) (c5:w.cell? ⟨B,5,none⟩=some (.string { data:=#[92,110] })) (c6:w.cell? ⟨B,6,none⟩=some (.string { data:=#[9] })) (c7:w.cell? ⟨B,7,none⟩=some (.string { data:=#[92,116] })) :
    Calls Tryz.prog 92 #[.pointer (some ⟨rb,0,none⟩),.func (.func 93) #[.pointer (some ⟨rb,0,none⟩)] #[]] w fun e w'=>e = .returned (.tuple #[])∧∃ W,St (w.setCell ⟨rb,1,none⟩ (.int .i32 1)) (w.heap.size+1) w.heap.size [92,34,10,9] 4 W∧w'=fin W rb (w.heap.size+1):=by
  have hl:=run_call_load (P:=Tryz.prog) Tryz.func131 (by kernel_rfl) (by kernel_rfl) (by kernel_rfl) .u32 (by kernel_rfl) h0;have hnot:∀ (x:Bool) (w:World),(Op.unary .not (.bool x)).run Tryz.prog w = .ok (.bool (!x)) w:=fun _ _=>rfl
  have key:=qQA rb B cap x3 w hne h0 h1 h3 h4 fz c0 c1 c2 c3 c4 c5 c6 c7
  go_enter Tryz.func92,Tryz.ntmps92
  go_wp2_with (first|(go_at_call 116; refine key.mono ?_; rintro e w' ⟨rfl,W,H,rfl⟩)|(go_at_call 115; go_in))
  go_end0
  exact⟨rfl,W,H,rfl⟩
theorem qL2(A:Nat)(w:World)
    (c0:w.cell? ⟨A,0,none⟩=some (.string { data:=#[92] })) (c1:w.cell? ⟨A,1,none⟩=some (.string { data:=#[92,92] })) (c2:w.cell? ⟨A,2,none⟩=some (.string { data:=#[34] })) (c3:w.cell? ⟨A,3,none⟩=some (.string { data:=#[92,34] }))
    (c4:w.cell? ⟨A,4,none⟩=some (.string { data:=#[10] })) (c5:w.cell? ⟨A,5,none⟩=some (.string { data:=#[92,110] })) (c6:w.cell? ⟨A,6,none⟩=some (.string { data:=#[9] })) (c7:w.cell? ⟨A,7,none⟩=some (.string { data:=#[92,116] })) :
    Calls Tryz.prog 57 #[.slice (some ⟨A,0,none⟩) 8 8] w fun e w'=>e = .returned (.pointer (some ⟨w.heap.size+1,0,none⟩))∧Below w.heap.size w w'∧∃ (cap:Nat) (rest:Array Value),w'.heap[w.heap.size]?=some (.cells (#[.string { data:=#[92] },.string { data:=#[92,92] },.string { data:=#[34] },.string { data:=#[92,34] },.string { data:=#[10] },.string { data:=#[92,110] },.string { data:=#[9] },.string { data:=#[92,116] }]++rest) 9 (0,0)) ∧
      w'.heap[w.heap.size+1]?=some (.cells #[.int .u32 0,.int .i32 0,.int .u32 0,.nilIface,.slice (some ⟨w.heap.size,0,none⟩) 8 cap] 150 (0,0)):=by
  go_enter Tryz.func57,Tryz.ntmps57
  go_wp2
  go_ret
  generalize (Question.appendCap 8 0 9).cut (w.tape w.drawn (Question.appendCap 8 0 9))=cap;refine⟨rfl,(((Below.refl _ w).alloc (Nat.le_refl _) _).alloc (by simp) _).drew,cap,Builtin.zeroCells #[Value.string { data:=#[] }] (cap - 8),?_,?_⟩
  · generalize Obj.cells (#[Value.string { data:=#[92] },Value.string { data:=#[92,92] },Value.string { data:=#[34] },Value.string { data:=#[92,34] },Value.string { data:=#[10] },Value.string { data:=#[92,110] },Value.string { data:=#[9] },Value.string { data:=#[92,116] }]++Builtin.zeroCells #[Value.string { data:=#[] }] (cap - 8)) 9=o1
    generalize Obj.cells #[Value.int IntKind.u32 0,Value.int IntKind.i32 0,Value.int IntKind.u32 0,Value.nilIface,Value.slice (some ⟨w.heap.size,0,none⟩) 8 cap] 150=o2;have h1:=World.alloc_heap_new w o1;exact((World.grownBy_alloc (w.alloc o1) o2 none).block w.heap.size (by simp) (by simp)).trans h1
  · generalize Obj.cells (#[Value.string { data:=#[92] },Value.string { data:=#[92,92] },Value.string { data:=#[34] },Value.string { data:=#[92,34] },Value.string { data:=#[10] },Value.string { data:=#[92,110] },Value.string { data:=#[9] },Value.string { data:=#[92,116] }]++Builtin.zeroCells #[Value.string { data:=#[] }] (cap - 8)) 9=o1
    generalize Obj.cells #[Value.int IntKind.u32 0,Value.int IntKind.i32 0,Value.int IntKind.u32 0,Value.nilIface,Value.slice (some ⟨w.heap.size,0,none⟩) 8 cap] 150=o2;have h1:=World.alloc_heap_new (w.alloc o1) o2;rw[World.size_alloc] at h1;exact h1
theorem qSO(C D:Nat)(s:ByteArray)(hs:s.size<32)(w:World)(ht:w.cell? ⟨C,256,none⟩=some (.slice (some ⟨D,0,none⟩) 4 4))(hn:∀ (j:Nat) (hj:j<s.size),w.cell? ⟨C,s[j].toNat,none⟩=some (.slice none 0 0)) :
    Calls Tryz.prog 191 #[.pointer (some ⟨C,0,none⟩),.string s] w fun e w'=>e = .returned (.string s)∧w'=w:=by
  have hq:∀ (w:World) (a:Option Addr) (n c n' c':Nat),(binOp .neq 26 (.slice a n c) (.slice none n' c')).run Tryz.prog w = .ok (.bool (!a.isNone)) w:=fun w a n c n' c'=>run_neq_slice_nil_any w _ _ a n c n' c' Tryz.underlying26
  have hlt:¬ (32:Int)≤(s.size:Int):=by omega
  go_enter Tryz.func191,Tryz.ntmps191
  go_wp2
  go_loopw [5,6,10] (fun n5 c6 i wr=>∃ k:Nat,k≤s.size∧i = .int .i64 (k:Int)∧n5 = .int .i64 (s.size:Int)∧c6 = .bool false∧wr=w) (fun _ _ i _=>s.size - (intOf i).toNat)
  case atStart=>exact⟨0,Nat.zero_le _,rfl,rfl,rfl,rfl⟩
  case round =>
    obtain⟨k,hk,rfl,rfl,rfl,rfl⟩:=hrel;by_cases hlt2:k<s.size
    · have hc:=hn k hlt2
      have hb8:((s[k]'hlt2).toNat:Int)<256:=by have:=(s[k]'hlt2).toNat_lt; omega
      go_wp2
      go_roundw
      case rel=>exact⟨k+1,by omega,by simp,rfl,rfl,trivial⟩
      case measure=>simp[intOf]; omega
    · obtain rfl:k=s.size:=by omega
      go_wp2
      go_ret
      exact⟨rfl,rfl⟩
theorem qBx{w:World}{b:Nat}{arr:Array Value}{e:TypeId}(h:w.heap[b]?=some (.cells arr e (0,0)))(o:Nat):w.cell? ⟨b,o,none⟩=arr[o]?:=by
  unfold World.cell?;simp only[h];cases arr[o]? <;> rfl
theorem qGO{w:World}{b:Nat}{arr:Array Value}{e:TypeId}(h:w.heap[b]?=some (.cells arr e (0,0)))(o:Nat):w.frozen? ⟨b,o,none⟩=false:=by simp[World.frozen?,h]
theorem qKB{w:World}{b:Nat}{o:Obj}(h:w.heap[b]?=some o):b<w.heap.size:=(Array.getElem?_eq_some_iff.1 h).1
def plain(b:UInt8):Bool:=b != 9&&b != 10&&b != 34&&b != 92
theorem qLg{b:UInt8}(h:plain b=true):b.toNat∉([92,34,10,9]:List Nat):=by
  simp only[plain,Bool.and_eq_true,bne_iff_ne,ne_eq] at h;obtain⟨⟨⟨h1,h2⟩,h3⟩,h4⟩:=h;intro hm;simp only[List.mem_cons,List.not_mem_nil,or_false] at hm
  rcases hm with e|e|e|e
  · exact h4 (UInt8.toNat_inj.1 e)
  · exact h3 (UInt8.toNat_inj.1 e)
  · exact h2 (UInt8.toNat_inj.1 e)
  · exact h1 (UInt8.toNat_inj.1 e)
theorem qLC(rb B cap n₀:Nat)(rest:Array Value)(s:ByteArray)(hs:s.size<32)(hp:∀ (j:Nat) (hj:j<s.size),plain s[j]=true)(w:World)(hne:rb≠B)(hn₀:n₀≤rb)
    (hB:w.heap[B]?=some (.cells (#[.string { data:=#[92] },.string { data:=#[92,92] },.string { data:=#[34] },.string { data:=#[92,34] },.string { data:=#[10] },.string { data:=#[92,110] },.string { data:=#[9] },.string { data:=#[92,116] }]++rest) 9 (0,0)))
    (hR:w.heap[rb]?=some (.cells #[.int .u32 0,.int .i32 0,.int .u32 0,.nilIface,.slice (some ⟨B,0,none⟩) 8 cap] 150 (0,0))) :
    Calls Tryz.prog 58 #[.pointer (some ⟨rb,0,none⟩),.string s] w fun e w'=>e = .returned (.string s)∧Below n₀ w w':=by
  have lr:=qKB hR;have kb:∀ (o:Nat) (v:Value),(#[.string { data:=#[92] },.string { data:=#[92,92] },.string { data:=#[34] },.string { data:=#[92,34] },.string { data:=#[10] },.string { data:=#[92,110] },.string { data:=#[9] },.string { data:=#[92,116] }]:Array Value)[o]?=some v→w.cell? ⟨B,o,none⟩=some v:=fun o v h=>(qBx hB o).trans (by rw[Array.getElem?_append_left (Array.getElem?_eq_some_iff.1 h).1]; exact h)
  have kr:=qBx hR;have key:=qSr rb B cap .nilIface w hne (kr 0) (kr 1) (kr 3) (kr 4) (qGO hR) (kb 0 _ rfl) (kb 1 _ rfl) (kb 2 _ rfl) (kb 3 _ rfl) (kb 4 _ rfl) (kb 5 _ rfl) (kb 6 _ rfl) (kb 7 _ rfl);have lt1:rb<(w.setCell ⟨rb,1,none⟩ (.int .i32 1)).heap.size:=by simp; exact lr
  have key2:Calls Tryz.prog 92 #[.pointer (some ⟨rb,0,none⟩),.func (.func 93) #[.pointer (some ⟨rb,0,none⟩)] #[]] w fun e w'=>e = .returned (.tuple #[])∧Below n₀ w w'∧w'.cell? ⟨rb,3,none⟩=some (ifc (w.heap.size+1)) ∧
      w'.cell? ⟨w.heap.size+1,256,none⟩=some (.slice (some ⟨w.heap.size,0,none⟩) 4 4)∧∀ (j:Nat) (hj:j<s.size),w'.cell? ⟨w.heap.size+1,s[j].toNat,none⟩=some (.slice none 0 0):=by
    refine key.mono fun e w' ⟨he,W,H,hw⟩=>⟨he,?_,?_,?_,fun j hj => ?_⟩
    · rw[hw]
      have b0:Below n₀ w (w.setCell ⟨rb,1,none⟩ (.int .i32 1)):=(Below.refl n₀ w).setCell (p:=⟨rb,1,none⟩) hn₀ _;have b1:Below n₀ (w.setCell ⟨rb,1,none⟩ (.int .i32 1)) W:=H.bel.mono (by simp; omega);exact((((((b0.trans b1).setCell (p:=⟨rb,3,none⟩) hn₀ _).setCell (p:=⟨rb,4,none⟩) hn₀ _).drew).setCell (p:=⟨rb,0,none⟩) hn₀ _).setCell (p:=⟨rb,1,none⟩) hn₀ _)
    · rw[hw]
      have g3:W.cell? ⟨rb,3,none⟩=some .nilIface:=(H.bel.cell (p:=⟨rb,3,none⟩) lt1).trans ((qAS (by decide) _).trans (kr 3));exact(qAS (by decide) _).trans ((qAS (by decide) _).trans ((World.cell?_drew _ _).trans ((qAS (by decide) _).trans (World.cell?_setCell_same _ _ _ g3))))
    · rw[hw]
      have hC:rb≠w.heap.size+1:=by omega
      exact(qAR hC _).trans ((qAR hC _).trans ((World.cell?_drew _ _).trans ((qAR hC _).trans ((qAR hC _).trans H.tor))))
    · rw[hw]
      have hC:rb≠w.heap.size+1:=by omega
      exact(qAR hC _).trans ((qAR hC _).trans ((World.cell?_drew _ _).trans ((qAR hC _).trans ((qAR hC _).trans (H.nl _ (s[j]'hj).toNat_lt (qLg (hp j hj)))))))
  have hm:∀ (v:Value) (w:World),(method 356 195 v "Replace").run Tryz.prog w = .ok (191,v) w:=fun _ _=>by kernel_rfl
  have hmf:∀ (fn:Fn) (first cap:Array Value) (w:World),(Instr.makeFunc fn first cap).run Tryz.prog w = .ok (.func fn first cap) w:=fun _ _ _ _=>rfl
  go_enter Tryz.func58,Tryz.ntmps58
  go_wp2_with (first|(go_at_call 92; refine key2.mono ?_; rintro e w' ⟨rfl,hb,g3,g256,gn⟩)|(go_at_call 191; refine(qSO _ _ s hs _ g256 gn).mono ?_; rintro e w'' ⟨rfl,rfl⟩))
  go_ret
  exact⟨rfl,hb⟩
theorem qTG(s:ByteArray)(hs:s.size<32)(hp:∀ (j:Nat) (hj:j<s.size),plain s[j]=true)(w:World) :
    Calls Tryz.prog 31 #[.string s] w fun e w'=>e = .returned (.string (⟨#[34]⟩++s++⟨#[34]⟩))∧Below w.heap.size w w':=by
  have h0:=World.alloc_heap_new w (.cells #[.string { data:=#[92] },.string { data:=#[92,92] },.string { data:=#[34] },.string { data:=#[92,34] },.string { data:=#[10] },.string { data:=#[92,110] },.string { data:=#[9] },.string { data:=#[92,116] }] 9);have hA:Below w.heap.size w (w.alloc (.cells #[.string { data:=#[92] },.string { data:=#[92,92] },.string { data:=#[34] },.string { data:=#[92,34] },.string { data:=#[10] },.string { data:=#[92,110] },.string { data:=#[9] },.string { data:=#[92,116] }] 9)):=(Below.refl _ w).alloc (Nat.le_refl _) _;have hz:(w.alloc (.cells #[.string { data:=#[92] },.string { data:=#[92,92] },.string { data:=#[34] },.string { data:=#[92,34] },.string { data:=#[10] },.string { data:=#[92,110] },.string { data:=#[9] },.string { data:=#[92,116] }] 9)).heap.size=w.heap.size+1:=World.size_alloc _ _;have k0:=qBx h0;have key1:=qL2 w.heap.size (w.alloc (.cells #[.string { data:=#[92] },.string { data:=#[92,92] },.string { data:=#[34] },.string { data:=#[92,34] },.string { data:=#[10] },.string { data:=#[92,110] },.string { data:=#[9] },.string { data:=#[92,116] }] 9)) (k0 0) (k0 1) (k0 2) (k0 3) (k0 4) (k0 5) (k0 6) (k0 7);rw[hz] at key1
  go_enter Tryz.func31,Tryz.ntmps31
  go_wp2_with (first|(go_at_call 57; refine key1.mono ?_; rintro e w2 ⟨rfl,hb2,cap,rest,g1,g2⟩)|(go_at_call 58; refine(qLC (w.heap.size+1+1) (w.heap.size+1) cap w.heap.size rest s hs hp _ (by omega) (by omega) g1 g2).mono ?_; rintro e w3 ⟨rfl,hb3⟩))
  go_ret
  exact⟨by simp,(hA.trans (hb2.mono (by omega))).trans hb3⟩
def escN(o:Nat):Nat:=if o=9 then 116 else if o=10 then 110 else o
structure Rp (w:World) (C D:Nat) (dn:List Nat) (W:World):Prop where
  rp:∀ o∈dn,∃ X cap,w.heap.size+2≤X∧X<W.heap.size∧W.cell? ⟨C,o,none⟩=some (.slice (some ⟨X,0,none⟩) 2 cap)∧W.cell? ⟨X,0,none⟩=some (.int .u8 92)∧W.cell? ⟨X,1,none⟩=some (.int .u8 (escN o:Int))
  td:∀ k o,dn.reverse[k]?=some o→W.cell? ⟨D,k,none⟩=some (.string ⟨#[UInt8.ofNat o]⟩)
theorem qIS{W:World}{arr:Array Value}{e:TypeId}{a b:Nat}(o:Nat):(W.alloc (.cells arr e (a,b))).cell? ⟨W.heap.size,o,none⟩=arr[o]?:=by
  have h:=World.alloc_heap_new W (.cells arr e (a,b));unfold World.cell?;simp only[h];cases arr[o]? <;> rfl
theorem Rp.step{w W:World}{C D:Nat}{dn:List Nat}(H:Rp w C D dn W)(hC:C=w.heap.size+1)(hD:D=w.heap.size)(o:Nat)(ho:o<256)(hn:o∉dn){c d:Value}(hc:W.cell? ⟨C,o,none⟩=some c)(hd:W.cell? ⟨D,dn.length,none⟩=some d)(h8:∀ x∈dn,x<256)(hs:w.heap.size+2≤W.heap.size)
    (v:Value) (o1 o2:Obj) (cap a b:Nat) (arr:Array Value) (e:TypeId) (r0:arr[0]?=some (.int .u8 92)) (r1:arr[1]?=some (.int .u8 (escN o:Int))) :
    Rp w C D (o::dn) (((((((W.setCell ⟨D,dn.length,none⟩ (.string ⟨#[UInt8.ofNat o]⟩)).setCell ⟨C,256,none⟩ v).setCell ⟨C,o,none⟩ (.slice (some ⟨W.heap.size+1+1,0,none⟩) 2 cap)).alloc o1).alloc o2).alloc (.cells arr e (a,b))).drew):=by
  have hCD:C≠D:=by omega
  have z0:(((W.setCell ⟨D,dn.length,none⟩ (.string ⟨#[UInt8.ofNat o]⟩)).setCell ⟨C,256,none⟩ v).setCell ⟨C,o,none⟩ (.slice (some ⟨W.heap.size+1+1,0,none⟩) 2 cap)).heap.size=W.heap.size:=by simp
  have sC:W.setCell ⟨D,dn.length,none⟩ (.string ⟨#[UInt8.ofNat o]⟩)=W.setCell ⟨D,dn.length,none⟩ (.string ⟨#[UInt8.ofNat o]⟩):=rfl;generalize hV:((W.setCell ⟨D,dn.length,none⟩ (.string ⟨#[UInt8.ofNat o]⟩)).setCell ⟨C,256,none⟩ v).setCell ⟨C,o,none⟩ (.slice (some ⟨W.heap.size+1+1,0,none⟩) 2 cap)=V at z0;have z1:(V.alloc o1).heap.size=W.heap.size+1:=by simp[z0]
  have z2:((V.alloc o1).alloc o2).heap.size=W.heap.size+1+1:=by simp[z0]
  have z3:(((V.alloc o1).alloc o2).alloc (.cells arr e (a,b))).heap.size=W.heap.size+1+1+1:=by simp[z0]
  have old:∀ (X k:Nat),X<W.heap.size→(((V.alloc o1).alloc o2).alloc (.cells arr e (a,b))).drew.cell? ⟨X,k,none⟩=V.cell? ⟨X,k,none⟩:=fun X k hX=>by
    rw[World.cell?_drew,World.cell?_alloc_past _ _ _ (show X<_ by rw[z2]; omega),World.cell?_alloc_past _ _ _ (show X<_ by rw[z1]; omega),World.cell?_alloc_past _ _ _ (show X<_ by rw[z0]; omega)]
  have far:∀ (X k:Nat),X≠C→X≠D→V.cell? ⟨X,k,none⟩=W.cell? ⟨X,k,none⟩:=fun X k h1 h2=>by
    rw[← hV,World.cell?_setCell_other _ _ _ _ (fun e=>h1 (congrArg Addr.block e).symm),World.cell?_setCell_other _ _ _ _ (fun e=>h1 (congrArg Addr.block e).symm),World.cell?_setCell_other _ _ _ _ (fun e=>h2 (congrArg Addr.block e).symm)]
  have atC:∀ k,k≠o→k≠256→V.cell? ⟨C,k,none⟩=W.cell? ⟨C,k,none⟩:=fun k h1 h2=>by
    rw[← hV,World.cell?_setCell_other _ _ _ _ (fun e=>h1 (congrArg Addr.off e).symm),World.cell?_setCell_other _ _ _ _ (fun e=>h2 (congrArg Addr.off e).symm),World.cell?_setCell_other _ _ _ _ (fun e=>hCD (congrArg Addr.block e).symm)]
  have atO:V.cell? ⟨C,o,none⟩=some (.slice (some ⟨W.heap.size+1+1,0,none⟩) 2 cap):=by
    rw[← hV];have hc':((W.setCell ⟨D,dn.length,none⟩ (.string ⟨#[UInt8.ofNat o]⟩)).setCell ⟨C,256,none⟩ v).cell? ⟨C,o,none⟩=some c:=by
      rw[World.cell?_setCell_other _ _ _ _ (fun e=>by have:=congrArg Addr.off e; simp at this; omega),World.cell?_setCell_other _ _ _ _ (fun e=>hCD (congrArg Addr.block e).symm)];exact hc
    exact World.cell?_setCell_same _ _ _ hc'
  have atD:∀ k,k≠dn.length→V.cell? ⟨D,k,none⟩=W.cell? ⟨D,k,none⟩:=fun k h1=>by
    rw[← hV,World.cell?_setCell_other _ _ _ _ (fun e=>hCD (congrArg Addr.block e)),World.cell?_setCell_other _ _ _ _ (fun e=>hCD (congrArg Addr.block e)),World.cell?_setCell_other _ _ _ _ (fun e=>h1 (congrArg Addr.off e).symm)]
  have atK:V.cell? ⟨D,dn.length,none⟩=some (.string ⟨#[UInt8.ofNat o]⟩):=by
    rw[← hV,World.cell?_setCell_other _ _ _ _ (fun e=>hCD (congrArg Addr.block e)),World.cell?_setCell_other _ _ _ _ (fun e=>hCD (congrArg Addr.block e))];exact World.cell?_setCell_same _ _ _ hd
  have new:∀ k,(((V.alloc o1).alloc o2).alloc (.cells arr e (a,b))).drew.cell? ⟨W.heap.size+1+1,k,none⟩=arr[k]?:=fun k=>by
    rw[World.cell?_drew,← z2];exact qIS k
  constructor
  · intro x hx
    rcases List.mem_cons.1 hx with rfl|hx
    · refine⟨W.heap.size+1+1,cap,by omega,by show _<(((V.alloc o1).alloc o2).alloc (.cells arr e (a,b))).heap.size; omega,(old C x (by omega)).trans atO,(new 0).trans r0,(new 1).trans r1⟩
    · obtain⟨X,cp,h1,h2,h3,h4,h5⟩:=H.rp x hx
      have hxo:x≠o:=fun e=>hn (e▸hx)
      refine⟨X,cp,h1,by show _<(((V.alloc o1).alloc o2).alloc (.cells arr e (a,b))).heap.size; omega,(old C x (by omega)).trans ((atC x hxo (by have:=h8 x hx; omega)).trans h3),(old X 0 h2).trans ((far X 0 (by omega) (by omega)).trans h4),(old X 1 h2).trans ((far X 1 (by omega) (by omega)).trans h5)⟩
  · intro k y hk
    rw[List.reverse_cons] at hk;by_cases h:k<dn.length
    · rw[List.getElem?_append_left (by simpa using h)] at hk
      exact(old D k (by omega)).trans ((atD k (by omega)).trans (H.td k y hk))
    · have hk2:k=dn.length:=by
        have:=(List.getElem?_eq_some_iff.1 hk).1;simp at this; omega
      subst hk2;rw[List.getElem?_append_right (by simp)] at hk;simp at hk;subst hk;exact(old D _ (by omega)).trans atK
set_option maxRecDepth 100000 in
theorem qLu(rb B cap:Nat)(w:World)(h4:w.cell? ⟨rb,4,none⟩=some (.slice (some ⟨B,0,none⟩) 8 cap))
    (c0:w.cell? ⟨B,0,none⟩=some (.string { data:=#[92] })) (c1:w.cell? ⟨B,1,none⟩=some (.string { data:=#[92,92] })) (c2:w.cell? ⟨B,2,none⟩=some (.string { data:=#[34] })) (c3:w.cell? ⟨B,3,none⟩=some (.string { data:=#[92,34] }))
    (c4:w.cell? ⟨B,4,none⟩=some (.string { data:=#[10] })) (c5:w.cell? ⟨B,5,none⟩=some (.string { data:=#[92,110] })) (c6:w.cell? ⟨B,6,none⟩=some (.string { data:=#[9] })) (c7:w.cell? ⟨B,7,none⟩=some (.string { data:=#[92,116] })) :
    Calls Tryz.prog 117 #[.pointer (some ⟨rb,0,none⟩)] w fun e w'=>e = .returned (.iface 195 (.pointer (some ⟨w.heap.size+1,0,none⟩)))∧(St w (w.heap.size+1) w.heap.size [92,34,10,9] 4 w'∧Rp w (w.heap.size+1) w.heap.size [92,34,10,9] w'):=by
  obtain⟨i9,i91,i92,i93,i94⟩:=qPk;have hmk:∀ w:World,(Instr.makeSlice 27 (.int .i64 0) (.int .i64 4)).run Tryz.prog w = .ok (.slice (some ⟨w.heap.size,0,none⟩) 0 4) (w.alloc (.cells #[.string ⟨#[]⟩,.string ⟨#[]⟩,.string ⟨#[]⟩,.string ⟨#[]⟩] 9)):=fun w=>by
    have h:=run_makeSlice (P:=Tryz.prog) w 27 9 i9 (.string ⟨#[]⟩) Tryz.underlying27 i91 i92 .i64 .i64 0 4 (by decide) (by decide) (by rw[i93]; decide) (by rw[i94]; decide) (by decide);rw[i93,show madeCells (Value.string ⟨#[]⟩).cells (Int.toNat 4*1)=#[.string ⟨#[]⟩,.string ⟨#[]⟩,.string ⟨#[]⟩,.string ⟨#[]⟩] by kernel_rfl] at h;exact h
  obtain⟨W2,hst,H2⟩:=qIZ w
  go_enter Tryz.func117,Tryz.ntmps117
  go_wp2
  refine wp_loop_rounds 5 ?_
  repeat (rw[rounds_succ]; go_wp2)
  go_loopw [12] (fun i wr=>∃ k:Nat,k≤4∧i = .int .i64 (6 - 2*(k:Int))∧St w (w.heap.size+1) w.heap.size (([9,10,34,92]:List Nat).take k).reverse k wr∧Rp w (w.heap.size+1) w.heap.size (([9,10,34,92]:List Nat).take k).reverse wr) (fun i _=>(intOf i+2).toNat)
  case atStart=>exact⟨0,by omega,rfl,H2,⟨fun o ho=>(by simp at ho),fun k o h=>(by simp at h)⟩⟩
  case round =>
    obtain⟨k,hk,rfl,H,HR⟩:=hrel;have lB:B<w.heap.size:=qAZ c0;have d0:=(H.bel.cell (p:=⟨B,0,none⟩) lB).trans c0;have d1:=(H.bel.cell (p:=⟨B,1,none⟩) lB).trans c1;have d2:=(H.bel.cell (p:=⟨B,2,none⟩) lB).trans c2;have d3:=(H.bel.cell (p:=⟨B,3,none⟩) lB).trans c3;have d4:=(H.bel.cell (p:=⟨B,4,none⟩) lB).trans c4;have d5:=(H.bel.cell (p:=⟨B,5,none⟩) lB).trans c5;have d6:=(H.bel.cell (p:=⟨B,6,none⟩) lB).trans c6;have d7:=(H.bel.cell (p:=⟨B,7,none⟩) lB).trans c7;have ht:=H.tor;have hq:∀ (w:World) (a:Option Addr) (n c n' c':Nat),(binOp .eql 26 (.slice a n c) (.slice none n' c')).run Tryz.prog w = .ok (.bool a.isNone) w:=fun w a n c n' c'=>Lib.run_eql_slice_nil w _ _ a n c n' c' Tryz.underlying26
    have e9:∀ h,(({ data:=#[9] }:ByteArray)[0]'h).toNat=9:=fun _=>rfl
    have e10:∀ h,(({ data:=#[10] }:ByteArray)[0]'h).toNat=10:=fun _=>rfl
    have e34:∀ h,(({ data:=#[34] }:ByteArray)[0]'h).toNat=34:=fun _=>rfl
    have e92:∀ h,(({ data:=#[92] }:ByteArray)[0]'h).toNat=92:=fun _=>rfl
    have hcv:∀ (W:World) (b:UInt8),(convert 26 9 (.slice (some ⟨W.heap.size,0,none⟩) 1 1)).run Tryz.prog (W.alloc (.cells #[.int .u8 (b.toNat:Int)] 5)) = .ok (.string ⟨#[b]⟩) (W.alloc (.cells #[.int .u8 (b.toNat:Int)] 5)):=fun W b=>by
      have h:=run_convert_bytes_back (P:=Tryz.prog) (W.alloc (.cells #[.int .u8 (b.toNat:Int)] 5)) 26 9 5 ⟨W.heap.size,0,none⟩ 1 [b] Tryz.underlying26 Tryz.underlying5 Tryz.underlying9;exact h fun j hj=>by
        match j,hj with
        |0,_=>exact(Boxed.new W 5 (.int .u8 (b.toNat:Int))).cell
    have hsb:∀ (W:World) (s:ByteArray),(convert 9 26 (.string s)).run Tryz.prog W = .ok (.slice (some ⟨W.heap.size,0,none⟩) s.size (grownCap W s.size 0 5)) (W.drew.alloc (.cells (bytesRow s (grownCap W s.size 0 5)) 5 ((bytesRow s (grownCap W s.size 0 5)).size,(bytesRow s (grownCap W s.size 0 5)).size+1))):=fun W s=>run_bytes_of_string W 9 26 5 s Tryz.underlying9 Tryz.underlying26 Tryz.underlying5
    have hc9:∀ W:World,(convert 26 9 (.slice (some ⟨W.heap.size,0,none⟩) 1 1)).run Tryz.prog (W.alloc (.cells #[.int .u8 9] 5)) = .ok (.string ⟨#[9]⟩) (W.alloc (.cells #[.int .u8 9] 5)):=fun W=>hcv W 9
    have hc10:∀ W:World,(convert 26 9 (.slice (some ⟨W.heap.size,0,none⟩) 1 1)).run Tryz.prog (W.alloc (.cells #[.int .u8 10] 5)) = .ok (.string ⟨#[10]⟩) (W.alloc (.cells #[.int .u8 10] 5)):=fun W=>hcv W 10
    have hc34:∀ W:World,(convert 26 9 (.slice (some ⟨W.heap.size,0,none⟩) 1 1)).run Tryz.prog (W.alloc (.cells #[.int .u8 34] 5)) = .ok (.string ⟨#[34]⟩) (W.alloc (.cells #[.int .u8 34] 5)):=fun W=>hcv W 34
    have hc92:∀ W:World,(convert 26 9 (.slice (some ⟨W.heap.size,0,none⟩) 1 1)).run Tryz.prog (W.alloc (.cells #[.int .u8 92] 5)) = .ok (.string ⟨#[92]⟩) (W.alloc (.cells #[.int .u8 92] 5)):=fun W=>hcv W 92
    match k,hk with
    |0,_ =>
      have hn:=H.nl 9 (by decide) (by decide);obtain⟨x,hx⟩:=Option.isSome_iff_exists.1 (H.dc 0 (by decide));have hfx:=H.fd 0;have lC:=H.lC.2;have lD:=H.lD.2;have hf1:=H.fc 256;have hf2:=H.fc 9
      go_wp2
      exact⟨⟨1,by decide,rfl,((((((H.setD 0 _ (by decide)).setT 1).setO 9 _ (by decide)).alloc _).alloc _).alloc _).drew,HR.step rfl rfl 9 (by decide) (by decide) hn hx (by decide) (by omega) _ _ _ _ _ _ _ _ (bytesRow_at _ _ 0 (by decide)) (bytesRow_at _ _ 1 (by decide))⟩,by decide⟩
    |1,_ =>
      have hn:=H.nl 10 (by decide) (by decide);obtain⟨x,hx⟩:=Option.isSome_iff_exists.1 (H.dc 1 (by decide));have hfx:=H.fd 1;have lC:=H.lC.2;have lD:=H.lD.2;have hf1:=H.fc 256;have hf2:=H.fc 10
      go_wp2
      exact⟨⟨2,by decide,rfl,((((((H.setD 1 _ (by decide)).setT 2).setO 10 _ (by decide)).alloc _).alloc _).alloc _).drew,HR.step rfl rfl 10 (by decide) (by decide) hn hx (by decide) (by omega) _ _ _ _ _ _ _ _ (bytesRow_at _ _ 0 (by decide)) (bytesRow_at _ _ 1 (by decide))⟩,by decide⟩
    |2,_ =>
      have hn:=H.nl 34 (by decide) (by decide);obtain⟨x,hx⟩:=Option.isSome_iff_exists.1 (H.dc 2 (by decide));have hfx:=H.fd 2;have lC:=H.lC.2;have lD:=H.lD.2;have hf1:=H.fc 256;have hf2:=H.fc 34
      go_wp2
      exact⟨⟨3,by decide,rfl,((((((H.setD 2 _ (by decide)).setT 3).setO 34 _ (by decide)).alloc _).alloc _).alloc _).drew,HR.step rfl rfl 34 (by decide) (by decide) hn hx (by decide) (by omega) _ _ _ _ _ _ _ _ (bytesRow_at _ _ 0 (by decide)) (bytesRow_at _ _ 1 (by decide))⟩,by decide⟩
    |3,_ =>
      have hn:=H.nl 92 (by decide) (by decide);obtain⟨x,hx⟩:=Option.isSome_iff_exists.1 (H.dc 3 (by decide));have hfx:=H.fd 3;have lC:=H.lC.2;have lD:=H.lD.2;have hf1:=H.fc 256;have hf2:=H.fc 92
      go_wp2
      exact⟨⟨4,by decide,rfl,((((((H.setD 3 _ (by decide)).setT 4).setO 92 _ (by decide)).alloc _).alloc _).alloc _).drew,HR.step rfl rfl 92 (by decide) (by decide) hn hx (by decide) (by omega) _ _ _ _ _ _ _ _ (bytesRow_at _ _ 0 (by decide)) (bytesRow_at _ _ 1 (by decide))⟩,by decide⟩
    |4,_ =>
      go_wp2
      go_ret
      exact⟨rfl,H,HR⟩
def spec(b:UInt8):Bool:=b==92||b==34||b==10||b==9
def esc(b:UInt8):List UInt8:=if spec b then [92,UInt8.ofNat (escN b.toNat)] else [b]
def cntS(s:ByteArray):Nat→Nat
  |0=>0
  |k+1=>cntS s k+(match s.data[k]? with|some b=>if spec b then 1 else 0|none=>0)
structure Rdy (w:World) (C D:Nat):Prop where
  ht:w.cell? ⟨C,256,none⟩=some (.slice (some ⟨D,0,none⟩) 4 4)
  td:∀ k o,([9,10,34,92]:List Nat)[k]?=some o→w.cell? ⟨D,k,none⟩=some (.string ⟨#[UInt8.ofNat o]⟩)
  nl:∀ j,j<256→j∉([92,34,10,9]:List Nat)→w.cell? ⟨C,j,none⟩=some (.slice none 0 0)
  rp:∀ o∈([92,34,10,9]:List Nat),∃ X cap,X<w.heap.size∧w.cell? ⟨C,o,none⟩=some (.slice (some ⟨X,0,none⟩) 2 cap)∧w.cell? ⟨X,0,none⟩=some (.int .u8 92)∧w.cell? ⟨X,1,none⟩=some (.int .u8 (escN o:Int))
theorem qFO{b:UInt8}(h:spec b=true):b.toNat∈([92,34,10,9]:List Nat):=by
  simp only[spec,Bool.or_eq_true,beq_iff_eq] at h
  rcases h with ((rfl|rfl)|rfl)|rfl <;> decide
theorem qFB{b:UInt8}(h:spec b=false):b.toNat∉([92,34,10,9]:List Nat):=by
  simp only[spec,Bool.or_eq_false_iff,beq_eq_false_iff_ne,ne_eq] at h;obtain⟨⟨⟨h1,h2⟩,h3⟩,h4⟩:=h;intro hm;simp only[List.mem_cons,List.not_mem_nil,or_false] at hm
  rcases hm with e|e|e|e
  · exact h1 (UInt8.toNat_inj.1 e)
  · exact h2 (UInt8.toNat_inj.1 e)
  · exact h3 (UInt8.toNat_inj.1 e)
  · exact h4 (UInt8.toNat_inj.1 e)
theorem qDK(s:ByteArray):∀ k,cntS s k≤k
  |0=>Nat.le_refl _
  |k+1=>by
    have:=qDK s k;rw[cntS];split
    · split <;> omega
    · omega
theorem qDM(s:ByteArray)(k:Nat)(h:k<s.size)(e:spec (s[k]'h)=true):cntS s (k+1)=cntS s k+1:=by
  have:s.data[k]?=some (s[k]'h):=Array.getElem?_eq_getElem _;rw[cntS,this]; simp[e]
theorem qEO(s:ByteArray)(k:Nat)(h:k<s.size)(e:spec (s[k]'h)=false):cntS s (k+1)=cntS s k:=by
  have:s.data[k]?=some (s[k]'h):=Array.getElem?_eq_getElem _;rw[cntS,this]; simp[e]
theorem qPi:∃ i,Tryz.prog.info? 5=some i∧i.zero=some (.int .u8 0)∧i.size=1∧i.bytes=1:=qJU (by kernel_rfl)
theorem qFn(n:Nat)(hn:n≤1000000)(x:Int)(hx:x=(n:Int))(w:World):(Instr.makeSlice 26 (.int .i64 x) (.int .i64 x)).run Tryz.prog w = .ok (.slice (some ⟨w.heap.size,0,none⟩) n n) (w.alloc (.cells (madeCells #[.int .u8 0] n) 5)):=by
  subst hx;obtain⟨i5,h1,h2,h3,h4⟩:=qPi;have h:=run_makeSlice (P:=Tryz.prog) w 26 5 i5 (.int .u8 0) Tryz.underlying26 h1 h2 .i64 .i64 (n:Int) (n:Int) (by omega) (Int.le_refl _) (by rw[h3,Int.toNat_natCast]; omega) (by rw[h4]; omega) (by omega);rw[h3,Int.toNat_natCast,Nat.mul_one] at h;exact h
def wrt(s:ByteArray)(k:Nat):List UInt8:=(s.data.toList.take k).flatMap esc
structure Buf (w:World) (s:ByteArray) (B n k:Nat) (wr:World):Prop where
  bel:Below w.heap.size w wr
  lB:w.heap.size≤B∧B<wr.heap.size
  got:∀ (i:Nat) (b:UInt8),(wrt s k)[i]?=some b→wr.cell? ⟨B,i,none⟩=some (.int .u8 (b.toNat:Int))
  has:∀ i,i<n→(wr.cell? ⟨B,i,none⟩).isSome=true
  fz:∀ i,wr.frozen? ⟨B,i,none⟩=false
theorem qDd(s:ByteArray)(k:Nat)(h:k<s.size):wrt s (k+1)=wrt s k++esc (s[k]'h):=by
  unfold wrt;have:s.data.toList[k]?=some (s[k]'h):=by rw[Array.getElem?_toList]; exact Array.getElem?_eq_getElem _
  rw[List.take_add_one,this,List.flatMap_append];simp
theorem qDI(s:ByteArray):∀ k,k≤s.size→(wrt s k).length=k+cntS s k
  |0,_=>by simp[wrt,cntS]
  |k+1,h=>by
    have hk:k<s.size:=h;rw[qDd s k hk,List.length_append,qDI s k (by omega)];cases e:spec (s[k]'hk)
    · rw[qEO s k hk e]; simp[esc,e]; omega
    · rw[qDM s k hk e]; simp[esc,e]; omega
theorem qGT(s:ByteArray):wrt s s.size=s.data.toList.flatMap esc:=by
  unfold wrt;rw[List.take_of_length_le];rw[Array.length_toList]; exact Nat.le_refl _
theorem qC0(s:ByteArray):∀ (k m:Nat),k≤m→cntS s k≤cntS s m
  |k,0,h=>by (obtain rfl:k=0:=by omega);exact Nat.le_refl _
  |k,m+1,h=>by
    by_cases e:k=m+1
    · rw[e]; exact Nat.le_refl _
    · have:=qC0 s k m (by omega)
      rw[cntS]; omega
theorem qIM(s:ByteArray):∀ k,k≤s.size→cntS s s.size=0→wrt s k=s.data.toList.take k
  |0,_,_=>by simp[wrt]
  |k+1,h,h0=>by
    have hk:k<s.size:=h;have cm:=qC0 s (k+1) s.size h;cases e:spec (s[k]'hk)
    · rw[qDd s k hk,qIM s k (by omega) h0]
      have:s.data.toList[k]?=some (s[k]'hk):=by rw[Array.getElem?_toList]; exact Array.getElem?_eq_getElem _
      rw[List.take_add_one,this];simp[esc,e]
    · rw[qDM s k hk e] at cm; omega
theorem qHa(s:ByteArray)(h0:cntS s s.size=0):s=⟨(s.data.toList.flatMap esc).toArray⟩:=by
  have:=qIM s s.size (Nat.le_refl _) h0;rw[qGT,List.take_of_length_le (by rw[Array.length_toList]; exact Nat.le_refl _)] at this;rw[this]
theorem Buf.new(w:World)(s:ByteArray)(n:Nat):Buf w s w.heap.size n 0 (w.alloc (.cells (madeCells #[.int .u8 0] n) 5)) where
  bel:=(Below.refl _ w).alloc (Nat.le_refl _) _
  lB:=⟨Nat.le_refl _,by simp⟩
  got:=fun i b h=>by simp[wrt] at h
  has:=fun i hi=>by
    have:(w.alloc (.cells (madeCells #[.int .u8 0] n) 5)).cell? ⟨w.heap.size,i,none⟩=(madeCells #[.int .u8 0] n)[i]?:=qIS i;rw[this,Array.getElem?_eq_getElem (by rw[size_madeCells]; exact hi)]; rfl
  fz:=fun i=>qGO (World.alloc_heap_new w (.cells (madeCells #[.int .u8 0] n) 5)) i
theorem Buf.put{w wr:World}{s:ByteArray}{B n k:Nat}(H:Buf w s B n k wr)(i:Nat)(v:Value)(hi:(wrt s k).length≤i):Buf w s B n k (wr.setCell ⟨B,i,none⟩ v) where
  bel:=H.bel.setCell (p:=⟨B,i,none⟩) H.lB.1 _
  lB:=⟨H.lB.1,by simp; exact H.lB.2⟩
  got:=fun j b h=>by
    have hj:=(List.getElem?_eq_some_iff.1 h).1;rw[World.cell?_setCell_other _ _ _ _ (fun e=>by have:=congrArg Addr.off e; simp at this; omega)];exact H.got j b h
  has:=fun j hj=>by
    by_cases e:j=i
    · subst e
      obtain⟨u,hu⟩:=Option.isSome_iff_exists.1 (H.has j hj);rw[World.cell?_setCell_same _ _ _ hu]; rfl
    · rw[World.cell?_setCell_other _ _ _ _ (fun h=>e (congrArg Addr.off h).symm)]
      exact H.has j hj
  fz:=fun j=>(World.frozen?_setCell _ _ _ _).trans (H.fz j)
theorem Buf.drew{w wr:World}{s:ByteArray}{B n k:Nat}(H:Buf w s B n k wr):Buf w s B n k wr.drew:=⟨H.bel.drew,H.lB,fun i b h=>(World.cell?_drew _ _).trans (H.got i b h),fun i hi=>by rw[World.cell?_drew]; exact H.has i hi,H.fz⟩
theorem Buf.one{w wr:World}{s:ByteArray}{B n k:Nat}(H:Buf w s B n k wr)(hk:k<s.size)(hb:spec (s[k]'hk)=false)(hn:(wrt s k).length<n):Buf w s B n (k+1) (wr.setCell ⟨B,(wrt s k).length,none⟩ (.int .u8 ((s[k]'hk).toNat:Int))) where
  bel:=(H.put _ _ (Nat.le_refl _)).bel
  lB:=(H.put _ _ (Nat.le_refl _)).lB
  got:=fun i b h=>by
    rw[qDd s k hk] at h;by_cases hi:i<(wrt s k).length
    · rw[List.getElem?_append_left hi] at h
      exact(H.put _ _ (Nat.le_refl _)).got i b h
    · have hi2:=(List.getElem?_eq_some_iff.1 h).1
      simp[esc,hb] at hi2;obtain rfl:i=(wrt s k).length:=by omega
      rw[List.getElem?_append_right (Nat.le_refl _),Nat.sub_self] at h;simp[esc,hb] at h;subst h;obtain⟨u,hu⟩:=Option.isSome_iff_exists.1 (H.has _ hn);exact World.cell?_setCell_same _ _ _ hu
  has:=(H.put _ _ (Nat.le_refl _)).has
  fz:=(H.put _ _ (Nat.le_refl _)).fz
theorem Buf.two{w wr:World}{s:ByteArray}{B n k:Nat}(H:Buf w s B n k wr)(hk:k<s.size)(hb:spec (s[k]'hk)=true)(hn:(wrt s k).length+1<n):Buf w s B n (k+1) (wr.setCells B (wrt s k).length [.int .u8 92,.int .u8 (escN (s[k]'hk).toNat:Int)]):=by
  have e1:wr.setCells B (wrt s k).length [.int .u8 92,.int .u8 (escN (s[k]'hk).toNat:Int)]=(wr.setCell ⟨B,(wrt s k).length,none⟩ (.int .u8 92)).setCell ⟨B,(wrt s k).length+1,none⟩ (.int .u8 (escN (s[k]'hk).toNat:Int)):=rfl;rw[e1];have H1:=H.put (wrt s k).length (.int .u8 92) (Nat.le_refl _);have H2:=H1.put ((wrt s k).length+1) (.int .u8 (escN (s[k]'hk).toNat:Int)) (by omega);have hlt:escN (s[k]'hk).toNat<256:=by
    have:=(s[k]'hk).toNat_lt;unfold escN;split
    · decide
    · split
      · decide
      · exact this
  refine⟨H2.bel,H2.lB,fun i b h => ?_,H2.has,H2.fz⟩;rw[qDd s k hk] at h;by_cases hi:i<(wrt s k).length
  · rw[List.getElem?_append_left hi] at h
    exact H2.got i b h
  · rw[List.getElem?_append_right (by omega)] at h
    have hi2:=(List.getElem?_eq_some_iff.1 h).1;simp[esc,hb] at hi2;by_cases c:i=(wrt s k).length
    · subst c
      rw[Nat.sub_self] at h;simp[esc,hb] at h;subst h;rw[World.cell?_setCell_other _ _ _ _ (fun e=>by have:=congrArg Addr.off e; simp at this)];obtain⟨u,hu⟩:=Option.isSome_iff_exists.1 (H.has _ (show(wrt s k).length<n by omega));exact World.cell?_setCell_same _ _ _ hu
    · obtain rfl:i=(wrt s k).length+1:=by omega
      rw[Nat.add_sub_cancel_left] at h;simp[esc,hb] at h;subst h;obtain⟨u,hu⟩:=Option.isSome_iff_exists.1 (H1.has _ hn);rw[World.cell?_setCell_same _ _ _ hu,UInt8.toNat_ofNat',Nat.mod_eq_of_lt hlt]
theorem Buf.one'{w wr:World}{s:ByteArray}{B n k:Nat}(H:Buf w s B n k wr)(hk:k<s.size)(hb:spec (s[k]'hk)=false)(hn:k+cntS s k<n):Buf w s B n (k+1) (wr.setCell ⟨B,k+cntS s k,none⟩ (.int .u8 ((s[k]'hk).toNat:Int))):=by
  have wl:=qDI s k (by omega);have:=H.one hk hb (by omega);rw[wl] at this;exact this
theorem Buf.two'{w wr:World}{s:ByteArray}{B n k:Nat}(H:Buf w s B n k wr)(hk:k<s.size)(hb:spec (s[k]'hk)=true)(hn:k+cntS s k+1<n):Buf w s B n (k+1) (wr.setCells B (k+cntS s k) [.int .u8 92,.int .u8 (escN (s[k]'hk).toNat:Int)]):=by
  have wl:=qDI s k (by omega);have:=H.two hk hb (by omega);rw[wl] at this;exact this
theorem qC5{P:Program}{ops:Array Oper}{o:Oper}{a:Act}{w:World}{K:Act→World→Prop}{Q:Exit→Act→World→Prop}{E:Prop}(hgd:o.guard=none)(d s:Operand)(dT sT:TypeId)
    (ho:o.op = .call { callee := .builtin .copy,args:=#[d,s],argTypes:=#[dT,sT] }) (elem:TypeId) (hu:P.underlying dT=some (.slice elem)) (hsz:(P.info? elem).map (·.size)=some 1)
    (g off dLen dCap:Nat) (ad:Addr) (sLen sCap:Nat) (hd:a.eval d = .slice (some ⟨g,off,none⟩) dLen dCap) (hs:a.eval s = .slice (some ad) sLen sCap) (cs:List Value) (hn:cs.length=Nat.min sLen dLen)
    (hsrc:∀ j v,cs[j]?=some v→w.cell? (ad.add j)=some v) (hc:∀ j,j<cs.length→(w.cell? ⟨g,off+j,none⟩).isSome=true) (hf:∀ j,j<cs.length→w.frozen? ⟨g,off+j,none⟩=false) (h1:∀ v∈cs,v.oneCell'=true)
    (h:K (a.put o.dst (goInt cs.length)) (w.setCells g off cs)) :
    if Region.wanted o (yielded ops a.tmps)=true then Oper.wp P o a w K Q else E:=by
  have hw:Region.wanted o (yielded ops a.tmps)=true:=by simp[Region.wanted,hgd]
  rw[if_pos hw];have hrun:=run_copy_cells (P:=P) w dT sT o.type elem g off dLen dCap ad sLen sCap cs hu hsz hn hsrc hc hf h1;unfold Oper.wp;simp[execOp,ho,resolve,invoke,builtin,hd,hs,hrun,Result.andThen];exact h
theorem qPY:(Tryz.prog.info? 5).map (·.size)=some 1:=by
  obtain⟨i5,h1,h2,h3,h4⟩:=qPi;rw[h1]; simp[h3]
theorem qMo(C D:Nat)(s:ByteArray)(hs:s.size<32)(w:World)(R:Rdy w C D) :
    Calls Tryz.prog 191 #[.pointer (some ⟨C,0,none⟩),.string s] w fun e w'=>e = .returned (.string ⟨(s.data.toList.flatMap esc).toArray⟩)∧Below w.heap.size w w':=by
  have hq:∀ (w:World) (a:Option Addr) (n c n' c':Nat),(binOp .neq 26 (.slice a n c) (.slice none n' c')).run Tryz.prog w = .ok (.bool (!a.isNone)) w:=fun w a n c n' c'=>run_neq_slice_nil_any w _ _ a n c n' c' Tryz.underlying26
  have hlt:¬ (32:Int)≤(s.size:Int):=by omega
  have ht:=R.ht;have hmk:∀ w:World,(Instr.makeSlice 26 (.int .i64 ((s.size:Int)+(cntS s s.size:Int))) (.int .i64 ((s.size:Int)+(cntS s s.size:Int)))).run Tryz.prog w = .ok (.slice (some ⟨w.heap.size,0,none⟩) (s.size+cntS s s.size) (s.size+cntS s s.size)) (w.alloc (.cells (madeCells #[.int .u8 0] (s.size+cntS s s.size)) 5)):=fun w=>qFn _ (by have:=qDK s s.size; omega) _ (by simp) w
  go_enter Tryz.func191,Tryz.ntmps191
  go_wp2
  go_loopw [5,6,10] (fun n5 c6 i wr=>∃ k:Nat,k≤s.size∧i = .int .i64 (k:Int)∧n5 = .int .i64 ((s.size:Int)+(cntS s k:Int))∧c6 = .bool (decide (0<cntS s k))∧wr=w) (fun _ _ i _=>s.size - (intOf i).toNat)
  case atStart=>exact⟨0,Nat.zero_le _,rfl,by simp[cntS],rfl,rfl⟩
  case round =>
    obtain⟨k,hk,rfl,rfl,rfl,rfl⟩:=hrel
    rename World=>w
    have cl:=qDK s k;by_cases hlt2:k<s.size
    · have hb8:((s[k]'hlt2).toNat:Int)<256:=by have:=(s[k]'hlt2).toNat_lt; omega
      cases hsp:spec (s[k]'hlt2)
      · have hc:=R.nl _ (s[k]'hlt2).toNat_lt (qFB hsp)
        have hcn:=qEO s k hlt2 hsp
        go_wp2
        go_roundw
        case rel=>exact⟨k+1,by omega,by simp,by rw[hcn],by rw[hcn],trivial⟩
        case measure=>simp[intOf]; omega
      · obtain⟨X,cap,hX,hc,h0,h1⟩:=R.rp _ (qFO hsp)
        have hcn:=qDM s k hlt2 hsp
        go_wp2
        go_roundw
        case rel=>exact⟨k+1,by omega,by simp,by rw[hcn]; first|rfl|(congr 1; omega),by rw[hcn]; simp,trivial⟩
        case measure=>simp[intOf]; omega
    · obtain rfl:k=s.size:=by omega
      by_cases hz:0<cntS s s.size
      · have hz2:=decide_eq_true hz
        rw[hz2]
        go_wp2
        go_loopw [13,14] (fun j i w2=>∃ k:Nat,k≤s.size∧i = .int .i64 (k:Int)∧j = .int .i64 ((k+cntS s k:Nat):Int)∧Buf w s w.heap.size (s.size+cntS s s.size) k w2) (fun _ i _=>s.size - (intOf i).toNat)
        case atStart=>exact⟨0,Nat.zero_le _,rfl,rfl,Buf.new w s _⟩
        case round =>
          obtain⟨k,hk,rfl,rfl,H⟩:=hrel;by_cases hlt3:k<s.size
          · have hb8:((s[k]'hlt3).toNat:Int)<256:=by have:=(s[k]'hlt3).toNat_lt; omega
            have cm:=qC0 s (k+1) s.size hlt3;cases hsp:spec (s[k]'hlt3)
            · have hc0:=R.nl _ (s[k]'hlt3).toNat_lt (qFB hsp)
              have hcn:=qEO s k hlt3 hsp;have hc:=(H.bel.cell (p:=⟨C,(s[k]'hlt3).toNat,none⟩) (qAZ hc0)).trans hc0;have jl:k+cntS s k<s.size+cntS s s.size:=by omega
              obtain⟨u,hu⟩:=Option.isSome_iff_exists.1 (H.has (k+cntS s k) jl);have hf:=H.fz (k+cntS s k);have jl2:(k:Int)+(cntS s k:Int)<(s.size:Int)+(cntS s s.size:Int):=by omega
              have nx:=H.one' hlt3 hsp jl
              go_wp2
              go_roundw
              case rel=>exact⟨k+1,by omega,by simp,by rw[hcn]; simp; omega,nx⟩
              case measure=>simp[intOf]; omega
            · obtain⟨X,cap,hX,hc0,h00,h10⟩:=R.rp _ (qFO hsp)
              have hcn:=qDM s k hlt3 hsp;have hc:=(H.bel.cell (p:=⟨C,(s[k]'hlt3).toNat,none⟩) (qAZ hc0)).trans hc0;have H':=H.drew;have hc':=(H'.bel.cell (p:=⟨C,(s[k]'hlt3).toNat,none⟩) (qAZ hc0)).trans hc0;have h0:=(H'.bel.cell (p:=⟨X,0,none⟩) hX).trans h00;have h1:=(H'.bel.cell (p:=⟨X,1,none⟩) hX).trans h10;have jl:k+cntS s k+1<s.size+cntS s s.size:=by omega
              have jl2:(k:Int)+(cntS s k:Int)+1<(s.size:Int)+(cntS s s.size:Int):=by omega
              have jl3:(k:Int)+(cntS s k:Int)≤(s.size:Int)+(cntS s s.size:Int):=by omega
              have jl4:(0:Int)≤(k:Int)+(cntS s k:Int):=by omega
              have jt:((k:Int)+(cntS s k:Int)).toNat=k+cntS s k:=by omega
              have jne:¬ (s.size+cntS s s.size=k+cntS s k):=by omega
              have nx:=H'.two' hlt3 hsp jl;have hsrc:∀ j v,([.int .u8 92,.int .u8 (escN (s[k]'hlt3).toNat:Int)]:List Value)[j]?=some v→wr.drew.cell? ((⟨X,0,none⟩:Addr).add j)=some v:=by
                intro j v hj
                match j,hj with
                |0,hj=>obtain rfl:=Option.some.inj hj; exact h0
                |1,hj=>obtain rfl:=Option.some.inj hj; exact h1
              have hcc:∀ j,j<2→(wr.drew.cell? ⟨w.heap.size,k+cntS s k+j,none⟩).isSome=true:=fun j hj=>H'.has _ (by omega)
              have hff:∀ j,j<2→wr.drew.frozen? ⟨w.heap.size,k+cntS s k+j,none⟩=false:=fun j hj=>H'.fz _
              go_wp2
              go_region_law (refine qC5 rfl (.tmp 105) (.tmp 111) 26 26 rfl 5 Tryz.underlying26 qPY w.heap.size (k+cntS s k) (s.size+cntS s s.size - (k+cntS s k)) _ ⟨X,0,none⟩ 2 cap rfl rfl [.int .u8 92,.int .u8 (escN (s[k]'hlt3).toNat:Int)] (Nat.min_eq_left (show(2:Nat)≤s.size+cntS s s.size - (k+cntS s k) by omega)).symm hsrc hcc hff (by simp[Value.oneCell']) ?_)
              go_wp2
              go_roundw
              case rel=>exact⟨k+1,by omega,by simp,by rw[hcn]; simp; omega,nx⟩
              case measure=>simp[intOf]; omega
          · obtain rfl:k=s.size:=by omega
            have wa:=qGT s;have wl:=qDI s s.size (Nat.le_refl _);have hcv:(convert 26 9 (.slice (some ⟨w.heap.size,0,none⟩) (s.size+cntS s s.size) (s.size+cntS s s.size))).run Tryz.prog wr = .ok (.string ⟨(s.data.toList.flatMap esc).toArray⟩) wr:=by
              have h:=run_convert_bytes_back (P:=Tryz.prog) wr 26 9 5 ⟨w.heap.size,0,none⟩ (s.size+cntS s s.size) (wrt s s.size) Tryz.underlying26 Tryz.underlying5 Tryz.underlying9 (fun j hj=>by
                have:=H.got j _ (List.getElem?_eq_getElem hj);have e:(⟨w.heap.size,0,none⟩:Addr).add j=⟨w.heap.size,j,none⟩:=by unfold Addr.add; split <;> simp_all
                rw[e]; exact this)
              rw[wl,wa] at h;exact h
            clear wl
            go_wp2
            go_ret
            exact⟨rfl,H.bel⟩
      · go_wp2
        go_ret
        exact⟨congrArg (fun x=>Ending.returned (Value.string x)) (qHa s (by omega)),Below.refl _ _⟩
theorem qBX(s:ByteArray)(c:UInt8)(w:World):Calls Tryz.prog 193 #[.string s,.string ⟨#[c]⟩] w fun e w'=>e = .returned (.int .i64 ((Lib.countByte s.data.toList c:Nat):Int))∧w'=w:=by
  go_enter Tryz.func193,Tryz.ntmps193
  go_wp2
  rw[run_callFunc_extern Tryz.func195 (by kernel_rfl) (by kernel_rfl) (by kernel_rfl) (e:=Extern.BytealgCount.count) (by kernel_rfl),Lib.run_countString];simp only[Result.andThen];rw[Oper.upon_value]
  go_wp2
  go_ret
  exact⟨rfl,rfl⟩
theorem qPg(z:Int)(h1 : -9223372036854775808≤z)(h2:z≤9223372036854775807):IntKind.i64.wrap z=z:=by
  simp only[IntKind.wrap,IntKind.bits,IntKind.signed,Bool.true_and,decide_eq_true_eq,ge_iff_le];split <;> omega
def cB(s:ByteArray)(b:UInt8):Nat:=Lib.countByte s.data.toList b
def sumC(s:ByteArray):Nat→Nat
  |0=>0
  |k+1=>sumC s k+cB s (([9,10,34,92]:List UInt8).getD k 0)
theorem qH9:∀ l:List UInt8,l.count 9+l.count 10+l.count 34+l.count 92=(l.filter spec).length
  |[]=>rfl
  |b::l=>by
    have ih:=qH9 l;simp only[List.count_cons,List.filter_cons];by_cases h1:b=9
    · subst h1; simp[spec]; omega
    by_cases h2:b=10
    · subst h2; simp[spec]; omega
    by_cases h3:b=34
    · subst h3; simp[spec]; omega
    by_cases h4:b=92
    · subst h4; simp[spec]; omega
    · have:spec b=false:=by simp[spec,h1,h2,h3,h4]
      simp[h1,h2,h3,h4,this]; omega
theorem qEl(s:ByteArray):∀ k,k≤s.size→cntS s k=((s.data.toList.take k).filter spec).length
  |0,_=>rfl
  |k+1,h=>by
    have hk:k<s.size:=h;have:s.data.toList[k]?=some (s[k]'hk):=by rw[Array.getElem?_toList]; exact Array.getElem?_eq_getElem _
    rw[List.take_add_one,this,List.filter_append,List.length_append,← qEl s k (by omega)];cases e:spec (s[k]'hk)
    · rw[qEO s k hk e]; simp[e]
    · rw[qDM s k hk e]; simp[e]
theorem qPG(s:ByteArray):sumC s 4=cntS s s.size:=by
  rw[qEl s s.size (Nat.le_refl _),List.take_of_length_le (by rw[Array.length_toList]; exact Nat.le_refl _),← qH9];show 0+cB s 9+cB s 10+cB s 34+cB s 92=_;unfold cB Lib.countByte;omega
theorem qF4(s:ByteArray)(b:UInt8):cB s b≤s.size:=by
  unfold cB Lib.countByte;have:=List.count_le_length (a:=b) (l:=s.data.toList);rw[Array.length_toList] at this;exact this
theorem qJb(s:ByteArray):∀ k,sumC s k≤k*s.size
  |0=>by simp[sumC]
  |k+1=>by
    have:=qJb s k;have:=qF4 s (([9,10,34,92]:List UInt8).getD k 0);rw[sumC,Nat.succ_mul]; omega
theorem Rdy.drew{w:World}{C D:Nat}(R:Rdy w C D):Rdy w.drew C D where
  ht:=(World.cell?_drew _ _).trans R.ht
  td:=fun k o h=>(World.cell?_drew _ _).trans (R.td k o h)
  nl:=fun j h1 h2=>(World.cell?_drew _ _).trans (R.nl j h1 h2)
  rp:=fun o ho=>by
    obtain⟨X,cap,h1,h2,h3,h4⟩:=R.rp o ho;exact⟨X,cap,h1,(World.cell?_drew _ _).trans h2,(World.cell?_drew _ _).trans h3,(World.cell?_drew _ _).trans h4⟩
theorem qNh(C D:Nat)(s:ByteArray)(hs:32≤s.size)(hs2:s.size≤100000)(w:World)(R:Rdy w C D) :
    Calls Tryz.prog 191 #[.pointer (some ⟨C,0,none⟩),.string s] w fun e w'=>e = .returned (.string ⟨(s.data.toList.flatMap esc).toArray⟩)∧Below w.heap.size w w':=by
  have hq:∀ (w:World) (a:Option Addr) (n c n' c':Nat),(binOp .neq 26 (.slice a n c) (.slice none n' c')).run Tryz.prog w = .ok (.bool (!a.isNone)) w:=fun w a n c n' c'=>run_neq_slice_nil_any w _ _ a n c n' c' Tryz.underlying26
  have hlt:(32:Int)≤(s.size:Int):=by omega
  have ht:=R.ht;have hmk:∀ w:World,(Instr.makeSlice 26 (.int .i64 ((s.size:Int)+(cntS s s.size:Int))) (.int .i64 ((s.size:Int)+(cntS s s.size:Int)))).run Tryz.prog w = .ok (.slice (some ⟨w.heap.size,0,none⟩) (s.size+cntS s s.size) (s.size+cntS s s.size)) (w.alloc (.cells (madeCells #[.int .u8 0] (s.size+cntS s s.size)) 5)):=fun w=>qFn _ (by have:=qDK s s.size; omega) _ (by simp) w
  go_enter Tryz.func191,Tryz.ntmps191
  go_wp2
  go_loopw [5,6,32] (fun n5 c6 i wr=>∃ k:Nat,k≤4∧i = .int .i64 (k:Int)∧n5 = .int .i64 ((s.size:Int)+(sumC s k:Int))∧c6 = .bool (decide (0<sumC s k))∧Rdy wr C D∧Below w.heap.size w wr∧wr.heap.size=w.heap.size) (fun _ _ i _=>4 - (intOf i).toNat)
  case atStart=>exact⟨0,Nat.zero_le _,rfl,by simp[sumC],rfl,R,Below.refl _ _,rfl⟩
  case round =>
    obtain⟨k,hk,rfl,rfl,rfl,RR,hb,hsz⟩:=hrel;have cl:=qJb s k;have htr:=RR.ht;have e9:∀ h,(({ data:=#[9] }:ByteArray)[0]'h).toNat=9:=fun _=>rfl
    have e10:∀ h,(({ data:=#[10] }:ByteArray)[0]'h).toNat=10:=fun _=>rfl
    have e34:∀ h,(({ data:=#[34] }:ByteArray)[0]'h).toNat=34:=fun _=>rfl
    have e92:∀ h,(({ data:=#[92] }:ByteArray)[0]'h).toNat=92:=fun _=>rfl
    have htd:=RR.drew.ht
    match k,hk with
    |0,_ =>
      have hd:=RR.td 0 9 rfl;obtain⟨X,cap,hX,hc,h0,h1⟩:=RR.drew.rp 9 (by decide);have cb:=qF4 s 9;have cbI:((cB s 9:Nat):Int)≤(s.size:Int):=by omega
      have e1:sumC s 1=sumC s 0+cB s 9:=rfl;have clI:((sumC s 0:Nat):Int)≤400000:=by omega
      have hs2I:(s.size:Int)≤100000:=by omega
      by_cases hz:cB s 9=0
      · have hz2:((cB s 9:Nat):Int)=0:=by omega
        go_wp2_with (go_at_call 193; refine(qBX s 9 _).mono ?_; rintro e w' ⟨rfl,rfl⟩; show _; rw[show Lib.countByte s.data.toList 9=cB s 9 from rfl])
        go_roundw
        case rel=>exact⟨1,by decide,rfl,by rw[e1,hz]; rfl,by rw[e1,hz]; rfl,RR,hb,hsz⟩
        case measure=>simp[intOf]
      · have hz2:¬ ((cB s 9:Nat):Int)=0:=by omega
        go_wp2_with (go_at_call 193; refine(qBX s 9 _).mono ?_; rintro e w' ⟨rfl,rfl⟩; show _; rw[show Lib.countByte s.data.toList 9=cB s 9 from rfl])
        go_region
        go_wp2
        go_roundw
        case rel=>exact⟨1,by decide,rfl,by rw[e1]; first|rfl|(congr 1; omega),by rw[e1]; simp; omega,RR.drew,hb.drew,hsz⟩
        case measure=>simp[intOf]
    |1,_ =>
      have hd:=RR.td 1 10 rfl;obtain⟨X,cap,hX,hc,h0,h1⟩:=RR.drew.rp 10 (by decide);have cb:=qF4 s 10;have cbI:((cB s 10:Nat):Int)≤(s.size:Int):=by omega
      have e1:sumC s 2=sumC s 1+cB s 10:=rfl;have clI:((sumC s 1:Nat):Int)≤400000:=by omega
      have hs2I:(s.size:Int)≤100000:=by omega
      by_cases hz:cB s 10=0
      · have hz2:((cB s 10:Nat):Int)=0:=by omega
        go_wp2_with (go_at_call 193; refine(qBX s 10 _).mono ?_; rintro e w' ⟨rfl,rfl⟩; show _; rw[show Lib.countByte s.data.toList 10=cB s 10 from rfl])
        go_roundw
        case rel=>exact⟨2,by decide,rfl,by rw[e1,hz]; rfl,by rw[e1,hz]; rfl,RR,hb,hsz⟩
        case measure=>simp[intOf]
      · have hz2:¬ ((cB s 10:Nat):Int)=0:=by omega
        go_wp2_with (go_at_call 193; refine(qBX s 10 _).mono ?_; rintro e w' ⟨rfl,rfl⟩; show _; rw[show Lib.countByte s.data.toList 10=cB s 10 from rfl])
        go_region
        go_wp2
        go_roundw
        case rel=>exact⟨2,by decide,rfl,by rw[e1]; first|rfl|(congr 1; omega),by rw[e1]; simp; omega,RR.drew,hb.drew,hsz⟩
        case measure=>simp[intOf]
    |2,_ =>
      have hd:=RR.td 2 34 rfl;obtain⟨X,cap,hX,hc,h0,h1⟩:=RR.drew.rp 34 (by decide);have cb:=qF4 s 34;have cbI:((cB s 34:Nat):Int)≤(s.size:Int):=by omega
      have e1:sumC s 3=sumC s 2+cB s 34:=rfl;have clI:((sumC s 2:Nat):Int)≤400000:=by omega
      have hs2I:(s.size:Int)≤100000:=by omega
      by_cases hz:cB s 34=0
      · have hz2:((cB s 34:Nat):Int)=0:=by omega
        go_wp2_with (go_at_call 193; refine(qBX s 34 _).mono ?_; rintro e w' ⟨rfl,rfl⟩; show _; rw[show Lib.countByte s.data.toList 34=cB s 34 from rfl])
        go_roundw
        case rel=>exact⟨3,by decide,rfl,by rw[e1,hz]; rfl,by rw[e1,hz]; rfl,RR,hb,hsz⟩
        case measure=>simp[intOf]
      · have hz2:¬ ((cB s 34:Nat):Int)=0:=by omega
        go_wp2_with (go_at_call 193; refine(qBX s 34 _).mono ?_; rintro e w' ⟨rfl,rfl⟩; show _; rw[show Lib.countByte s.data.toList 34=cB s 34 from rfl])
        go_region
        go_wp2
        go_roundw
        case rel=>exact⟨3,by decide,rfl,by rw[e1]; first|rfl|(congr 1; omega),by rw[e1]; simp; omega,RR.drew,hb.drew,hsz⟩
        case measure=>simp[intOf]
    |3,_ =>
      have hd:=RR.td 3 92 rfl;obtain⟨X,cap,hX,hc,h0,h1⟩:=RR.drew.rp 92 (by decide);have cb:=qF4 s 92;have cbI:((cB s 92:Nat):Int)≤(s.size:Int):=by omega
      have e1:sumC s 4=sumC s 3+cB s 92:=rfl;have clI:((sumC s 3:Nat):Int)≤400000:=by omega
      have hs2I:(s.size:Int)≤100000:=by omega
      by_cases hz:cB s 92=0
      · have hz2:((cB s 92:Nat):Int)=0:=by omega
        go_wp2_with (go_at_call 193; refine(qBX s 92 _).mono ?_; rintro e w' ⟨rfl,rfl⟩; show _; rw[show Lib.countByte s.data.toList 92=cB s 92 from rfl])
        go_roundw
        case rel=>exact⟨4,by decide,rfl,by rw[e1,hz]; rfl,by rw[e1,hz]; rfl,RR,hb,hsz⟩
        case measure=>simp[intOf]
      · have hz2:¬ ((cB s 92:Nat):Int)=0:=by omega
        go_wp2_with (go_at_call 193; refine(qBX s 92 _).mono ?_; rintro e w' ⟨rfl,rfl⟩; show _; rw[show Lib.countByte s.data.toList 92=cB s 92 from rfl])
        go_region
        go_wp2
        go_roundw
        case rel=>exact⟨4,by decide,rfl,by rw[e1]; first|rfl|(congr 1; omega),by rw[e1]; simp; omega,RR.drew,hb.drew,hsz⟩
        case measure=>simp[intOf]
    |4,_ =>
      rw[qPG s];have R2:=RR;have hle:=Nat.le_of_eq hsz.symm;clear htd R ht RR hsz e9 e10 e34 e92;have R:=R2;have ht:=htr
      rename World=>w
      by_cases hz:0<cntS s s.size
      · have hz2:=decide_eq_true hz
        rw[hz2];simp only[Int.cast_ofNat_Int]
        go_wp2
        go_loopw [13,14] (fun j i w2=>∃ k:Nat,k≤s.size∧i = .int .i64 (k:Int)∧j = .int .i64 ((k+cntS s k:Nat):Int)∧Buf w s w.heap.size (s.size+cntS s s.size) k w2) (fun _ i _=>s.size - (intOf i).toNat)
        case atStart=>exact⟨0,Nat.zero_le _,rfl,rfl,Buf.new w s _⟩
        case round =>
          obtain⟨k,hk,rfl,rfl,H⟩:=hrel;by_cases hlt3:k<s.size
          · have hb8:((s[k]'hlt3).toNat:Int)<256:=by have:=(s[k]'hlt3).toNat_lt; omega
            have cm:=qC0 s (k+1) s.size hlt3;have hs2I:(s.size:Int)≤100000:=by omega
            have ckN:=qDK s k;have ckI:((cntS s k:Nat):Int)≤100000:=by omega
            have kI:(k:Int)<100000:=by omega
            have wr1:IntKind.i64.wrap ((k:Int)+(cntS s k:Int)+1)=(k:Int)+(cntS s k:Int)+1:=qPg _ (by omega) (by omega);have wr2:IntKind.i64.wrap ((k:Int)+(cntS s k:Int)+2)=(k:Int)+(cntS s k:Int)+2:=qPg _ (by omega) (by omega);cases hsp:spec (s[k]'hlt3)
            · have hc0:=R.nl _ (s[k]'hlt3).toNat_lt (qFB hsp)
              have hcn:=qEO s k hlt3 hsp;have hc:=(H.bel.cell (p:=⟨C,(s[k]'hlt3).toNat,none⟩) (qAZ hc0)).trans hc0;have jl:k+cntS s k<s.size+cntS s s.size:=by omega
              obtain⟨u,hu⟩:=Option.isSome_iff_exists.1 (H.has (k+cntS s k) jl);have hf:=H.fz (k+cntS s k);have jl2:(k:Int)+(cntS s k:Int)<(s.size:Int)+(cntS s s.size:Int):=by omega
              have nx:=H.one' hlt3 hsp jl
              go_wp2
              go_roundw
              case rel=>exact⟨k+1,by omega,by simp,by rw[hcn]; simp; omega,nx⟩
              case measure=>simp[intOf]; omega
            · obtain⟨X,cap,hX,hc0,h00,h10⟩:=R.rp _ (qFO hsp)
              have hcn:=qDM s k hlt3 hsp;have hc:=(H.bel.cell (p:=⟨C,(s[k]'hlt3).toNat,none⟩) (qAZ hc0)).trans hc0;have H':=H.drew;have hc':=(H'.bel.cell (p:=⟨C,(s[k]'hlt3).toNat,none⟩) (qAZ hc0)).trans hc0;have h0:=(H'.bel.cell (p:=⟨X,0,none⟩) hX).trans h00;have h1:=(H'.bel.cell (p:=⟨X,1,none⟩) hX).trans h10;have jl:k+cntS s k+1<s.size+cntS s s.size:=by omega
              have jl2:(k:Int)+(cntS s k:Int)+1<(s.size:Int)+(cntS s s.size:Int):=by omega
              have jl3:(k:Int)+(cntS s k:Int)≤(s.size:Int)+(cntS s s.size:Int):=by omega
              have jl4:(0:Int)≤(k:Int)+(cntS s k:Int):=by omega
              have jt:((k:Int)+(cntS s k:Int)).toNat=k+cntS s k:=by omega
              have jne:¬ (s.size+cntS s s.size=k+cntS s k):=by omega
              have nx:=H'.two' hlt3 hsp jl;have hsrc:∀ j v,([.int .u8 92,.int .u8 (escN (s[k]'hlt3).toNat:Int)]:List Value)[j]?=some v→wr.drew.cell? ((⟨X,0,none⟩:Addr).add j)=some v:=by
                intro j v hj
                match j,hj with
                |0,hj=>obtain rfl:=Option.some.inj hj; exact h0
                |1,hj=>obtain rfl:=Option.some.inj hj; exact h1
              have hcc:∀ j,j<2→(wr.drew.cell? ⟨w.heap.size,k+cntS s k+j,none⟩).isSome=true:=fun j hj=>H'.has _ (by omega)
              have hff:∀ j,j<2→wr.drew.frozen? ⟨w.heap.size,k+cntS s k+j,none⟩=false:=fun j hj=>H'.fz _
              go_wp2
              go_region_law (refine qC5 rfl (.tmp 105) (.tmp 111) 26 26 rfl 5 Tryz.underlying26 qPY w.heap.size (k+cntS s k) (s.size+cntS s s.size - (k+cntS s k)) _ ⟨X,0,none⟩ 2 cap rfl rfl [.int .u8 92,.int .u8 (escN (s[k]'hlt3).toNat:Int)] (Nat.min_eq_left (show(2:Nat)≤s.size+cntS s s.size - (k+cntS s k) by omega)).symm hsrc hcc hff (by simp[Value.oneCell']) ?_)
              go_wp2
              go_roundw
              case rel=>exact⟨k+1,by omega,by simp,by rw[hcn]; simp; omega,nx⟩
              case measure=>simp[intOf]; omega
          · obtain rfl:k=s.size:=by omega
            have wa:=qGT s;have wl:=qDI s s.size (Nat.le_refl _);have hcv:(convert 26 9 (.slice (some ⟨w.heap.size,0,none⟩) (s.size+cntS s s.size) (s.size+cntS s s.size))).run Tryz.prog wr = .ok (.string ⟨(s.data.toList.flatMap esc).toArray⟩) wr:=by
              have h:=run_convert_bytes_back (P:=Tryz.prog) wr 26 9 5 ⟨w.heap.size,0,none⟩ (s.size+cntS s s.size) (wrt s s.size) Tryz.underlying26 Tryz.underlying5 Tryz.underlying9 (fun j hj=>by
                have:=H.got j _ (List.getElem?_eq_getElem hj);have e:(⟨w.heap.size,0,none⟩:Addr).add j=⟨w.heap.size,j,none⟩:=by unfold Addr.add; split <;> simp_all
                rw[e]; exact this)
              rw[wl,wa] at h;exact h
            clear wl
            go_wp2
            go_ret
            exact⟨rfl,hb.trans (H.bel.mono (by omega))⟩
      · go_wp2
        go_ret
        exact⟨congrArg (fun x=>Ending.returned (Value.string x)) (qHa s (by omega)),hb⟩
abbrev St2(w:World)(C D:Nat)(W:World):Prop:=St w C D [92,34,10,9] 4 W∧Rp w C D [92,34,10,9] W
theorem qPX(rb B cap:Nat)(x3:Value)(w:World)(hne:rb≠B)(h3:w.cell? ⟨rb,3,none⟩=some x3)(h4:w.cell? ⟨rb,4,none⟩=some (.slice (some ⟨B,0,none⟩) 8 cap))(fz:∀ j,w.frozen? ⟨rb,j,none⟩=false)
    (c0:w.cell? ⟨B,0,none⟩=some (.string { data:=#[92] })) (c1:w.cell? ⟨B,1,none⟩=some (.string { data:=#[92,92] })) (c2:w.cell? ⟨B,2,none⟩=some (.string { data:=#[34] })) (c3:w.cell? ⟨B,3,none⟩=some (.string { data:=#[92,34] }))
    (c4:w.cell? ⟨B,4,none⟩=some (.string { data:=#[10] })) (c5:w.cell? ⟨B,5,none⟩=some (.string { data:=#[92,110] })) (c6:w.cell? ⟨B,6,none⟩=some (.string { data:=#[9] })) (c7:w.cell? ⟨B,7,none⟩=some (.string { data:=#[92,116] })) :
    Calls Tryz.prog 93 #[.pointer (some ⟨rb,0,none⟩)] w fun e w'=>e = .returned (.tuple #[])∧∃ W,St2 w (w.heap.size+1) w.heap.size W∧w'=(W.setCell ⟨rb,3,none⟩ (ifc (w.heap.size+1))).setCell ⟨rb,4,none⟩ (.slice none 0 0):=by
  have lr:rb<w.heap.size:=qAZ h3
  go_enter Tryz.func93,Tryz.ntmps93
  have key:Calls Tryz.prog 117 #[.pointer (some ⟨rb,0,none⟩)] w fun e W=>e = .returned (ifc (w.heap.size+1))∧St2 w (w.heap.size+1) w.heap.size W∧W.cell? ⟨rb,3,none⟩=some x3∧W.cell? ⟨rb,4,none⟩=some (.slice (some ⟨B,0,none⟩) 8 cap)∧W.frozen? ⟨rb,3,none⟩=false∧W.frozen? ⟨rb,4,none⟩=false :=
    (qLu rb B cap w h4 c0 c1 c2 c3 c4 c5 c6 c7).mono fun e W ⟨he,H⟩=>⟨he,H,(H.1.bel.cell (p:=⟨rb,3,none⟩) lr).trans h3,(H.1.bel.cell (p:=⟨rb,4,none⟩) lr).trans h4,(qBK H.1.bel (a:=⟨rb,3,none⟩) lr).trans (fz 3),(qBK H.1.bel (a:=⟨rb,4,none⟩) lr).trans (fz 4)⟩
  go_wp2_with (go_at_call 117; refine key.mono ?_; rintro e W ⟨rfl,H,g3,g4,f3,f4⟩)
  go_end0
  exact⟨rfl,W,H,rfl⟩
theorem qOa(rb B cap:Nat)(x3:Value)(w:World)(hne:rb≠B)(h0:w.cell? ⟨rb,0,none⟩=some (.int .u32 0))(h1:w.cell? ⟨rb,1,none⟩=some (.int .i32 0))(h3:w.cell? ⟨rb,3,none⟩=some x3)(h4:w.cell? ⟨rb,4,none⟩=some (.slice (some ⟨B,0,none⟩) 8 cap))(fz:∀ j,w.frozen? ⟨rb,j,none⟩=false)
    (c0:w.cell? ⟨B,0,none⟩=some (.string { data:=#[92] })) (c1:w.cell? ⟨B,1,none⟩=some (.string { data:=#[92,92] })) (c2:w.cell? ⟨B,2,none⟩=some (.string { data:=#[34] })) (c3:w.cell? ⟨B,3,none⟩=some (.string { data:=#[92,34] }))
    (c4:w.cell? ⟨B,4,none⟩=some (.string { data:=#[10] })) (c5:w.cell? ⟨B,5,none⟩=some (.string { data:=#[92,110] })) (c6:w.cell? ⟨B,6,none⟩=some (.string { data:=#[9] })) (c7:w.cell? ⟨B,7,none⟩=some (.string { data:=#[92,116] })) :
    Calls Tryz.prog 116 #[.pointer (some ⟨rb,0,none⟩),.func (.func 93) #[.pointer (some ⟨rb,0,none⟩)] #[]] w fun e w'=>e = .returned (.tuple #[])∧∃ W,St2 (w.setCell ⟨rb,1,none⟩ (.int .i32 1)) (w.heap.size+1) w.heap.size W∧w'=fin W rb (w.heap.size+1):=by
  have hl:=run_call_load (P:=Tryz.prog) Tryz.func131 (by kernel_rfl) (by kernel_rfl) (by kernel_rfl) .u32 (by kernel_rfl) (w:=w.setCell ⟨rb,1,none⟩ (.int .i32 1)) (a:=⟨rb,0,none⟩) (x:=0) ((qAS (by decide) _).trans h0);have lr:rb<w.heap.size:=qAZ h3;have hs1:(w.setCell ⟨rb,1,none⟩ (.int .i32 1)).heap.size=w.heap.size:=by simp
  have key:=qPX rb B cap x3 (w.setCell ⟨rb,1,none⟩ (.int .i32 1)) hne ((qAS (by decide) _).trans h3) ((qAS (by decide) _).trans h4) (fun j=>(World.frozen?_setCell _ _ _ _).trans (fz j))
    ((qAR hne _).trans c0) ((qAR hne _).trans c1) ((qAR hne _).trans c2) ((qAR hne _).trans c3) ((qAR hne _).trans c4) ((qAR hne _).trans c5) ((qAR hne _).trans c6) ((qAR hne _).trans c7)
  rw[hs1] at key;have hnot:∀ (x:Bool) (w:World),(Op.unary .not (.bool x)).run Tryz.prog w = .ok (.bool (!x)) w:=fun _ _=>rfl
  go_enter_defers Tryz.func116,Tryz.ntmps116
  go_wp2_with (first|(go_at_call 132; refine(qGq ⟨rb,1,none⟩ _ (by go_simp) (by go_simp)).mono ?_; rintro e w' ⟨rfl,rfl⟩)|(go_at_call 115; go_in)|(go_at_call 93; refine key.mono ?_; rintro e w' ⟨rfl,W,H,rfl⟩))
  have lt1:rb<(w.setCell ⟨rb,1,none⟩ (.int .i32 1)).heap.size:=by rw[hs1]; exact lr
  have k0:W.cell? ⟨rb,0,none⟩=some (.int .u32 0):=(H.1.bel.cell (p:=⟨rb,0,none⟩) lt1).trans ((qAS (by decide) _).trans h0);have k1:W.cell? ⟨rb,1,none⟩=some (.int .i32 1):=(H.1.bel.cell (p:=⟨rb,1,none⟩) lt1).trans (World.cell?_setCell_same _ _ _ h1);have kf:∀ j,W.frozen? ⟨rb,j,none⟩=false:=fun j=>(qBK H.1.bel (a:=⟨rb,j,none⟩) lt1).trans ((World.frozen?_setCell _ _ _ _).trans (fz j))
  refine leaves_cons (f:=134) (args:=#[.pointer (some ⟨rb,0,none⟩),.bool true]) (by simp) (by simp[go_sem]) ?_;refine(qDD ⟨rb,0,none⟩ (.int .u32 0) .returning _ ((qAS (by decide) _).trans ((qAS (by decide) _).trans k0)) (by simp[kf])).mono ?_
  rintro e u' w'' ⟨rfl,rfl,rfl⟩
  refine leaves_cons (f:=133) (args:=#[.pointer (some ⟨rb,1,none⟩)]) (by simp[settle]) (by simp[go_sem]) ?_;refine(qCx ⟨rb,1,none⟩ _ _ ?_ (by simp[kf])).mono ?_
  · refine(qAS (by decide) _).trans ?_
    rw[World.cell?_drew];exact(qAS (by decide) _).trans ((qAS (by decide) _).trans k1)
  rintro e u' w'' ⟨rfl,rfl,rfl⟩
  have hfin:∃ W',St2 (w.setCell ⟨rb,1,none⟩ (.int .i32 1)) (w.heap.size+1) w.heap.size W'∧fin W rb (w.heap.size+1)=fin W' rb (w.heap.size+1):=⟨W,H,rfl⟩;simp[Leaves,settle,results,Tryz.results116];exact⟨W,H,rfl⟩
theorem qSP(rb B cap:Nat)(x3:Value)(w:World)(hne:rb≠B)(h0:w.cell? ⟨rb,0,none⟩=some (.int .u32 0))(h1:w.cell? ⟨rb,1,none⟩=some (.int .i32 0))(h3:w.cell? ⟨rb,3,none⟩=some x3)(h4:w.cell? ⟨rb,4,none⟩=some (.slice (some ⟨B,0,none⟩) 8 cap))(fz:∀ j,w.frozen? ⟨rb,j,none⟩=false)
    (c0:w.cell? ⟨B,0,none⟩=some (.string { data:=#[92] })) (c1:w.cell? ⟨B,1,none⟩=some (.string { data:=#[92,92] })) (c2:w.cell? ⟨B,2,none⟩=some (.string { data:=#[34] })) (c3:w.cell? ⟨B,3,none⟩=some (.string { data:=#[92,34] }))
    (c4:w.cell? ⟨B,4,none⟩=some (.string { data:=#[10] })) (c5:w.cell? ⟨B,5,none⟩=some (.string { data:=#[92,110] })) (c6:w.cell? ⟨B,6,none⟩=some (.string { data:=#[9] })) (c7:w.cell? ⟨B,7,none⟩=some (.string { data:=#[92,116] })) :
    Calls Tryz.prog 92 #[.pointer (some ⟨rb,0,none⟩),.func (.func 93) #[.pointer (some ⟨rb,0,none⟩)] #[]] w fun e w'=>e = .returned (.tuple #[])∧∃ W,St2 (w.setCell ⟨rb,1,none⟩ (.int .i32 1)) (w.heap.size+1) w.heap.size W∧w'=fin W rb (w.heap.size+1):=by
  have hl:=run_call_load (P:=Tryz.prog) Tryz.func131 (by kernel_rfl) (by kernel_rfl) (by kernel_rfl) .u32 (by kernel_rfl) h0;have hnot:∀ (x:Bool) (w:World),(Op.unary .not (.bool x)).run Tryz.prog w = .ok (.bool (!x)) w:=fun _ _=>rfl
  have key:=qOa rb B cap x3 w hne h0 h1 h3 h4 fz c0 c1 c2 c3 c4 c5 c6 c7
  go_enter Tryz.func92,Tryz.ntmps92
  go_wp2_with (first|(go_at_call 116; refine key.mono ?_; rintro e w' ⟨rfl,W,H,rfl⟩)|(go_at_call 115; go_in))
  go_end0
  exact⟨rfl,W,H,rfl⟩
theorem qI1(rb B cap n₀:Nat)(rest:Array Value)(s:ByteArray)(hs:s.size≤100000)(w:World)(hne:rb≠B)(hn₀:n₀≤rb)
    (hB:w.heap[B]?=some (.cells (#[.string { data:=#[92] },.string { data:=#[92,92] },.string { data:=#[34] },.string { data:=#[92,34] },.string { data:=#[10] },.string { data:=#[92,110] },.string { data:=#[9] },.string { data:=#[92,116] }]++rest) 9 (0,0)))
    (hR:w.heap[rb]?=some (.cells #[.int .u32 0,.int .i32 0,.int .u32 0,.nilIface,.slice (some ⟨B,0,none⟩) 8 cap] 150 (0,0))) :
    Calls Tryz.prog 58 #[.pointer (some ⟨rb,0,none⟩),.string s] w fun e w'=>e = .returned (.string ⟨(s.data.toList.flatMap esc).toArray⟩)∧Below n₀ w w':=by
  have lr:=qKB hR;have kb:∀ (o:Nat) (v:Value),(#[.string { data:=#[92] },.string { data:=#[92,92] },.string { data:=#[34] },.string { data:=#[92,34] },.string { data:=#[10] },.string { data:=#[92,110] },.string { data:=#[9] },.string { data:=#[92,116] }]:Array Value)[o]?=some v→w.cell? ⟨B,o,none⟩=some v:=fun o v h=>(qBx hB o).trans (by rw[Array.getElem?_append_left (Array.getElem?_eq_some_iff.1 h).1]; exact h)
  have kr:=qBx hR;have key:=qSP rb B cap .nilIface w hne (kr 0) (kr 1) (kr 3) (kr 4) (qGO hR) (kb 0 _ rfl) (kb 1 _ rfl) (kb 2 _ rfl) (kb 3 _ rfl) (kb 4 _ rfl) (kb 5 _ rfl) (kb 6 _ rfl) (kb 7 _ rfl);have lt1:rb<(w.setCell ⟨rb,1,none⟩ (.int .i32 1)).heap.size:=by simp; exact lr
  have key2:Calls Tryz.prog 92 #[.pointer (some ⟨rb,0,none⟩),.func (.func 93) #[.pointer (some ⟨rb,0,none⟩)] #[]] w fun e w'=>e = .returned (.tuple #[])∧Below n₀ w w'∧w'.cell? ⟨rb,3,none⟩=some (ifc (w.heap.size+1))∧Rdy w' (w.heap.size+1) w.heap.size∧n₀≤w'.heap.size:=by
    refine key.mono fun e w' ⟨he,W,H,hw⟩=>⟨he,?_,?_,?_,?_⟩
    · rw[hw]
      have b0:Below n₀ w (w.setCell ⟨rb,1,none⟩ (.int .i32 1)):=(Below.refl n₀ w).setCell (p:=⟨rb,1,none⟩) hn₀ _;have b1:Below n₀ (w.setCell ⟨rb,1,none⟩ (.int .i32 1)) W:=H.1.bel.mono (by simp; omega);exact((((((b0.trans b1).setCell (p:=⟨rb,3,none⟩) hn₀ _).setCell (p:=⟨rb,4,none⟩) hn₀ _).drew).setCell (p:=⟨rb,0,none⟩) hn₀ _).setCell (p:=⟨rb,1,none⟩) hn₀ _)
    · rw[hw]
      have g3:W.cell? ⟨rb,3,none⟩=some .nilIface:=(H.1.bel.cell (p:=⟨rb,3,none⟩) lt1).trans ((qAS (by decide) _).trans (kr 3));exact(qAS (by decide) _).trans ((qAS (by decide) _).trans ((World.cell?_drew _ _).trans ((qAS (by decide) _).trans (World.cell?_setCell_same _ _ _ g3))))
    · rw[hw]
      have far:∀ (X k:Nat),rb≠X→(fin W rb (w.heap.size+1)).cell? ⟨X,k,none⟩=W.cell? ⟨X,k,none⟩:=fun X k h=>(qAR h _).trans ((qAR h _).trans ((World.cell?_drew _ _).trans ((qAR h _).trans (qAR h _))))
      have zs:(fin W rb (w.heap.size+1)).heap.size=W.heap.size:=by show((((W.setCell _ _).setCell _ _).drew.setCell _ _).setCell _ _).heap.size=_; simp
      have zw:(w.setCell ⟨rb,1,none⟩ (.int .i32 1)).heap.size=w.heap.size:=by simp
      exact{
        ht:=(far _ _ (by omega)).trans H.1.tor
        td:=fun k o h=>(far _ _ (by omega)).trans (H.2.td k o h)
        nl:=fun j h1 h2=>(far _ _ (by omega)).trans (H.1.nl j h1 h2)
        rp:=fun o ho=>by
          obtain⟨X,cp,h1,h2,h3,h4,h5⟩:=H.2.rp o ho;rw[zw] at h1
          exact⟨X,cp,by rw[zs]; exact h2,(far _ _ (by omega)).trans h3,(far _ _ (by omega)).trans h4,(far _ _ (by omega)).trans h5⟩ }
    · rw[hw]
      have zs:(fin W rb (w.heap.size+1)).heap.size=W.heap.size:=by show((((W.setCell _ _).setCell _ _).drew.setCell _ _).setCell _ _).heap.size=_; simp
      have:=H.1.lC.2;omega
  have hm:∀ (v:Value) (w:World),(method 356 195 v "Replace").run Tryz.prog w = .ok (191,v) w:=fun _ _=>by kernel_rfl
  have hmf:∀ (fn:Fn) (first cap:Array Value) (w:World),(Instr.makeFunc fn first cap).run Tryz.prog w = .ok (.func fn first cap) w:=fun _ _ _ _=>rfl
  have bs:∀ w',Rdy w' (w.heap.size+1) w.heap.size→Calls Tryz.prog 191 #[.pointer (some ⟨w.heap.size+1,0,none⟩),.string s] w' fun e w''=>e = .returned (.string ⟨(s.data.toList.flatMap esc).toArray⟩)∧Below w'.heap.size w' w'':=fun w' R=>by
    by_cases h:s.size<32
    · exact qMo _ _ s h w' R
    · exact qNh _ _ s (by omega) hs w' R
  go_enter Tryz.func58,Tryz.ntmps58
  go_wp2_with (first|(go_at_call 92; refine key2.mono ?_; rintro e w' ⟨rfl,hb,g3,R,hle⟩)|(go_at_call 191; refine(bs _ R).mono ?_; rintro e w'' ⟨rfl,hb2⟩))
  go_ret
  exact⟨rfl,hb.trans (hb2.mono hle)⟩
theorem qDC:∀ l:List UInt8,(l.flatMap esc).length≤2*l.length
  |[]=>by simp
  |b::l=>by
    have:=qDC l;rw[List.flatMap_cons,List.length_append,List.length_cons];have:(esc b).length≤2:=by unfold esc; split <;> simp
    omega
theorem quote_any(s:ByteArray)(hs:s.size≤100000)(w:World) :
    Calls Tryz.prog 31 #[.string s] w fun e w'=>e = .returned (.string (⟨#[34]⟩++⟨(s.data.toList.flatMap esc).toArray⟩++⟨#[34]⟩))∧Below w.heap.size w w':=by
  have h0:=World.alloc_heap_new w (.cells #[.string { data:=#[92] },.string { data:=#[92,92] },.string { data:=#[34] },.string { data:=#[92,34] },.string { data:=#[10] },.string { data:=#[92,110] },.string { data:=#[9] },.string { data:=#[92,116] }] 9);have hA:Below w.heap.size w (w.alloc (.cells #[.string { data:=#[92] },.string { data:=#[92,92] },.string { data:=#[34] },.string { data:=#[92,34] },.string { data:=#[10] },.string { data:=#[92,110] },.string { data:=#[9] },.string { data:=#[92,116] }] 9)):=(Below.refl _ w).alloc (Nat.le_refl _) _;have hz:(w.alloc (.cells #[.string { data:=#[92] },.string { data:=#[92,92] },.string { data:=#[34] },.string { data:=#[92,34] },.string { data:=#[10] },.string { data:=#[92,110] },.string { data:=#[9] },.string { data:=#[92,116] }] 9)).heap.size=w.heap.size+1:=World.size_alloc _ _;have k0:=qBx h0;have key1:=qL2 w.heap.size (w.alloc (.cells #[.string { data:=#[92] },.string { data:=#[92,92] },.string { data:=#[34] },.string { data:=#[92,34] },.string { data:=#[10] },.string { data:=#[92,110] },.string { data:=#[9] },.string { data:=#[92,116] }] 9)) (k0 0) (k0 1) (k0 2) (k0 3) (k0 4) (k0 5) (k0 6) (k0 7);rw[hz] at key1;have rp:=fun cap rest w2 (g1:_) (g2:_)=>qI1 (w.heap.size+1+1) (w.heap.size+1) cap w.heap.size rest s hs w2 (by omega) (by omega) g1 g2
  have hl:(⟨(s.data.toList.flatMap esc).toArray⟩:ByteArray).size≤200000:=by
    have h1:=qDC s.data.toList;have e:s.data.toList.length=s.size:=Array.length_toList;have e2:(⟨(s.data.toList.flatMap esc).toArray⟩:ByteArray).size=(s.data.toList.flatMap esc).length:=List.size_toArray;rw[e2];omega
  generalize (⟨(s.data.toList.flatMap esc).toArray⟩:ByteArray)=t at rp hl ⊢;have hlI:(t.size:Int)≤200000:=by omega
  go_enter Tryz.func31,Tryz.ntmps31
  go_wp2_with (first|(go_at_call 57; refine key1.mono ?_; rintro e w2 ⟨rfl,hb2,cap,rest,g1,g2⟩)|(go_at_call 58; refine(rp cap rest _ g1 g2).mono ?_; rintro e w3 ⟨rfl,hb3⟩))
  go_ret
  exact⟨by simp,(hA.trans (hb2.mono (by omega))).trans hb3⟩
end Go.Proofs.Quo
namespace Go.AI
def escQ(b:UInt8):List UInt8:=bif Nat.beq b.toNat 92 then [92,92] else bif Nat.beq b.toNat 34 then [92,34] else bif Nat.beq b.toNat 10 then [92,110] else bif Nat.beq b.toNat 9 then [92,116] else [b]
noncomputable def SQG(fid:Nat):Oracle:=fun f args objs=>bif Nat.beq f fid then (match args,objs with
  |[.v (.c (.p (.str s)))],[]=>bif Nat.ble (lenF s) 100000 then some (.v (.c (.p (.str ([34]++(s.flatMap escQ++[34]))))),[]) else none
  |_,_=>none) else none
end Go.AI
namespace Go.Proofs
open Go Go.RowKit Go.AI
theorem qRY(b:UInt8):Quo.esc b=escQ b:=by
  unfold Quo.esc escQ;by_cases h1:b=92
  · subst h1; rfl
  by_cases h2:b=34
  · subst h2; rfl
  by_cases h3:b=10
  · subst h3; rfl
  by_cases h4:b=9
  · subst h4; rfl
  have hs:Quo.spec b=false:=by simp[Quo.spec,h1,h2,h3,h4]
  have n:∀ c:UInt8,¬ b=c→Nat.beq b.toNat c.toNat=false:=fun c h=>Bool.eq_false_iff.2 fun e=>h (UInt8.toNat_inj.1 (Nat.eq_of_beq_eq_true e))
  have n1:Nat.beq b.toNat 92=false:=n 92 h1;have n2:Nat.beq b.toNat 34=false:=n 34 h2;have n3:Nat.beq b.toNat 10=false:=n 10 h3;have n4:Nat.beq b.toNat 9=false:=n 9 h4;rw[hs,n1,n2,n3,n4];rfl
theorem qD3[Sym]{G:Nat→Option (List PVal)}:FSound Tryz.prog G (SQG 31):=by
  intro f args objs v objs' e;unfold SQG at e;rw[qAK,Bool.cond_decide] at e;split at e
  · rename_i hf
    subst hf;split at e
    · rename_i s
      rw[qAL] at e;cases hc:Nat.ble s.length 100000 with
      |false=>rw[hc] at e; cases e
      |true =>
        rw[hc] at e;have hl:=Nat.le_of_ble_eq_true hc;cases e;refine⟨⟨_,Tryz.func31,by kernel_rfl,of_decide_eq_true (by kernel_rfl)⟩,fun ρ I w avs hG hW ha hown => ?_⟩;obtain⟨l⟩:=avs
        match l,ha with
        |[x],⟨hx1,_⟩ =>
          cases hx1 with|p _ _ hx1=>cases hx1 with|str _ b hb =>
          subst hb;have hs:b.size≤100000:=by
            have:b.size=b.data.toList.length:=by rw[Array.length_toList]; rfl
            omega
          refine Calls.mono (Quo.quote_any b hs w) fun e w' ⟨e1,e2⟩ => ?_
          · obtain⟨r1,r2⟩:=qGo hW e2
            refine⟨_,ρ,I,e1,?_,r1,r2,hown⟩;refine .p _ _ (.str _ _ ?_);have ef:b.data.toList.flatMap Quo.esc=b.data.toList.flatMap escQ:=by
              congr 1; funext b; exact qRY b
            rw[ef];simp[ByteArray.data_append]
    · cases e
  · cases e
end Go.Proofs
namespace Go.Proofs.YtiahgnkffnokfaaGreatDoor.Ab
open Go Go.AI
noncomputable def SLay:Oracle:=SQG 31
theorem qS3[Sym]{G:Nat→Option (List PVal)}(_:Tryz.prog.follows .mixedOrders=true):FSound Tryz.prog G SLay:=qD3
open Go Go.AI
noncomputable def S:Oracle:=orS (SQG 31) (orS (SI 102) (SJ 32))
noncomputable abbrev W:Mach:=lim tab.get S
noncomputable abbrev Om:Oracle:=orc S W
abbrev CAL(f:FuncId)(l:List TVal)(v:TVal):Prop:=∀ {β:Type}{k:TVal→Heap→Option β}{h:Heap}{d:Nat},vcall Om (.v (.c (.func f []))) l h d k=k v h
abbrev kA(r:List PVal):TVal := .v (.agg (pcells r))
def withinM(a n:Int):Int:=if a.tmod n<0 then a.tmod n+n else a.tmod n
theorem qB2(a n:Int)(hn:0<n):0≤withinM a n∧withinM a n<n:=by
 have h1:=Int.tmod_lt_of_pos a hn;have h2 : -n<a.tmod n:=by
  have:=Int.tmod_lt_of_pos (-a) hn;rw[Int.neg_tmod] at this; omega
 unfold withinM;split <;> omega
open Go Go.AI
mutual
def fewR:RT→Int→Int
 |.mk k n s ks l,m=>if ((((!decide (0<m))||decide (12<(l.len:Int)))||decide (50<(s.len:Int)))||decide (12<(ks.len:Int))) then 0 else fewS l (IntKind.i64.wrap (m - 1))
def fewS:Sl RT→Int→Int
 |.nil,m=>m
 |.mk _ l,m=>fewL l m
def fewL:List RT→Int→Int
 |[],m=>m
 |r::rs,m=>if 0<m then fewL rs (fewR r m) else m
end
theorem qP2(l:Sl RT)(m:Int):fewS l m=fewL l.list m:=by cases l <;> simp[fewS,fewL,Sl.list]
def bigR(r:RT)(m:Int):Bool:=(((!decide (0<m))||decide (12<(r.kids.len:Int)))||decide (50<(r.s.len:Int)))||decide (12<(r.keys.len:Int))
theorem qGU(r:RT)(m:Int):fewR r m=if bigR r m then 0 else fewL r.kids.list (IntKind.i64.wrap (m - 1)):=by
 cases r with
 |mk k n s ks l=>rw[fewR,qP2]; rfl
theorem qOk(r:RT)(g:Nat)(h:Heap)(hv:h.get (.own 2 g)=some (.cells (pcells r.row) 0))(hl:r.kids.len≤12)
  (ih:∀ x∈r.kids.list,∀ m,Om 15 [kA x.row,kI m] []=some (kI (fewR x m),[])) :
  ∀ (i:Nat) (m:Int),lim tab.get S 15 0 1 [kI m,.v (.c (.ptr (.own 2 g) 0)),kI (i:Int)] h=some (kI (fewL (r.kids.list.drop i) m),[]):=by
 refine qAk r.kids.len (fun i hi m => ?_) (fun i hi ihl m => ?_) <;> rw[w15_1,b15_1]
 ·have h1:¬ (i:Int)<(r.kids.len:Int):=by omega
  simp (maxSteps:=9999999) +contextual only[exa,rA,rB,rD,rE,rF,rG,rH,rI,rJ,exW,exY,hv,h1,qAc hi,fewL,oneOf]
 ·have h1:(i:Int)<(r.kids.len:Int):=by omega
  obtain⟨x,hs,h2,hx⟩:=qAT hi;by_cases hm:0<m
  ·have cc:CAL 15 [kA x.row,kI m] (kI (fewR x m)):=qAC 15 _ _ (by simp only[exP]) (ih x hx m) rfl;simp (maxSteps:=9999999) +contextual only[exa,rA,rB,rD,rE,rF,rG,rH,rI,rJ,exW,exY,hv,h1,hs,hm,cc,qAl i (by omega),ihl,h2,fewL,if_true]
  ·simp (maxSteps:=9999999) +contextual only[exa,rA,rB,rD,rE,rF,rG,rH,rI,rJ,exW,exY,hv,h1,hs,hm,h2,fewL,if_false,oneOf]
theorem qRX:∀ (n:Nat) (r:RT),SizeOf.sizeOf r<n→∀ m,Om 15 [kA r.row,kI m] []=some (kI (fewR r m),[]):=by
 intro n
 induction n with
 |zero=>intro r h; omega
 |succ n ih =>
  intro r hs m;refine(qAB rfl).trans ?_;show lim tab.get S 15 0 0 [kA r.row,kI m] h0=_;rw[w15_0,b15_0,qGU];cases hb:bigR r m
  ·unfold bigR at hb;simp (maxSteps:=9999999) +contextual only[exa,rA,rB,rD,rE,rF,rG,rH,rI,rJ,exW,exY,hb,if_false];have hl:r.kids.len≤12:=by simp only[Bool.or_eq_false_iff,decide_eq_false_iff_not] at hb; omega
   have:=qOk r _ _ (qBG h0 2 1 _ 0 (by decide)) hl (fun x hx=>ih x (by have:=RT.mem_size hx; omega)) 0 (IntKind.i64.wrap (m - 1));rw[List.drop_zero] at this;exact this
  ·unfold bigR at hb;simp (maxSteps:=9999999) +contextual only[exa,rA,rB,rD,rE,rF,rG,rH,rI,rJ,exW,exY,hb,if_true,oneOf]
theorem u29{β:Type}{k:TVal→Heap→Option β}{h:Heap}{d:Nat}(r:RT)(m:Int):vcall Om (.v (.c (.func 15 []))) [kA r.row,kI m] h d k=k (kI (fewR r m)) h:=qAC 15 _ _ (by simp only[exP]) (qRX _ r (Nat.lt_succ_self _) m) rfl
def inText(n:Nat):Bool:=((!decide ((n:Int)<32))||decide ((n:Int)=10))||decide ((n:Int)=9)
def textM(l:List UInt8):List UInt8:=l.filter fun b=>inText b.toNat
theorem qLc(l:List UInt8):(textM l).length≤l.length:=List.length_filter_le _ _
theorem qRJ{b:UInt8}{l:List UInt8}(h:inText b.toNat=false):textM (b::l)=textM l:=by unfold textM; rw[List.filter_cons,h]; rfl
theorem qRG{b:UInt8}{l:List UInt8}(h:inText b.toNat=true):textM (b::l)=b::textM l:=by unfold textM; rw[List.filter_cons,h]; rfl
theorem qMJ(s:Sl UInt8)(h:Heap)(hl:s.len≤1000):∀ (i:Nat) (acc:List UInt8),acc.length≤i→lim tab.get S 33 0 1 [.v (.c (.p (slP 1 bRow s))),kS acc,kI (i:Int)] h=some (kS (acc++textM (s.list.drop i)),[]):=by
 refine qAk s.len (fun i hi acc ha => ?_) (fun i hi ih acc ha => ?_) <;> rw[w33_1,b33_1]
 ·have h1:¬ (i:Int)<(s.len:Int):=by omega
  simp (maxSteps:=9999999) +contextual only[exa,rA,rB,rD,rE,rF,rG,rH,rI,rJ,exW,exY,h1,qAc hi,oneOf,textM,List.filter_nil,List.append_nil]
 ·have h1:(i:Int)<(s.len:Int):=by omega
  obtain⟨b,hs,h2,_⟩:=qAT hi;obtain⟨x,hx1,hx2⟩:=qM9 s i b hs;have h4:acc.length+1≤4611686018427387904:=by omega
  cases h3:inText b.toNat
  ·have h3':=h3;unfold inText at h3;simp (maxSteps:=9999999) +contextual only[exa,rA,rB,rD,rE,rF,rG,rH,rI,rJ,exW,exY,h1,h2,hs,h3,oneOf];rw[w33_2,b33_2];simp (maxSteps:=9999999) +contextual only[exa,rA,rB,rD,rE,rF,rG,rH,rI,rJ,qAl i (by omega),ih acc (by omega)];rw[qRJ h3']
  ·have h3':=h3;unfold inText at h3;simp (maxSteps:=9999999) +contextual only[exa,rA,rB,rD,rE,rF,rG,rH,rI,rJ,exW,exY,h1,h2,hs,h3,oneOf,qAl i (by omega),qAY _ _ hx1,qAY _ _ hx2,h4];rw[w33_2,b33_2];simp (maxSteps:=9999999) +contextual only[exa,rA,rB,rD,rE,rF,rG,rH,rI,rJ,qAl i (by omega),ih (acc++[b]) (by simp; omega)];rw[qRG h3',List.append_assoc]; rfl
theorem qQS(s:Sl UInt8)(hl:s.len≤1000):Om 33 [.v (.c (.p (slP 1 bRow s)))] []=some (kS (textM s.list),[]):=by
 refine(qAB rfl).trans ?_;show lim tab.get S 33 0 0 [.v (.c (.p (slP 1 bRow s)))] h0=_;rw[w33_0,b33_0];exact qMJ s h0 hl 0 [] (Nat.le_refl _)
theorem u80{β:Type}{k:TVal→Heap→Option β}{h:Heap}{d:Nat}(s:Sl UInt8)(hl:s.len≤1000):vcall Om (.v (.c (.func 33 []))) [.v (.c (.p (slP 1 bRow s)))] h d k=k (kS (textM s.list)) h:=qAC 33 _ _ rfl (qQS s hl) rfl
open Go Go.AI
theorem qIq(a n:Int)(hn:0<n)(hs:n<1000000):Om 12 [kI a,kI n] []=some (kI (withinM a n),[]):=by
 refine(qAB rfl).trans ?_;show lim tab.get S 12 0 0 [kI a,kI n] h0=_;have hb:=qB2 a n hn;rw[w12_0,b12_0];unfold withinM at hb ⊢;by_cases h:a.tmod n<0
 ·rw[if_pos h] at hb ⊢;have hw:IntKind.i64.wrap (a.tmod n+n)=a.tmod n+n:=qAH _ (by omega) (by omega);simp (maxSteps:=9999999) +contextual only[exa,rA,rB,rD,rE,rF,rG,rH,rI,rJ,qA6 0 .i64 a n (by omega),h,hw,oneOf]
 ·rw[if_neg h];simp (maxSteps:=9999999) +contextual only[exa,rA,rB,rD,rE,rF,rG,rH,rI,rJ,qA6 0 .i64 a n (by omega),h,oneOf]
theorem u79{β:Type}{k:TVal→Heap→Option β}{h:Heap}{d:Nat}(a n:Int)(hn:0<n)(hs:n<1000000):vcall Om (.v (.c (.func 12 []))) [kI a,kI n] h d k=k (kI (withinM a n)) h:=qAC 12 _ _ rfl (qIq a n hn hs) rfl
def leadM(key:List UInt8):List (List UInt8)→Nat
 |[]=>0
 |a::l=>if bless a key then leadM key l+1 else 0
theorem qDn(key:List UInt8):∀ l:List (List UInt8),leadM key l≤l.length
 |[]=>Nat.le_refl _
 |a::l=>by
  unfold leadM;split
  ·have:=qDn key l; simp; omega
  ·exact Nat.zero_le _
def putM(v:VT)(key:List UInt8)(x:VT):VT :=
 if v.keys.list[leadM key v.keys.list]?=some key then v else
  .mk v.kind v.b v.n v.s (.mk false (v.keys.list.take (leadM key v.keys.list)++[key]++v.keys.list.drop (leadM key v.keys.list))) (.mk false (v.l.list.take (leadM key v.keys.list)++[x]++v.l.list.drop (leadM key v.keys.list)))
abbrev p3:TVal := .v (.c (.ptr (.own 3 1) 0))
abbrev p5:TVal := .v (.c (.ptr (.own 5 1) 0))
abbrev p6:TVal := .v (.c (.ptr (.own 6 1) 0))
theorem qOm(v:VT)(key:List UInt8)(x5 x6:TVal)(h:Heap)(hv:h.get (.own 3 1)=some (.cells (pcells v.row) 0))(hl:v.keys.len≤1000) :
  ∀ i:Nat,lim tab.get S 34 0 1 [kS key,p3,x5,x6,kI (i:Int)] h=lim tab.get S 34 0 2 [kS key,p3,x5,x6,kI ((i+leadM key (v.keys.list.drop i):Nat):Int)] h:=by
 refine qAk v.keys.len (fun i hi => ?_) (fun i hi ih => ?_) <;> rw[w34_1,b34_1]
 ·have h1:¬ (i:Int)<(v.keys.len:Int):=by omega
  simp (maxSteps:=9999999) +contextual only[exa,rA,rB,rD,rE,rF,rG,rH,rI,rJ,hv,h1,qAc hi,leadM]
 ·have h1:(i:Int)<(v.keys.len:Int):=by omega
  obtain⟨s,hs,h2,_⟩:=qAT hi;cases h3:bless s key
  ·simp (maxSteps:=9999999) +contextual only[exa,rA,rB,rD,rE,rF,rG,rH,rI,rJ,hv,h1,h2,hs,h3,leadM,Bool.false_eq_true,if_false]
  ·simp (maxSteps:=9999999) +contextual only[exa,rA,rB,rD,rE,rF,rG,rH,rI,rJ,hv,h1,h2,hs,h3,leadM,if_true,qAl i (by omega),ih];rw[show i+1+leadM key (v.keys.list.drop (i+1))=i+(leadM key (v.keys.list.drop (i+1))+1) by omega]
def putK(v:VT)(key:List UInt8)(x:VT)(k:Nat):VT :=
 if v.keys.list[k]?=some key then v else .mk v.kind v.b v.n v.s (.mk false (v.keys.list.take k++[key]++v.keys.list.drop k)) (.mk false (v.l.list.take k++[x]++v.l.list.drop k))
theorem qEc{β:Type}{O:Oracle}{h:Heap}{d:Nat}{op:AOp}{v':TVal}{h':Heap}{t:AI.Touch}(e:∀ (β:Type) (O:Oracle) (kt:TVal→Heap→AI.Touch→Option β),vtouch O op h d kt=kt v' h' t)(k:TVal→Heap→Option β):vop O op h d k=k v' h':=by
 rw[qG8,e]
theorem qP0(v x:VT)(key:List UInt8)(k:Nat)(h:Heap)(hv:h.get (.own 3 1)=some (.cells (pcells v.row) 0))(hx:h.get (.own 5 1)=some (.cells (pcells x.row) 0))(h6:∃ cs,cs.length=6∧h.get (.own 6 1)=some (.cells cs 0))
  (hk:k≤v.keys.len) (hk2:k≤v.l.len) (hl:v.keys.len≤1000) (hl2:v.l.len≤1000) :
  lim tab.get S 34 0 2 [kS key,p3,p5,p6,kI (k:Int)] h=some (kA (putK v key x k).row,[]):=by
 obtain⟨cs,hcs,h6⟩:=h6;rw[w34_2,b34_2];by_cases hkey:v.keys.list[k]?=some key
 ·have h1:(k:Int)<(v.keys.len:Int):=by
   have:=(List.getElem?_eq_some_iff.1 hkey).1;unfold Sl.len; omega
  simp (maxSteps:=9999999) +contextual only[exa,rA,rB,rD,rE,rF,rG,rH,rI,rJ,hv,hx,h6,h1,hkey,hcs,BEq.rfl,putK,if_true,oneOf]
 ·obtain⟨bk,hbk,pk⟩:=qJ3 1 sRow v.keys k hk;obtain⟨dk,hdk,qk⟩:=qJc 1 sRow v.keys k hk;obtain⟨bl,hbl,pl⟩:=qJ3 6 VT.row v.l k hk2;obtain⟨dl,hdl,ql⟩:=qJc 6 VT.row v.l k hk2;have r1:∀ l:List (List UInt8),∀ r∈l.map sRow,r.length=1:=fun l r hr=>by obtain⟨_,_,rfl⟩:=List.mem_map.1 hr; rfl
  have r6:∀ l:List VT,∀ r∈l.map VT.row,r.length=6:=fun l r hr=>by obtain⟨a,_,rfl⟩:=List.mem_map.1 hr; exact VT.row_len a
  have n1:v.keys.list.length≤1000:=hl;have n2:v.l.list.length≤1000:=hl2;have m1:∀ l:List VT,(l.map VT.row).length=l.length:=fun l=>List.length_map _
  have m2:∀ l:List (List UInt8),(l.map sRow).length=l.length:=fun l=>List.length_map _
  obtain⟨c1,h1,t1,G1,e1,T1,K1,I1,X1⟩:=qB4 (h:=h) (d:=46) (D:=[46,56,61]) (sz:=1) (by':=16) (v := .p (.slice 1 true [])) (rows:=[]) hbk (.inr (.inl rfl)) (by decide) (r1 _) (by simp[m2]; omega) (by decide);obtain⟨c2,h2,t2,G2,e2,T2,K2,I2,X2⟩:=qB4 (h:=h1) (d:=52) (D:=[52,65,70]) (sz:=6) (by':=88) (v := .p (.slice 6 true [])) (rows:=[]) hbl (.inr (.inl rfl)) (by decide) (r6 _) (by simp[m1]; omega) (by decide);have G1':GS [46,56,61] 1 c1 ([]++(v.keys.list.take k).map sRow) h2:=G1.keep fun e he g hh=>K2 e g _ (by revert he; simp; omega) hh
  obtain⟨c3,h3,t3,G3,e3,T3,K3,I3,X3⟩:=qB4 (h:=h2) (d:=56) (sz:=1) (by':=16) (new:=[[.str key]]) (b := .slice 1 true [[.str key]]) (.inr ⟨_,rfl⟩) G1' (by decide) (fun r hr=>by simp at hr; rw[hr]; rfl) (by simp[m2]; omega) (by decide);obtain⟨c4,h4,t4,G4,e4,T4,K4,I4,X4⟩:=qB4 (d:=61) (by':=16) hdk G3 (by decide) (r1 _) (by simp[m2]; omega) (by decide);have G2':GS [52,65,70] 6 c2 ([]++(v.l.list.take k).map VT.row) h4:=G2.keep fun e he g hh=>K4 e g _ (by revert he; simp; omega) (K3 e g _ (by revert he; simp; omega) hh)
  obtain⟨c5,h5,t5,G5,e5,T5,K5,I5,X5⟩:=qB4 (d:=65) (by':=88) (new:=[x.row]) (b := .slice 6 true [x.row]) (.inr ⟨_,rfl⟩) G2' (by decide) (fun r hr=>by simp at hr; rw[hr]; exact VT.row_len x) (by simp[m1]; omega) (by decide);obtain⟨c6,h6',t6,G6,e6,T6,K6,I6,X6⟩:=qB4 (d:=70) (by':=88) hdl G5 (by decide) (r6 _) (by simp[m1]; omega) (by decide);obtain⟨ra,ea⟩:=X4 (.inr (X3 (.inl (by simp))));obtain⟨rb,eb⟩:=X6 (.inr (X5 (.inl (by simp))));have keep:∀ e o,e∉[46,56,61,52,65,70]→h.get (.own e 1)=some o→(h1.get (.own e 1)=some o∧h2.get (.own e 1)=some o)∧(h3.get (.own e 1)=some o∧h4.get (.own e 1)=some o)∧h5.get (.own e 1)=some o∧h6'.get (.own e 1)=some o:=by
   intro e o he ho;have a1:=K1 e 1 o (by revert he; simp <;> omega) ho;have a2:=K2 e 1 o (by revert he; simp <;> omega) a1;have a3:=K3 e 1 o (by revert he; simp <;> omega) a2;have a4:=K4 e 1 o (by revert he; simp <;> omega) a3;have a5:=K5 e 1 o (by revert he; simp <;> omega) a4;exact⟨⟨a1,a2⟩,⟨a3,a4⟩,a5,K6 e 1 o (by revert he; simp <;> omega) a5⟩
  obtain⟨⟨v1,v2⟩,⟨v3,v4⟩,v5,v6⟩:=keep 3 _ (by decide) hv;obtain⟨⟨x1,x2⟩,⟨x3,x4⟩,x5,x6⟩:=keep 5 _ (by decide) hx;obtain⟨⟨y1,y2⟩,⟨y3,y4⟩,y5,y6⟩:=keep 6 _ (by decide) h6;have A1:AI.Touch.apart t3 ⟨[(Ref.own 5 1).site],[],false⟩=true:=qA7 T3 5 (by decide);have A2:AI.Touch.apart t4 ⟨[(Ref.own 5 1).site],[],false⟩=true:=qA7 T4 5 (by decide);have A3:AI.Touch.apart t3 ⟨[(Ref.own 3 1).site],[],false⟩=true:=qA7 T3 3 (by decide);have A4:AI.Touch.apart t4 ⟨[(Ref.own 3 1).site],[],false⟩=true:=qA7 T4 3 (by decide);have A5:AI.Touch.apart t5 ⟨[(Ref.own 3 1).site],[],false⟩=true:=qA7 T5 3 (by decide);have P1:put1 (pcells v.row) 4 [c4]=[.p (.int .i64 v.kind),.p (.bool v.b),.p (.int .i64 v.n),.p (.str v.s),c4,.p (slP 6 VT.row v.l)]:=by rw[VT.row_eq]; rfl
  have P2:∀ a b c d f:Cell,put1 [a,b,c,d,c4,f] 5 [c6]=[a,b,c,d,c4,c6]:=fun _ _ _ _ _=>rfl
  have P3:∀ a b c d f g:Cell,put1 cs 0 [a,b,c,d,f,g]=[a,b,c,d,f,g]:=fun _ _ _ _ _ _=>qAh _ _ (by rw[hcs]; rfl)
  have F:∀ h,vfin true 0 [.agg [.p (.int .i64 v.kind),.p (.bool v.b),.p (.int .i64 v.n),.p (.str v.s),c4,c6]] h=some (kA (putK v key x k).row,[]):=by
   intro h;rw[ea,eb,qIQ _ rfl,putK,if_neg hkey,VT.row_eq (VT.mk _ _ _ _ _ _)];show _=some (kA [.int .i64 v.kind,.bool v.b,.int .i64 v.n,.str v.s,slP 1 sRow (.mk false (v.keys.list.take k++[key]++v.keys.list.drop k)),slP 6 VT.row (.mk false (v.l.list.take k++[x]++v.l.list.drop k))],[]);simp only[oneOf,slP,pcells,Comp.strip,Cell.strip,List.map_append,List.map_cons,List.map_nil,List.nil_append];rfl
  have B1:∀ {β:Type}{O:Oracle}{h:Heap}{d:Nat}{kt:TVal→Heap→AI.Touch→Option β},vtouch O (.bslice 1 1 [.p (.str [])] [(0,.k (kS key))] false) h d kt=kt (kSl 1 true [[.str key]]) h noTouch:=qCv _ _ rfl;have B2:∀ {β:Type}{O:Oracle}{h:Heap}{d:Nat}{kt:TVal→Heap→AI.Touch→Option β},vtouch O (.bslice 6 1 [.p (.int .i64 0),.p (.bool false),.p (.int .i64 0),.p (.str []),.p .nilslice,.p .nilslice] [(0,.k (.v (.agg (pcells x.row))))] false) h d kt=kt (kSl 6 true [x.row]) h noTouch:=qDm 6 _ _ rfl (VT.row_len x);by_cases hlt:(k:Int)<(v.keys.len:Int)
  ·obtain⟨s,hs,_,_⟩:=qAT (l:=v.keys.list) (i:=k) (by unfold Sl.len at hlt; omega);have hne:¬ s=key:=fun e=>hkey (by rw[hs,e])
   simp (maxSteps:=9999999) +contextual only[exa,rA,rB,rD,rE,rF,rG,rH,rI,rJ,exY,hv,hx,h6,hlt,hs,hne,hcs,hkey,qAY _ _ pk,qAY _ _ pl,qAv _ _ qk,qAv _ _ ql,qEc e1,qEc e2,e3,e4,e5,e6,v1,v2,v3,v4,v5,v6,x1,x2,x3,x4,x5,x6,y6,B1,B2,qBL,A1,A2,A3,A4,A5,P1,P2,P3];exact F _
  ·simp (maxSteps:=9999999) +contextual only[exa,rA,rB,rD,rE,rF,rG,rH,rI,rJ,exY,hv,hx,h6,hlt,hcs,hkey,qAY _ _ pk,qAY _ _ pl,qAv _ _ qk,qAv _ _ ql,qEc e1,qEc e2,e3,e4,e5,e6,v1,v2,v3,v4,v5,v6,x1,x2,x3,x4,x5,x6,y6,B1,B2,qBL,A1,A2,A3,A4,A5,P1,P2,P3];exact F _
def evenT(n:Nat)(v:VT):Prop:=v.keys.len=v.l.len∧v.keys.len≤n
theorem qEM(v x:VT)(key:List UInt8)(hv:evenT 1000 v):Om 34 [kA v.row,kS key,kA x.row] []=some (kA (putM v key x).row,[]):=by
 obtain⟨e,hl⟩:=hv;refine(qAB rfl).trans ?_;show lim tab.get S 34 0 0 [kA v.row,kS key,kA x.row] h0=_;rw[w34_0,b34_0];have hk:leadM key v.keys.list≤v.keys.len:=qDn _ _;simp (maxSteps:=9999999) +contextual only[exa,rA,rB,rD,rE,rF,rG,rH,rI,rJ];refine(qOm v key _ _ _ ?_ hl 0).trans ?_
 ·rfl
 rw[List.drop_zero,Nat.zero_add];exact qP0 v x key _ _ rfl rfl ⟨_,rfl,rfl⟩ hk (e▸hk) hl (by omega)
theorem qM2(n:Nat)(k c:Int)(b:Bool)(s:List UInt8)(p:List (List UInt8))(l:List VT)(x:VT)(key:List UInt8)(m:Nat)(hm:m≤p.length)(e:p.length=l.length)(hl:p.length≤n):evenT (n+1) (.mk k b c s (.mk false (p.take m++[key]++p.drop m)) (.mk false (l.take m++[x]++l.drop m))):=by
 have h1:(p.take m++[key]++p.drop m).length=p.length+1:=by simp; omega
 have h2:(l.take m++[x]++l.drop m).length=l.length+1:=by simp; omega
 constructor
 ·show(p.take m++[key]++p.drop m).length=(l.take m++[x]++l.drop m).length;omega
 ·show(p.take m++[key]++p.drop m).length≤n+1;omega
theorem qIV(n:Nat)(v x:VT)(key:List UInt8)(hv:evenT n v):evenT (n+1) (putM v key x):=by
 obtain⟨e,hl⟩:=hv;unfold putM;split
 ·exact⟨e,by omega⟩
 ·exact qM2 n _ _ _ _ _ _ _ _ _ (qDn _ _) e hl
open Go Go.AI
mutual
def smV:VT→Prop
 |.mk k b n s ks l=>s.length≤100000∧ks.len≤1000∧l.len≤1000∧smVS l
def smVS:Sl VT→Prop
 |.nil=>True
 |.mk _ l=>smVL l
def smVL:List VT→Prop
 |[]=>True
 |r::rs=>smV r∧smVL rs
end
theorem qJf:∀ l:List VT,smVL l↔∀ x∈l,smV x
 |[]=>by simp[smVL]
 |r::l=>by simp[smVL,qJf l]
theorem qHh(r:VT):smV r↔r.s.length≤100000∧r.keys.len≤1000∧r.l.len≤1000∧∀ x∈r.l.list,smV x:=by
 cases r with
 |mk k b n s ks l =>
  rw[smV,← qJf];cases l <;> simp[smVS,smVL,Sl.list,VT.keys,VT.s,VT.l]
abbrev o1:TVal := .v (.c (.ptr (.own 1 1) 0))
abbrev o2:TVal := .v (.c (.ptr (.own 2 1) 0))
open Go Go.AI
theorem qCd(r:List PVal)(hr:r.length=6):put1 [.p (.int .i64 0),.p (.bool false),.p (.int .i64 0),.p (.str []),.p .nilslice,.p .nilslice] 0 (pcells r)=pcells r:=qAh _ _ (by rw[qAM,hr]; rfl)
mutual
def sameV:VT→VT→Bool
 |.mk k b n s ks l,w=>(decide (k=w.kind)&&(b==w.b)&&decide (n=w.n)&&decide (s=w.s)&&decide (ks.list=w.keys.list))&&sameS l w.l.list
def sameS:Sl VT→List VT→Bool
 |.nil,m=>m.isEmpty
 |.mk _ l,m=>sameL l m
def sameL:List VT→List VT→Bool
 |[],[]=>true
 |x::l,y::m=>sameV x y&&sameL l m
 |_,_=>false
end
theorem qD6:∀ m:List VT,sameL [] m=m.isEmpty
 |[]=>by simp[sameL]
 |_::_=>by simp[sameL]
theorem qCC(v w:VT):sameV v w=((decide (v.kind=w.kind)&&(v.b==w.b)&&decide (v.n=w.n)&&decide (v.s=w.s)&&decide (v.keys.list=w.keys.list))&&sameL v.l.list w.l.list):=by
 cases v with
 |mk k b n s ks l =>
  cases l with
  |nil=>rw[sameV,sameS]; show _=(_&&sameL [] _); rw[qD6]; rfl
  |mk t l=>rw[sameV,sameS]; rfl
def diffV(v w:VT):Bool := !decide (v.kind=w.kind) || !v.b==w.b || !decide (v.n=w.n) || !decide (v.s=w.s) || !decide ((v.keys.len:Int)=(w.keys.len:Int)) || !decide ((v.l.len:Int)=(w.l.len:Int))
def SameOK(x:VT):Prop:=∀ y,Om 20 [kA x.row,kA y.row] []=some (kB (sameV x y),[])
abbrev s2:TVal := .v (.c (.ptr (.own 2 1) 0))
abbrev s3:TVal := .v (.c (.ptr (.own 3 1) 0))
theorem qMv(v w:VT)(h:Heap)(a2:h.get (.own 2 1)=some (.cells (pcells v.row) 0))(a3:h.get (.own 3 1)=some (.cells (pcells w.row) 0))(hl:v.keys.len=w.keys.len)(hb:v.keys.len≤1000) :
  ∀ i:Nat,lim tab.get S 20 0 1 [s2,s3,kI (i:Int)] h=if v.keys.list.drop i=w.keys.list.drop i then lim tab.get S 20 0 2 [s2,s3] h else some (kB false,[]):=by
 refine qAk v.keys.len (fun i hi => ?_) (fun i hi ih => ?_) <;> rw[w20_1,b20_1]
 ·have h1:¬ (i:Int)<(v.keys.len:Int):=by omega
  rw[qAc (l:=w.keys.list) (i:=i) (by unfold Sl.len at hl hi; omega)];simp (maxSteps:=9999999) +contextual only[exa,rA,rB,rD,rE,rF,rG,rH,rI,rJ,a2,a3,h1,qAc hi,if_true]
 ·have h1:(i:Int)<(v.keys.len:Int):=by omega
  obtain⟨x,hx,e1,_⟩:=qAT hi;obtain⟨y,hy,e2,_⟩:=qAT (l:=w.keys.list) (i:=i) (by unfold Sl.len at hl hi; omega);rw[e1,e2];by_cases hxy:x=y
  ·subst hxy;simp (maxSteps:=9999999) +contextual only[exa,rA,rB,rD,rE,rF,rG,rH,rI,rJ,a2,a3,h1,hx,hy,qAl i (by omega),ih,List.cons.injEq,true_and]
  ·simp (maxSteps:=9999999) +contextual only[exa,rA,rB,rD,rE,rF,rG,rH,rI,rJ,a2,a3,h1,hx,hy,hxy,List.cons.injEq,false_and,if_false,oneOf]
theorem qMu(v w:VT)(h:Heap)(a2:h.get (.own 2 1)=some (.cells (pcells v.row) 0))(a3:h.get (.own 3 1)=some (.cells (pcells w.row) 0))(hl:v.l.len=w.l.len)(hb:v.l.len≤1000)(ok:∀ x∈v.l.list,SameOK x) :
  ∀ i:Nat,lim tab.get S 20 0 3 [s2,s3,kI (i:Int)] h=some (kB (sameL (v.l.list.drop i) (w.l.list.drop i)),[]):=by
 refine qAk v.l.len (fun i hi => ?_) (fun i hi ih => ?_) <;> rw[w20_3,b20_3]
 ·have h1:¬ (i:Int)<(v.l.len:Int):=by omega
  rw[qAc (l:=w.l.list) (i:=i) (by unfold Sl.len at hl hi; omega)];simp (maxSteps:=9999999) +contextual only[exa,rA,rB,rD,rE,rF,rG,rH,rI,rJ,a2,a3,h1,qAc hi,sameL,oneOf]
 ·have h1:(i:Int)<(v.l.len:Int):=by omega
  obtain⟨x,hx,e1,mx⟩:=qAT hi;obtain⟨y,hy,e2,_⟩:=qAT (l:=w.l.list) (i:=i) (by unfold Sl.len at hl hi; omega);have cc:CAL 20 [kA x.row,kA y.row] (kB (sameV x y)):=qAC 20 _ _ (by simp only[exP]) (ok x mx y) rfl;rw[e1,e2];cases hs:sameV x y
  ·simp (maxSteps:=9999999) +contextual only[exa,rA,rB,rD,rE,rF,rG,rH,rI,rJ,a2,a3,h1,hx,hy,cc,hs,sameL,oneOf]
  ·simp (maxSteps:=9999999) +contextual only[exa,rA,rB,rD,rE,rF,rG,rH,rI,rJ,a2,a3,h1,hx,hy,cc,hs,sameL,qAl i (by omega),ih]
theorem qP6:∀ (m:Nat) (v:VT),SizeOf.sizeOf v<m→smV v→SameOK v:=by
 intro m
 induction m with
 |zero=>intro v h; omega
 |succ m ihm =>
  intro v hs sm w;obtain⟨t1,t2,t3,t4⟩:=(qHh v).1 sm;refine(qAB rfl).trans ?_;show lim tab.get S 20 0 0 [kA v.row,kA w.row] h0=_;rw[w20_0,b20_0,qCC];cases hd:diffV v w
  ·have hd':=hd;simp only[diffV,Bool.or_eq_false_iff,Bool.not_eq_false',decide_eq_true_eq] at hd';obtain⟨⟨⟨⟨⟨d1,d2⟩,d3⟩,d4⟩,d5⟩,d6⟩:=hd';have d2':v.b=w.b:=by revert d2; cases v.b <;> cases w.b <;> simp
   unfold diffV at hd;simp (maxSteps:=9999999) +contextual only[exa,rA,rB,rD,rE,rF,rG,rH,rI,rJ,exY,hd];refine(qMv v w _ rfl rfl (by omega) t2 0).trans ?_;rw[List.drop_zero,List.drop_zero,w20_2,b20_2,d1,d2',d3,d4];by_cases hk:v.keys.list=w.keys.list
   ·rw[if_pos hk];refine(qMu v w _ rfl rfl (by omega) t3 (fun x hx=>ihm x (by have:=VT.mem_size hx; omega) (t4 x hx)) 0).trans ?_;rw[List.drop_zero,List.drop_zero,hk];simp
   ·rw[if_neg hk];simp[hk]
  ·have hd':=hd;unfold diffV at hd;simp (maxSteps:=9999999) +contextual only[exa,rA,rB,rD,rE,rF,rG,rH,rI,rJ,exY,hd,oneOf];have:(decide (v.kind=w.kind)&&(v.b==w.b)&&decide (v.n=w.n)&&decide (v.s=w.s)&&decide (v.keys.list=w.keys.list)&&sameL v.l.list w.l.list)=false:=by
    refine Bool.eq_false_iff.2 fun e => ?_
    simp only[Bool.and_eq_true,decide_eq_true_eq,beq_iff_eq] at e;obtain⟨⟨⟨⟨⟨e1,e2⟩,e3⟩,e4⟩,e5⟩,e6⟩:=e;have l1:v.keys.len=w.keys.len:=by unfold Sl.len; rw[e5]
    have l2:v.l.list.length=w.l.list.length:=by
     clear hd hd' e5;revert e6;generalize w.l.list=b
     induction v.l.list generalizing b with
     |nil=>intro e; cases b with|nil=>rfl|cons _ _=>rw[qD6] at e; cases e
     |cons x l ih=>intro e; cases b with
      |nil=>simp[sameL] at e
      |cons y b =>
       rw[sameL,Bool.and_eq_true] at e;rw[List.length_cons,List.length_cons,ih b e.2]
    have l2':v.l.len=w.l.len:=l2;have:diffV v w=false:=by
     unfold diffV;rw[e1,e2,e3,e4,l1,l2'];cases w.b <;> simp
    rw[this] at hd'; cases hd'
   rw[this]
open Go Go.AI
theorem qQ1:Om 11 [] []=some (kB true,[]):=(qAB rfl).trans (qBH blks_ok 3000 11 0 0 _ _ _ (by kernel_rfl))
open Go Go.AI
theorem qSz{β:Type}{h:Heap}{k:TVal→Heap→Option β}(a:Int):vbin .shr 0 (kN .u64 a) (kN .u64 32) h k=k (kN .u64 (a / 4294967296)) h:=qBr _ _ _ _ _ (by
 show some (Cell.p (.int .u64 (a.fdiv (2 ^ (min ((32:Int).toNat) 64)))))=_
 rw[show(2:Int) ^ (min ((32:Int).toNat) 64)=4294967296 by decide,Int.fdiv_eq_ediv_of_nonneg _ (by decide)])
theorem qS4{β:Type}{h:Heap}{k:TVal→Heap→Option β}(a:Int):vbin .shr 0 (kN .u64 a) (kN .u64 16) h k=k (kN .u64 (a / 65536)) h:=qBr _ _ _ _ _ (by
 show some (Cell.p (.int .u64 (a.fdiv (2 ^ (min ((16:Int).toNat) 64)))))=_
 rw[show(2:Int) ^ (min ((16:Int).toNat) 64)=65536 by decide,Int.fdiv_eq_ediv_of_nonneg _ (by decide)])
theorem vsh8{β:Type}{h:Heap}{k:TVal→Heap→Option β}(a:Int):vbin .shr 0 (kN .u64 a) (kN .u64 8) h k=k (kN .u64 (a / 256)) h:=qBr _ _ _ _ _ (by
 show some (Cell.p (.int .u64 (a.fdiv (2 ^ (min ((8:Int).toNat) 64)))))=_
 rw[show(2:Int) ^ (min ((8:Int).toNat) 64)=256 by decide,Int.fdiv_eq_ediv_of_nonneg _ (by decide)])
def len8L:List UInt8:=z0a4518d3
theorem qPT:(List.range 256).all (fun x=>match len8L[x]? with|some b=>(x==0&&b==0)||(decide (1≤b.toNat)&&decide (2 ^ (b.toNat - 1)≤x)&&decide (x<2 ^ b.toNat)&&decide (b.toNat≤8))|none=>false)=true:=by decide +kernel
def IsLen(u:Int)(L:Nat):Prop:=(u=0∧L=0)∨(1≤L∧(2:Int) ^ (L - 1)≤u∧u<2 ^ L)
theorem qRO(x:Int)(h0:0≤x)(h1:x<256):∃ b:UInt8,len8L[x.toNat]?=some b∧IsLen x b.toNat∧b.toNat≤8:=by
 have h:=List.all_eq_true.1 qPT x.toNat (List.mem_range.2 (by omega));revert h;cases hb:len8L[x.toNat]? with
 |none=>intro h; cases h
 |some b =>
  intro h;refine⟨b,rfl,?_⟩;simp only[Bool.or_eq_true,Bool.and_eq_true,beq_iff_eq,decide_eq_true_eq] at h
  rcases h with ⟨h2,h3⟩|⟨⟨⟨h2,h3⟩,h4⟩,h5⟩
  ·subst h3;exact⟨.inl ⟨by omega,rfl⟩,by decide⟩
  ·refine⟨.inr ⟨h2,?_,?_⟩,h5⟩
   ·have:((2 ^ (b.toNat - 1):Nat):Int)≤((x.toNat:Nat):Int):=by exact_mod_cast h3
    rw[Int.toNat_of_nonneg h0] at this
    simpa using this
   ·have:((x.toNat:Nat):Int)<((2 ^ b.toNat:Nat):Int):=by exact_mod_cast h4
    rw[Int.toNat_of_nonneg h0] at this
    simpa using this
theorem qPl(x:Int)(n:Nat)(h0:0≤x)(h1:x<256)(hn:n≤200)(h:Heap):∃ L:Nat,L≤8∧IsLen x L∧lim tab.get S 111 0 3 [kN .u64 x,kI (n:Int)] h=some (kI ((n+L:Nat):Int),[]):=by
 obtain⟨b,hb,hl,h8⟩:=qRO x h0 h1;refine⟨b.toNat,h8,hl,?_⟩;have w1:IntKind.u8.wrap x=x:=qAO .u8 _ (by show(0:Int)≤_; omega) (by show _≤(255:Int); omega);have w2:IntKind.i64.wrap ((b.toNat:Nat):Int)=((b.toNat:Nat):Int):=qAH _ (by omega) (by omega);have w3:IntKind.i64.wrap ((n:Int)+((b.toNat:Nat):Int))=((n+b.toNat:Nat):Int):=by rw[qAH _ (by omega) (by omega)]; omega
 have hx:∀ {β:Type}{h:Heap}{k:TVal→Heap→Option β},vindex (kS z0a4518d3) (kN .u8 x) h k=k (kU b) h:=fun{β h k}=>by
  obtain⟨m,hm⟩:∃ m:Nat,x=m:=⟨x.toNat,by omega⟩;subst hm;show bnd (nthF len8L m) _=_;rw[qAi];rw[Int.toNat_natCast] at hb;rw[hb]; rfl
 rw[w111_3,b111_3];simp (maxSteps:=9999999) +contextual only[exa,rA,rB,rD,rE,rF,rG,rH,rI,rJ,w1,hx,w2,w3,oneOf]
theorem qQw{x:Int}{L:Nat}(hx:256≤x)(h:IsLen (x / 256) L):IsLen x (L+8):=by
 rcases h with ⟨h1,_⟩|⟨h1,h2,h3⟩
 ·omega
 ·refine .inr ⟨by omega,?_,?_⟩
  ·rw[show L+8 - 1=(L - 1)+8 by omega,Int.pow_add,show(2:Int) ^ 8=256 by decide];generalize (2:Int) ^ (L - 1)=y at h2;omega
  ·rw[Int.pow_add,show(2:Int) ^ 8=256 by decide];generalize (2:Int) ^ L=y at h3;omega
theorem qNp{x:Int}{L:Nat}(hx:65536≤x)(h:IsLen (x / 65536) L):IsLen x (L+16):=by
 rcases h with ⟨h1,_⟩|⟨h1,h2,h3⟩
 ·omega
 ·refine .inr ⟨by omega,?_,?_⟩
  ·rw[show L+16 - 1=(L - 1)+16 by omega,Int.pow_add,show(2:Int) ^ 16=65536 by decide];generalize (2:Int) ^ (L - 1)=y at h2;omega
  ·rw[Int.pow_add,show(2:Int) ^ 16=65536 by decide];generalize (2:Int) ^ L=y at h3;omega
theorem qO7{x:Int}{L:Nat}(hx:4294967296≤x)(h:IsLen (x / 4294967296) L):IsLen x (L+32):=by
 rcases h with ⟨h1,_⟩|⟨h1,h2,h3⟩
 ·omega
 ·refine .inr ⟨by omega,?_,?_⟩
  ·rw[show L+32 - 1=(L - 1)+32 by omega,Int.pow_add,show(2:Int) ^ 32=4294967296 by decide];generalize (2:Int) ^ (L - 1)=y at h2;omega
  ·rw[Int.pow_add,show(2:Int) ^ 32=4294967296 by decide];generalize (2:Int) ^ L=y at h3;omega
theorem qPj(x:Int)(n:Nat)(h0:0≤x)(h1:x<65536)(hn:n≤150)(h:Heap):∃ L:Nat,L≤16∧IsLen x L∧lim tab.get S 111 0 2 [kN .u64 x,kI (n:Int)] h=some (kI ((n+L:Nat):Int),[]):=by
 rw[w111_2,b111_2];by_cases hx:256≤x
 ·have hx':¬ x<256:=by omega
  have w:IntKind.i64.wrap ((n:Int)+8)=((n+8:Nat):Int):=by rw[qAH _ (by omega) (by omega)]; omega
  obtain⟨L,h8,hl,e⟩:=qPl (x / 256) (n+8) (by omega) (by omega) (by omega) h;refine⟨L+8,by omega,qQw hx hl,?_⟩;simp (maxSteps:=9999999) +contextual only[exa,rA,rB,rD,rE,rF,rG,rH,rI,rJ,hx',vsh8,w];refine e.trans ?_;rw[show n+8+L=n+(L+8) by omega]
 ·have hx':x<256:=by omega
  obtain⟨L,h8,hl,e⟩:=qPl x n h0 hx' (by omega) h;refine⟨L,by omega,hl,?_⟩;simp (maxSteps:=9999999) +contextual only[exa,rA,rB,rD,rE,rF,rG,rH,rI,rJ,hx'];exact e
theorem qPb(x:Int)(n:Nat)(h0:0≤x)(h1:x<4294967296)(hn:n≤100)(h:Heap):∃ L:Nat,L≤32∧IsLen x L∧lim tab.get S 111 0 1 [kN .u64 x,kI (n:Int)] h=some (kI ((n+L:Nat):Int),[]):=by
 rw[w111_1,b111_1];by_cases hx:65536≤x
 ·have hx':¬ x<65536:=by omega
  have w:IntKind.i64.wrap ((n:Int)+16)=((n+16:Nat):Int):=by rw[qAH _ (by omega) (by omega)]; omega
  obtain⟨L,h8,hl,e⟩:=qPj (x / 65536) (n+16) (by omega) (by omega) (by omega) h;refine⟨L+16,by omega,qNp hx hl,?_⟩;simp (maxSteps:=9999999) +contextual only[exa,rA,rB,rD,rE,rF,rG,rH,rI,rJ,hx',qS4,w];refine e.trans ?_;rw[show n+16+L=n+(L+16) by omega]
 ·have hx':x<65536:=by omega
  obtain⟨L,h8,hl,e⟩:=qPj x n h0 hx' (by omega) h;refine⟨L,by omega,hl,?_⟩;simp (maxSteps:=9999999) +contextual only[exa,rA,rB,rD,rE,rF,rG,rH,rI,rJ,hx'];exact e
theorem qS8(x:Int)(h0:0≤x)(h1:x<18446744073709551616):∃ L:Nat,L≤64∧IsLen x L∧Om 111 [kN .u64 x] []=some (kI (L:Int),[]):=by
 have hs:Om 111 [kN .u64 x] []=lim tab.get S 111 0 0 [kN .u64 x] Go.AI.h0:=qAB rfl;rw[hs,w111_0,b111_0];by_cases hx:4294967296≤x
 ·have hx':¬ x<4294967296:=by omega
  obtain⟨L,h8,hl,e⟩:=qPb (x / 4294967296) 32 (by omega) (by omega) (by decide) Go.AI.h0;refine⟨L+32,by omega,qO7 hx hl,?_⟩;simp (maxSteps:=9999999) +contextual only[exa,rA,rB,rD,rE,rF,rG,rH,rI,rJ,hx',qSz];refine e.trans ?_;rw[Nat.add_comm]
 ·have hx':x<4294967296:=by omega
  obtain⟨L,h8,hl,e⟩:=qPb x 0 h0 hx' (by decide) Go.AI.h0;refine⟨L,by omega,hl,?_⟩;simp (maxSteps:=9999999) +contextual only[exa,rA,rB,rD,rE,rF,rG,rH,rI,rJ,hx'];refine e.trans ?_;rw[Nat.zero_add]
open Go Go.AI
def tenL(L:Nat):Nat:=L*78913 / 262144
theorem qQU:(List.range 65).all (fun L=>decide (tenL L<20)&&(decide (L=0)||(decide (2 ^ L≤10 ^ (tenL L+1))&&(decide (tenL L=0)||decide (10 ^ (tenL L - 1)≤2 ^ (L - 1))))))=true:=by decide +kernel
theorem qRw(L:Nat)(hL:L≤64):Om 110 [kI (L:Int)] []=some (kI (tenL L:Int),[]):=by
 refine(qAB rfl).trans ?_;show lim tab.get S 110 0 0 [kI (L:Int)] h0=_;have w:IntKind.i64.wrap ((L:Int)*78913)=((L*78913:Nat):Int):=by rw[qAH _ (by omega) (by omega)]; omega
 have sh:∀ {β:Type}{h:Heap}{k:TVal→Heap→Option β},vbin .shr 0 (kI ((L*78913:Nat):Int)) (kN .u64 18) h k=k (kI (tenL L:Int)) h:=fun{β h k}=>qBr _ _ _ _ _ (by
  show some (Cell.p (.int .i64 ((((L*78913:Nat):Int)).fdiv (2 ^ (min ((18:Int).toNat) 64)))))=_;rw[show(2:Int) ^ (min ((18:Int).toNat) 64)=262144 by decide,Int.fdiv_eq_ediv_of_nonneg _ (by decide)];unfold tenL
  rw[Int.natCast_ediv]; rfl)
 rw[w110_0,b110_0];simp (maxSteps:=9999999) +contextual only[exa,rA,rB,rD,rE,rF,rG,rH,rI,rJ,w,sh,oneOf]
theorem qRj(b:Bool):Om 112 [kB b] []=some (kI (if b=true then 1 else 0),[]):=by
 refine(qAB rfl).trans ?_;show lim tab.get S 112 0 0 [kB b] h0=_;rw[w112_0,b112_0];cases b
 ·simp (maxSteps:=9999999) +contextual only[exa,rA,rB,rD,rE,rF,rG,rH,rI,rJ,oneOf];rfl
 ·simp (maxSteps:=9999999) +contextual only[exa,rA,rB,rD,rE,rF,rG,rH,rI,rJ,oneOf];rfl
abbrev powR:List PVal:=[.int .u64 1,.int .u64 10,.int .u64 100,.int .u64 1000,.int .u64 10000,.int .u64 100000,.int .u64 1000000,.int .u64 10000000,.int .u64 100000000,.int .u64 1000000000,.int .u64 10000000000,.int .u64 100000000000,.int .u64 1000000000000,.int .u64 10000000000000,.int .u64 100000000000000,.int .u64 1000000000000000,.int .u64 10000000000000000,.int .u64 100000000000000000,.int .u64 1000000000000000000,.int .u64 10000000000000000000]
theorem qSI(t:Nat)(ht:t<20):powR[t]?=some (.int .u64 (10 ^ t)):=by
 match t,ht with
 |0,_=>rfl
 |1,_=>rfl
 |2,_=>rfl
 |3,_=>rfl
 |4,_=>rfl
 |5,_=>rfl
 |6,_=>rfl
 |7,_=>rfl
 |8,_=>rfl
 |9,_=>rfl
 |10,_=>rfl
 |11,_=>rfl
 |12,_=>rfl
 |13,_=>rfl
 |14,_=>rfl
 |15,_=>rfl
 |16,_=>rfl
 |17,_=>rfl
 |18,_=>rfl
 |19,_=>rfl
 |n+20,h=>exact absurd h (by omega)
theorem qIK{β:Type}{O:Oracle}{h:Heap}{d:Nat}{k:TVal→Heap→Option β}(n:Nat)(row:List PVal)(t:Nat)(ht:t<n):vop O (.iaddrA n 1 (.k (.v (.c (.p (.pptr row 0))))) (.k (kI (t:Int)))) h d k=k (.v (.c (.p (.pptr row t)))) h:=qAY _ _ (by
 show(if t<n then some (Plan.pure (.pv (.pptr row (0+t*1)))) else none)=_
 rw[if_pos ht,Nat.mul_one,Nat.zero_add])
theorem qM7(u:Int)(h0:0≤u)(h1:u<18446744073709551616):∃ N:Nat,N≤20∧u<10 ^ N∧(u=0∨(1≤N∧(10:Int) ^ (N - 1)≤u))∧Om 89 [kN .u64 u] []=some (kI (N:Int),[]):=by
 obtain⟨L,hL,hl,e⟩:=qS8 u h0 h1;have c1:CAL 111 [kN .u64 u] (kI (L:Int)):=qAC 111 _ _ rfl e rfl;have c2:CAL 110 [kI (L:Int)] (kI (tenL L:Int)):=qAC 110 _ _ rfl (qRw L hL) rfl;have c3:∀ {β:Type}{k:TVal→Heap→Option β}{h:Heap}{d:Nat}(b:Bool),vcall Om (.v (.c (.func 112 []))) [kB b] h d k=k (kI (if b=true then 1 else 0)) h:=fun b=>qAC 112 _ _ rfl (qRj b) rfl
 have hT:=List.all_eq_true.1 qQU L (List.mem_range.2 (by omega));simp only[Bool.and_eq_true,Bool.or_eq_true,decide_eq_true_eq] at hT;obtain⟨t20,hT⟩:=hT;have hp:=qSI (tenL L) t20;have hs:Om 89 [kN .u64 u] []=lim tab.get S 89 0 0 [kN .u64 u] Go.AI.h0:=qAB rfl;by_cases hq:u<10 ^ tenL L
 ·refine⟨tenL L,by omega,hq,?_,?_⟩
  ·rcases hl with ⟨hl,_⟩|⟨l1,l2,l3⟩
   ·exact .inl hl
   ·refine .inr ?_
    rcases hT with hT|⟨_,hT|hT⟩
    ·omega
    ·exfalso;rw[hT] at hq;have:(0:Int)<2 ^ (L - 1):=Int.pow_pos (by decide);have:(10:Int) ^ 0=1:=rfl;omega
    ·refine⟨?_,?_⟩
     ·rcases Nat.eq_zero_or_pos (tenL L) with hz|hz
      ·exfalso;rw[hz] at hq;have:(0:Int)<2 ^ (L - 1):=Int.pow_pos (by decide);have:(10:Int) ^ 0=1:=rfl;omega
      ·exact hz
     ·have:((10 ^ (tenL L - 1):Nat):Int)≤((2 ^ (L - 1):Nat):Int):=by exact_mod_cast hT
      rw[Int.natCast_pow,Int.natCast_pow] at this;exact Int.le_trans this l2
  ·have w:IntKind.i64.wrap ((tenL L:Int)+0)=(tenL L:Int):=by rw[qAH _ (by omega) (by omega)]; omega
   rw[hs,w89_0,b89_0];simp (maxSteps:=9999999) +contextual only[exa,rA,rB,rD,rE,rF,rG,rH,rI,rJ,c1,c2,qIK 20 _ _ t20,hp,hq,c3,Bool.false_eq_true,if_false,w,oneOf]
 ·refine⟨tenL L+1,by omega,?_,?_,?_⟩
  ·rcases hl with ⟨hl,hz⟩|⟨l1,l2,l3⟩
   ·rw[hl]; exact Int.pow_pos (by decide)
   ·rcases hT with hT|⟨hT,_⟩
    ·omega
    ·have:((2 ^ L:Nat):Int)≤((10 ^ (tenL L+1):Nat):Int):=by exact_mod_cast hT
     rw[Int.natCast_pow,Int.natCast_pow] at this;exact Int.lt_of_lt_of_le l3 this
  ·exact .inr ⟨by omega,by rw[Nat.add_sub_cancel]; omega⟩
  ·have w:IntKind.i64.wrap ((tenL L:Int)+1)=((tenL L+1:Nat):Int):=by rw[qAH _ (by omega) (by omega)]; omega
   rw[hs,w89_0,b89_0];simp (maxSteps:=9999999) +contextual only[exa,rA,rB,rD,rE,rF,rG,rH,rI,rJ,c1,c2,qIK 20 _ _ t20,hp,hq,c3,if_true,w,oneOf]
open Go Go.AI
def dig(x:Int):Cell := .p (.int .u8 (48+x % 10))
def wr:List Cell→Nat→Int→Nat→List Cell
 |cs,_,_,0=>cs
 |cs,i,u,k+1=>wr (cs.set i (dig u)) (i - 1) (u / 10) k
theorem qLs:∀ (k:Nat) (cs:List Cell) (i:Nat) (u:Int),(wr cs i u k).length=cs.length
 |0,_,_,_=>rfl
 |k+1,cs,i,u=>by rw[wr,qLs k,List.length_set]
theorem qAg(cs:List Cell)(i:Nat)(c:Cell)(hi:i<cs.length):put1 cs i [c]=cs.set i c:=by
 unfold put1 splice;rw[List.set_eq_take_append_cons_drop,if_pos hi];simp
abbrev bufP(N:Nat):TVal := .v (.c (.sref (.im 0) 1 N (some 23) 1))
def plainC(cs:List Cell):Prop:=∃ xs,cs=pcells xs
theorem qIp(cs:List Cell)(h:Heap)(hp:plainC cs)(hg:h.get (.im 0)=some (.cells cs 0)):vfin true 1 [] h=some (.tup [],[.cells cs 0]):=by
 obtain⟨xs,rfl⟩:=hp;exact qAb true [] _ rfl hg (qAI xs 0)
theorem fb4(N i:Nat)(u:Int)(cs:List Cell)(h:Heap)(hp:plainC cs)(hl:cs.length=24)(hg:h.get (.im 0)=some (.cells cs 0))(hi:i≤1)(hiN:i≤N)(hN:N≤23)(h0:0≤u)(h1:u<10 ^ i) :
  lim tab.get S 90 1 4 [bufP N,kI (i:Int),kN .u32 u] h=some (.tup [],[.cells (wr cs i u i) 0]):=by
 rw[w90_4,b90_4]
 rcases Nat.le_one_iff_eq_zero_or_eq_one.1 hi with rfl|rfl
 ·have a:¬ (0:Int)<((0:Nat):Int):=by omega
  simp (maxSteps:=9999999) +contextual only[exa,rA,rB,rD,rE,rF,rG,rH,rI,rJ,a];exact qIp cs h hp hg
 ·have a:(0:Int)<((1:Nat):Int):=by omega
  have hu:u<10:=by simpa using h1
  have w1:IntKind.u32.wrap (48+u)=48+u:=qAO .u32 _ (by show(0:Int)≤_; omega) (by show _≤(4294967295:Int); omega);have w2:IntKind.u8.wrap (48+u)=48+u:=qAO .u8 _ (by show(0:Int)≤_; omega) (by show _≤(255:Int); omega);have hN0:0<N:=by omega
  have P:put1 cs 1 [.p (.int .u8 (48+u))]=wr cs 1 u 1:=by
   rw[qAg _ _ _ (by omega)];show _=cs.set 1 (dig u);unfold dig;rw[Int.emod_eq_of_lt h0 hu]
  have hp2:plainC (wr cs 1 u 1):=by
   obtain⟨xs,rfl⟩:=hp;refine⟨xs.set 1 (.int .u8 (48+u % 10)),?_⟩;show(pcells xs).set 1 (dig u)=_;unfold pcells dig;rw[List.map_set]
  simp (maxSteps:=9999999) +contextual only[exa,rA,rB,rD,rE,rF,rG,rH,rI,rJ,a,w1,w2,hN0,hg,hl,P];exact qIp _ _ hp2 (qAP h 0 _ _ (by rw[hg]; rfl))
open Go Go.AI
def pairL:List UInt8:=z53fdd7c2
theorem qHg:(List.range 100).all (fun q=>(pairL[q*2]?==some (UInt8.ofNat (48+q / 10)))&&(pairL[q*2+1]?==some (UInt8.ofNat (48+q % 10))))=true:=by decide +kernel
theorem qB5{β:Type}{h:Heap}{k:TVal→Heap→Option β}(K:IntKind)(x:Int)(h0:0≤x)(h1:x<100):vindex (kS z53fdd7c2) (kN K (x*2+1)) h k=k (.v (.c (dig x))) h:=by
 obtain⟨q,rfl⟩:∃ q:Nat,x=q:=⟨x.toNat,by omega⟩;have h:=List.all_eq_true.1 qHg q (List.mem_range.2 (by omega));simp only[Bool.and_eq_true,beq_iff_eq] at h;show bnd (nthF pairL (q*2+1)) _=_;rw[qAi,h.2];show k (kU (UInt8.ofNat (48+q % 10))) _=_;unfold dig;show k (.v (.c (.p (.int .u8 ((UInt8.ofNat (48+q % 10)).toNat:Int))))) _=_;rw[UInt8.toNat_ofNat',Nat.mod_eq_of_lt (by omega)]
 congr 5
theorem qCE{β:Type}{h:Heap}{k:TVal→Heap→Option β}(K:IntKind)(x:Int)(h0:0≤x)(h1:x<100):vindex (kS z53fdd7c2) (kN K (x*2)) h k=k (.v (.c (dig (x / 10)))) h:=by
 obtain⟨q,rfl⟩:∃ q:Nat,x=q:=⟨x.toNat,by omega⟩;have h:=List.all_eq_true.1 qHg q (List.mem_range.2 (by omega));simp only[Bool.and_eq_true,beq_iff_eq] at h;show bnd (nthF pairL (q*2)) _=_;rw[qAi,h.1];show k (.v (.c (.p (.int .u8 ((UInt8.ofNat (48+q / 10)).toNat:Int))))) _=_;rw[UInt8.toNat_ofNat',Nat.mod_eq_of_lt (by omega)];unfold dig;have e:((48+q / 10:Nat):Int)=48+(q:Int) / 10 % 10:=by omega
 rw[e]
theorem qAa{cs:List Cell}(hp:plainC cs)(i:Nat)(x:Int):plainC (cs.set i (dig x)):=by
 obtain⟨xs,rfl⟩:=hp;exact⟨xs.set i (.int .u8 (48+x % 10)),by unfold pcells dig; rw[List.map_set]⟩
theorem qIX:∀ (k:Nat) (cs:List Cell) (i:Nat) (u:Int),plainC cs→plainC (wr cs i u k)
 |0,_,_,_,h=>h
 |k+1,cs,i,u,h=>qIX k _ _ _ (qAa h i u)
theorem qQg(u:Int)(m:Int)(hm:(10:Int) ∣ m):dig (u % m)=dig u:=by
 unfold dig;rw[Int.emod_emod_of_dvd _ hm]
theorem fb3(N i:Nat)(u:Int)(cs:List Cell)(h:Heap)(hp:plainC cs)(hl:cs.length=24)(hg:h.get (.im 0)=some (.cells cs 0))(hi:i≤3)(hiN:i≤N)(hN:N≤23)(h0:0≤u)(h1:u<10 ^ i) :
  lim tab.get S 90 1 3 [bufP N,kI (i:Int),kN .u32 u] h=some (.tup [],[.cells (wr cs i u i) 0]):=by
 rw[w90_3,b90_3];have hu:u<1000:=by
  have hi':i=0∨i=1∨i=2∨i=3:=by omega
  rcases hi' with rfl|rfl|rfl|rfl <;> simp at h1 <;> omega
 by_cases h2:2≤i
 ·have a:¬ (i:Int)<2:=by omega
  have e1:u.tmod 100=u % 100:=Int.tmod_eq_emod_of_nonneg h0;have e2:u.tdiv 100=u / 100:=Int.tdiv_eq_ediv_of_nonneg h0;have w1:IntKind.u32.wrap (u % 100*2)=u % 100*2:=qAO .u32 _ (by show(0:Int)≤_; omega) (by show _≤(4294967295:Int); omega);have w2:IntKind.u32.wrap (u % 100*2+1)=u % 100*2+1:=qAO .u32 _ (by show(0:Int)≤_; omega) (by show _≤(4294967295:Int); omega);have w3:IntKind.u32.wrap (u / 100)=u / 100:=qAO .u32 _ (by show(0:Int)≤_; omega) (by show _≤(4294967295:Int); omega);have v1:IntKind.i64.wrap ((i:Int) - 1)=((i - 1:Nat):Int):=by rw[qAH _ (by omega) (by omega)]; omega
  have v2:IntKind.i64.wrap ((i:Int) - 2)=((i - 2:Nat):Int):=by rw[qAH _ (by omega) (by omega)]; omega
  have l1:i - 1<N:=by omega
  have l2:i - 2<N:=by omega
  have n1:((i - 1:Nat):Int).toNat=i - 1:=Int.toNat_natCast _;have n2:((i - 2:Nat):Int).toNat=i - 2:=Int.toNat_natCast _;have g1:(0:Int)≤((i - 1:Nat):Int):=by omega
  have g2:(0:Int)≤((i - 2:Nat):Int):=by omega
  have P1:put1 cs (1+(i - 1)) [dig (u % 100)]=cs.set i (dig u):=by
   rw[qAg _ _ _ (by omega),qQg u 100 (by decide),show 1+(i - 1)=i by omega]
  have P2:put1 (cs.set i (dig u)) (1+(i - 2)) [dig (u % 100 / 10)]=(cs.set i (dig u)).set (i - 1) (dig (u / 10)):=by
   rw[qAg _ _ _ (by rw[List.length_set]; omega),show 1+(i - 2)=i - 1 by omega]
   congr 1
   unfold dig;have:u % 100 / 10 % 10=u / 10 % 10:=by omega
   rw[this]
  have b1:1+(i - 1)+1≤24:=by omega
  have b2:1+(i - 2)+1≤24:=by omega
  have hgs:∀ (h:Heap) (c:List Cell),(h.get (.im 0)).isSome=true→(h.put (.im 0) (.cells c 0)).get (.im 0)=some (.cells c 0):=fun h c x=>qAP h 0 c 0 x
  have s1:(h.get (.im 0)).isSome=true:=by rw[hg]; rfl
  have q1:(h.put (.im 0) (.cells (cs.set i (dig u)) 0)).get (.im 0)=some (.cells (cs.set i (dig u)) 0):=hgs _ _ s1;have q2:((h.put (.im 0) (.cells (cs.set i (dig u)) 0)).put (.im 0) (.cells ((cs.set i (dig u)).set (i - 1) (dig (u / 10))) 0)).get (.im 0)=some (.cells ((cs.set i (dig u)).set (i - 1) (dig (u / 10))) 0):=hgs _ _ (by rw[q1]; rfl);simp (maxSteps:=9999999) +contextual only[exa,rA,rB,rD,rE,rF,rG,rH,rI,rJ,a,qA6 0 .u32 u 100 (by decide),qBZ 0 .u32 u 100 (by decide),e1,e2,w1,w2,w3,v1,v2,qB5 .u32 (u % 100) (by omega) (by omega),qCE .u32 (u % 100) (by omega) (by omega),l1,l2,n1,n2,g1,g2,hg,hl,List.length_set,Nat.mul_one,Nat.zero_le,P1,P2,b1,b2,q1];have r:wr cs i u i=wr ((cs.set i (dig u)).set (i - 1) (dig (u / 10))) (i - 2) (u / 100) (i - 2):=by
   obtain⟨m,rfl⟩:∃ m,i=m+2:=⟨i - 2,by omega⟩;rw[wr,wr,Int.ediv_ediv_of_nonneg (by decide)];rfl
  rw[r];refine fb4 N (i - 2) (u / 100) _ _ (qAa (qAa hp _ _) _ _) (by rw[List.length_set,List.length_set]; exact hl) q2 (by omega) (by omega) hN (by omega) ?_;have hi':i=2∨i=3:=by omega
  rcases hi' with rfl|rfl
  ·simp at h1 ⊢; omega
  ·simp at h1 ⊢; omega
 ·have a:(i:Int)<2:=by omega
  simp (maxSteps:=9999999) +contextual only[exa,rA,rB,rD,rE,rF,rG,rH,rI,rJ,a];exact fb4 N i u cs h hp hl hg (by omega) hiN hN h0 h1
open Go Go.AI
theorem qBj{x y:Int}(h:x % 10=y % 10):dig x=dig y:=by unfold dig; rw[h]
theorem fb2(N i:Nat)(u:Int)(cs:List Cell)(h:Heap)(hp:plainC cs)(hl:cs.length=24)(hg:h.get (.im 0)=some (.cells cs 0))(hi:i≤7)(hiN:i≤N)(hN:N≤23)(h0:0≤u)(h1:u<10 ^ i) :
  lim tab.get S 90 1 2 [bufP N,kN .u64 u,kI (i:Int)] h=some (.tup [],[.cells (wr cs i u i) 0]):=by
 rw[w90_2,b90_2];have hu:u<10000000:=by
  have hi':i=0∨i=1∨i=2∨i=3∨i=4∨i=5∨i=6∨i=7:=by omega
  rcases hi' with rfl|rfl|rfl|rfl|rfl|rfl|rfl|rfl <;> simp at h1 <;> omega
 have w0:IntKind.u32.wrap u=u:=qAO .u32 _ (by show(0:Int)≤_; omega) (by show _≤(4294967295:Int); omega);by_cases h2:4≤i
 ·have a:¬ (i:Int)<4:=by omega
  have e1:u.tmod 10000=u % 10000:=Int.tmod_eq_emod_of_nonneg h0;have e2:u.tdiv 10000=u / 10000:=Int.tdiv_eq_ediv_of_nonneg h0;have e3:(u % 10000).tdiv 100=u % 10000 / 100:=Int.tdiv_eq_ediv_of_nonneg (by omega);have e4:(u % 10000).tmod 100=u % 10000 % 100:=Int.tmod_eq_emod_of_nonneg (by omega);have w1:IntKind.u32.wrap (u / 10000)=u / 10000:=qAO .u32 _ (by show(0:Int)≤_; omega) (by show _≤(4294967295:Int); omega);have w2:IntKind.u32.wrap (u % 10000 / 100)=u % 10000 / 100:=qAO .u32 _ (by show(0:Int)≤_; omega) (by show _≤(4294967295:Int); omega);have w3:IntKind.u32.wrap (u % 10000 / 100*2)=u % 10000 / 100*2:=qAO .u32 _ (by show(0:Int)≤_; omega) (by show _≤(4294967295:Int); omega);have w4:IntKind.u32.wrap (u % 10000 / 100*2+1)=u % 10000 / 100*2+1:=qAO .u32 _ (by show(0:Int)≤_; omega) (by show _≤(4294967295:Int); omega);have w5:IntKind.u32.wrap (u % 10000 % 100*2)=u % 10000 % 100*2:=qAO .u32 _ (by show(0:Int)≤_; omega) (by show _≤(4294967295:Int); omega);have w6:IntKind.u32.wrap (u % 10000 % 100*2+1)=u % 10000 % 100*2+1:=qAO .u32 _ (by show(0:Int)≤_; omega) (by show _≤(4294967295:Int); omega);have v1:IntKind.i64.wrap ((i:Int) - 1)=((i - 1:Nat):Int):=by rw[qAH _ (by omega) (by omega)]; omega
  have l1:i - 1<N:=by omega
  have n1:((i - 1:Nat):Int).toNat=i - 1:=Int.toNat_natCast _;have g1:(0:Int)≤((i - 1:Nat):Int):=by omega
  have b1:1+(i - 1)+1≤24:=by omega
  have v2:IntKind.i64.wrap ((i:Int) - 2)=((i - 2:Nat):Int):=by rw[qAH _ (by omega) (by omega)]; omega
  have l2:i - 2<N:=by omega
  have n2:((i - 2:Nat):Int).toNat=i - 2:=Int.toNat_natCast _;have g2:(0:Int)≤((i - 2:Nat):Int):=by omega
  have b2:1+(i - 2)+1≤24:=by omega
  have v3:IntKind.i64.wrap ((i:Int) - 3)=((i - 3:Nat):Int):=by rw[qAH _ (by omega) (by omega)]; omega
  have l3:i - 3<N:=by omega
  have n3:((i - 3:Nat):Int).toNat=i - 3:=Int.toNat_natCast _;have g3:(0:Int)≤((i - 3:Nat):Int):=by omega
  have b3:1+(i - 3)+1≤24:=by omega
  have v4:IntKind.i64.wrap ((i:Int) - 4)=((i - 4:Nat):Int):=by rw[qAH _ (by omega) (by omega)]; omega
  have l4:i - 4<N:=by omega
  have n4:((i - 4:Nat):Int).toNat=i - 4:=Int.toNat_natCast _;have g4:(0:Int)≤((i - 4:Nat):Int):=by omega
  have b4:1+(i - 4)+1≤24:=by omega
  have P1:put1 cs (1+(i - 1)) [dig (u % 10000 % 100)]=(cs.set i (dig (u))):=by
   rw[qAg _ _ _ (by omega),show 1+(i - 1)=i by omega,qBj (show(u % 10000 % 100) % 10=(u) % 10 by omega)]
  have P2:put1 (cs.set i (dig (u))) (1+(i - 2)) [dig (u % 10000 % 100 / 10)]=((cs.set i (dig (u))).set (i - 1) (dig (u / 10))):=by
   rw[qAg _ _ _ (by simp only[List.length_set]; omega),show 1+(i - 2)=(i - 1) by omega,qBj (show(u % 10000 % 100 / 10) % 10=(u / 10) % 10 by omega)]
  have P3:put1 ((cs.set i (dig (u))).set (i - 1) (dig (u / 10))) (1+(i - 3)) [dig (u % 10000 / 100)]=(((cs.set i (dig (u))).set (i - 1) (dig (u / 10))).set (i - 2) (dig (u / 10 / 10))):=by
   rw[qAg _ _ _ (by simp only[List.length_set]; omega),show 1+(i - 3)=(i - 2) by omega,qBj (show(u % 10000 / 100) % 10=(u / 10 / 10) % 10 by omega)]
  have P4:put1 (((cs.set i (dig (u))).set (i - 1) (dig (u / 10))).set (i - 2) (dig (u / 10 / 10))) (1+(i - 4)) [dig (u % 10000 / 100 / 10)]=((((cs.set i (dig (u))).set (i - 1) (dig (u / 10))).set (i - 2) (dig (u / 10 / 10))).set (i - 3) (dig (u / 10 / 10 / 10))):=by
   rw[qAg _ _ _ (by simp only[List.length_set]; omega),show 1+(i - 4)=(i - 3) by omega,qBj (show(u % 10000 / 100 / 10) % 10=(u / 10 / 10 / 10) % 10 by omega)]
  have q1:(h.put (.im 0) (.cells (cs.set i (dig (u))) 0)).get (.im 0)=some (.cells (cs.set i (dig (u))) 0):=qAP h 0 _ _ (by rw[hg]; rfl);have q2:((h.put (.im 0) (.cells (cs.set i (dig (u))) 0)).put (.im 0) (.cells ((cs.set i (dig (u))).set (i - 1) (dig (u / 10))) 0)).get (.im 0)=some (.cells ((cs.set i (dig (u))).set (i - 1) (dig (u / 10))) 0):=qAP (h.put (.im 0) (.cells (cs.set i (dig (u))) 0)) 0 _ _ (by rw[q1]; rfl);have q3:(((h.put (.im 0) (.cells (cs.set i (dig (u))) 0)).put (.im 0) (.cells ((cs.set i (dig (u))).set (i - 1) (dig (u / 10))) 0)).put (.im 0) (.cells (((cs.set i (dig (u))).set (i - 1) (dig (u / 10))).set (i - 2) (dig (u / 10 / 10))) 0)).get (.im 0)=some (.cells (((cs.set i (dig (u))).set (i - 1) (dig (u / 10))).set (i - 2) (dig (u / 10 / 10))) 0):=qAP ((h.put (.im 0) (.cells (cs.set i (dig (u))) 0)).put (.im 0) (.cells ((cs.set i (dig (u))).set (i - 1) (dig (u / 10))) 0)) 0 _ _ (by rw[q2]; rfl);have q4:((((h.put (.im 0) (.cells (cs.set i (dig (u))) 0)).put (.im 0) (.cells ((cs.set i (dig (u))).set (i - 1) (dig (u / 10))) 0)).put (.im 0) (.cells (((cs.set i (dig (u))).set (i - 1) (dig (u / 10))).set (i - 2) (dig (u / 10 / 10))) 0)).put (.im 0) (.cells ((((cs.set i (dig (u))).set (i - 1) (dig (u / 10))).set (i - 2) (dig (u / 10 / 10))).set (i - 3) (dig (u / 10 / 10 / 10))) 0)).get (.im 0)=some (.cells ((((cs.set i (dig (u))).set (i - 1) (dig (u / 10))).set (i - 2) (dig (u / 10 / 10))).set (i - 3) (dig (u / 10 / 10 / 10))) 0):=qAP (((h.put (.im 0) (.cells (cs.set i (dig (u))) 0)).put (.im 0) (.cells ((cs.set i (dig (u))).set (i - 1) (dig (u / 10))) 0)).put (.im 0) (.cells (((cs.set i (dig (u))).set (i - 1) (dig (u / 10))).set (i - 2) (dig (u / 10 / 10))) 0)) 0 _ _ (by rw[q3]; rfl);simp (maxSteps:=9999999) +contextual only[exa,rA,rB,rD,rE,rF,rG,rH,rI,rJ,a,w0,qA6 0 .u32 u 10000 (by decide),qBZ 0 .u32 u 10000 (by decide),qA6 0 .u32 (u % 10000) 100 (by decide),qBZ 0 .u32 (u % 10000) 100 (by decide),e1,e2,e3,e4,w1,w2,w3,w4,w5,w6,v1,v2,v3,v4,qB5 .u32 (u % 10000 % 100) (by omega) (by omega),qCE .u32 (u % 10000 % 100) (by omega) (by omega),qB5 .u32 (u % 10000 / 100) (by omega) (by omega),qCE .u32 (u % 10000 / 100) (by omega) (by omega),l1,l2,l3,l4,n1,n2,n3,n4,g1,g2,g3,g4,hg,hl,List.length_set,Nat.mul_one,Nat.zero_le,P1,P2,P3,P4,b1,b2,b3,b4,q1,q2,q3];have r:wr cs i u i=wr ((((cs.set i (dig (u))).set (i - 1) (dig (u / 10))).set (i - 2) (dig (u / 10 / 10))).set (i - 3) (dig (u / 10 / 10 / 10))) (i - 4) (u / 10000) (i - 4):=by
   obtain⟨m,rfl⟩:∃ m,i=m+4:=⟨i - 4,by omega⟩;rw[wr,wr,wr,wr];have:u / 10 / 10 / 10 / 10=u / 10000:=by omega
   rw[this];rfl
  rw[r];refine fb3 N (i - 4) (u / 10000) _ _ (qAa (qAa (qAa (qAa hp _ _) _ _) _ _) _ _) (by simp only[List.length_set]; exact hl) q4 (by omega) (by omega) hN (by omega) ?_;have hi':i=4∨i=5∨i=6∨i=7:=by omega
  rcases hi' with rfl|rfl|rfl|rfl
  ·simp at h1 ⊢; omega
  ·simp at h1 ⊢; omega
  ·simp at h1 ⊢; omega
  ·simp at h1 ⊢; omega
 ·have a:(i:Int)<4:=by omega
  simp (maxSteps:=9999999) +contextual only[exa,rA,rB,rD,rE,rF,rG,rH,rI,rJ,a,w0];exact fb3 N i u cs h hp hl hg (by omega) hiN hN h0 h1
open Go Go.AI
theorem fb1(N:Nat)(hN:N≤23):∀ (m i:Nat),i<m→∀ (u:Int) (cs:List Cell) (h:Heap),plainC cs→cs.length=24→h.get (.im 0)=some (.cells cs 0)→i≤N→0≤u→u<18446744073709551616→u<10 ^ i →
  lim tab.get S 90 1 1 [bufP N,kN .u64 u,kI (i:Int)] h=some (.tup [],[.cells (wr cs i u i) 0]):=by
 intro m
 induction m with
 |zero=>intro i h; omega
 |succ m ih =>
 intro i him u cs h hp hl hg hiN h0 hu h1;rw[w90_1,b90_1];by_cases h2:8≤i
 ·have a:¬ (i:Int)<8:=by omega
  have e1:u.tmod 100000000=u % 100000000:=Int.tmod_eq_emod_of_nonneg h0;have e2:u.tdiv 100000000=u / 100000000:=Int.tdiv_eq_ediv_of_nonneg h0;have e3:(u % 100000000).tdiv 10000=u % 100000000 / 10000:=Int.tdiv_eq_ediv_of_nonneg (by omega);have e4:(u % 100000000).tmod 10000=u % 100000000 % 10000:=Int.tmod_eq_emod_of_nonneg (by omega);have e5:(u % 100000000 % 10000).tdiv 100=u % 100000000 % 10000 / 100:=Int.tdiv_eq_ediv_of_nonneg (by omega);have e6:(u % 100000000 % 10000).tmod 100=u % 100000000 % 10000 % 100:=Int.tmod_eq_emod_of_nonneg (by omega);have e7:(u % 100000000 / 10000).tdiv 100=u % 100000000 / 10000 / 100:=Int.tdiv_eq_ediv_of_nonneg (by omega);have e8:(u % 100000000 / 10000).tmod 100=u % 100000000 / 10000 % 100:=Int.tmod_eq_emod_of_nonneg (by omega);have w0:IntKind.u64.wrap (u / 100000000)=u / 100000000:=qCg _ (by omega) (by omega);have w1:IntKind.u32.wrap (u % 100000000)=u % 100000000:=qAO .u32 _ (by show(0:Int)≤_; omega) (by show _≤(4294967295:Int); omega);have w2:IntKind.u32.wrap (u % 100000000 / 10000)=u % 100000000 / 10000:=qAO .u32 _ (by show(0:Int)≤_; omega) (by show _≤(4294967295:Int); omega);have w3:IntKind.u32.wrap (u % 100000000 % 10000 / 100)=u % 100000000 % 10000 / 100:=qAO .u32 _ (by show(0:Int)≤_; omega) (by show _≤(4294967295:Int); omega);have w4:IntKind.u32.wrap (u % 100000000 / 10000 / 100)=u % 100000000 / 10000 / 100:=qAO .u32 _ (by show(0:Int)≤_; omega) (by show _≤(4294967295:Int); omega);have w5:IntKind.u32.wrap (u % 100000000 % 10000 % 100*2)=u % 100000000 % 10000 % 100*2:=qAO .u32 _ (by show(0:Int)≤_; omega) (by show _≤(4294967295:Int); omega);have w6:IntKind.u32.wrap (u % 100000000 % 10000 % 100*2+1)=u % 100000000 % 10000 % 100*2+1:=qAO .u32 _ (by show(0:Int)≤_; omega) (by show _≤(4294967295:Int); omega);have w7:IntKind.u32.wrap (u % 100000000 % 10000 / 100*2)=u % 100000000 % 10000 / 100*2:=qAO .u32 _ (by show(0:Int)≤_; omega) (by show _≤(4294967295:Int); omega);have w8:IntKind.u32.wrap (u % 100000000 % 10000 / 100*2+1)=u % 100000000 % 10000 / 100*2+1:=qAO .u32 _ (by show(0:Int)≤_; omega) (by show _≤(4294967295:Int); omega);have w9:IntKind.u32.wrap (u % 100000000 / 10000 % 100*2)=u % 100000000 / 10000 % 100*2:=qAO .u32 _ (by show(0:Int)≤_; omega) (by show _≤(4294967295:Int); omega);have w10:IntKind.u32.wrap (u % 100000000 / 10000 % 100*2+1)=u % 100000000 / 10000 % 100*2+1:=qAO .u32 _ (by show(0:Int)≤_; omega) (by show _≤(4294967295:Int); omega);have w11:IntKind.u32.wrap (u % 100000000 / 10000 / 100*2)=u % 100000000 / 10000 / 100*2:=qAO .u32 _ (by show(0:Int)≤_; omega) (by show _≤(4294967295:Int); omega);have w12:IntKind.u32.wrap (u % 100000000 / 10000 / 100*2+1)=u % 100000000 / 10000 / 100*2+1:=qAO .u32 _ (by show(0:Int)≤_; omega) (by show _≤(4294967295:Int); omega);have v1:IntKind.i64.wrap ((i:Int) - 1)=((i - 1:Nat):Int):=by rw[qAH _ (by omega) (by omega)]; omega
  have l1:i - 1<N:=by omega
  have n1:((i - 1:Nat):Int).toNat=i - 1:=Int.toNat_natCast _;have g1:(0:Int)≤((i - 1:Nat):Int):=by omega
  have b1:1+(i - 1)+1≤24:=by omega
  have v2:IntKind.i64.wrap ((i:Int) - 2)=((i - 2:Nat):Int):=by rw[qAH _ (by omega) (by omega)]; omega
  have l2:i - 2<N:=by omega
  have n2:((i - 2:Nat):Int).toNat=i - 2:=Int.toNat_natCast _;have g2:(0:Int)≤((i - 2:Nat):Int):=by omega
  have b2:1+(i - 2)+1≤24:=by omega
  have v3:IntKind.i64.wrap ((i:Int) - 3)=((i - 3:Nat):Int):=by rw[qAH _ (by omega) (by omega)]; omega
  have l3:i - 3<N:=by omega
  have n3:((i - 3:Nat):Int).toNat=i - 3:=Int.toNat_natCast _;have g3:(0:Int)≤((i - 3:Nat):Int):=by omega
  have b3:1+(i - 3)+1≤24:=by omega
  have v4:IntKind.i64.wrap ((i:Int) - 4)=((i - 4:Nat):Int):=by rw[qAH _ (by omega) (by omega)]; omega
  have l4:i - 4<N:=by omega
  have n4:((i - 4:Nat):Int).toNat=i - 4:=Int.toNat_natCast _;have g4:(0:Int)≤((i - 4:Nat):Int):=by omega
  have b4:1+(i - 4)+1≤24:=by omega
  have v5:IntKind.i64.wrap ((i:Int) - 5)=((i - 5:Nat):Int):=by rw[qAH _ (by omega) (by omega)]; omega
  have l5:i - 5<N:=by omega
  have n5:((i - 5:Nat):Int).toNat=i - 5:=Int.toNat_natCast _;have g5:(0:Int)≤((i - 5:Nat):Int):=by omega
  have b5:1+(i - 5)+1≤24:=by omega
  have v6:IntKind.i64.wrap ((i:Int) - 6)=((i - 6:Nat):Int):=by rw[qAH _ (by omega) (by omega)]; omega
  have l6:i - 6<N:=by omega
  have n6:((i - 6:Nat):Int).toNat=i - 6:=Int.toNat_natCast _;have g6:(0:Int)≤((i - 6:Nat):Int):=by omega
  have b6:1+(i - 6)+1≤24:=by omega
  have v7:IntKind.i64.wrap ((i:Int) - 7)=((i - 7:Nat):Int):=by rw[qAH _ (by omega) (by omega)]; omega
  have l7:i - 7<N:=by omega
  have n7:((i - 7:Nat):Int).toNat=i - 7:=Int.toNat_natCast _;have g7:(0:Int)≤((i - 7:Nat):Int):=by omega
  have b7:1+(i - 7)+1≤24:=by omega
  have v8:IntKind.i64.wrap ((i:Int) - 8)=((i - 8:Nat):Int):=by rw[qAH _ (by omega) (by omega)]; omega
  have l8:i - 8<N:=by omega
  have n8:((i - 8:Nat):Int).toNat=i - 8:=Int.toNat_natCast _;have g8:(0:Int)≤((i - 8:Nat):Int):=by omega
  have b8:1+(i - 8)+1≤24:=by omega
  have P1:put1 cs (1+(i - 1)) [dig (u % 100000000 % 10000 % 100)]=(cs.set i (dig (u))):=by
   rw[qAg _ _ _ (by omega),show 1+(i - 1)=i by omega,qBj (show(u % 100000000 % 10000 % 100) % 10=(u) % 10 by omega)]
  have P2:put1 (cs.set i (dig (u))) (1+(i - 2)) [dig (u % 100000000 % 10000 % 100 / 10)]=((cs.set i (dig (u))).set (i - 1) (dig (u / 10))):=by
   rw[qAg _ _ _ (by simp only[List.length_set]; omega),show 1+(i - 2)=(i - 1) by omega,qBj (show(u % 100000000 % 10000 % 100 / 10) % 10=(u / 10) % 10 by omega)]
  have P3:put1 ((cs.set i (dig (u))).set (i - 1) (dig (u / 10))) (1+(i - 3)) [dig (u % 100000000 % 10000 / 100)]=(((cs.set i (dig (u))).set (i - 1) (dig (u / 10))).set (i - 2) (dig (u / 10 / 10))):=by
   rw[qAg _ _ _ (by simp only[List.length_set]; omega),show 1+(i - 3)=(i - 2) by omega,qBj (show(u % 100000000 % 10000 / 100) % 10=(u / 10 / 10) % 10 by omega)]
  have P4:put1 (((cs.set i (dig (u))).set (i - 1) (dig (u / 10))).set (i - 2) (dig (u / 10 / 10))) (1+(i - 4)) [dig (u % 100000000 % 10000 / 100 / 10)]=((((cs.set i (dig (u))).set (i - 1) (dig (u / 10))).set (i - 2) (dig (u / 10 / 10))).set (i - 3) (dig (u / 10 / 10 / 10))):=by
   rw[qAg _ _ _ (by simp only[List.length_set]; omega),show 1+(i - 4)=(i - 3) by omega,qBj (show(u % 100000000 % 10000 / 100 / 10) % 10=(u / 10 / 10 / 10) % 10 by omega)]
  have P5:put1 ((((cs.set i (dig (u))).set (i - 1) (dig (u / 10))).set (i - 2) (dig (u / 10 / 10))).set (i - 3) (dig (u / 10 / 10 / 10))) (1+(i - 5)) [dig (u % 100000000 / 10000 % 100)]=(((((cs.set i (dig (u))).set (i - 1) (dig (u / 10))).set (i - 2) (dig (u / 10 / 10))).set (i - 3) (dig (u / 10 / 10 / 10))).set (i - 4) (dig (u / 10 / 10 / 10 / 10))):=by
   rw[qAg _ _ _ (by simp only[List.length_set]; omega),show 1+(i - 5)=(i - 4) by omega,qBj (show(u % 100000000 / 10000 % 100) % 10=(u / 10 / 10 / 10 / 10) % 10 by omega)]
  have P6:put1 (((((cs.set i (dig (u))).set (i - 1) (dig (u / 10))).set (i - 2) (dig (u / 10 / 10))).set (i - 3) (dig (u / 10 / 10 / 10))).set (i - 4) (dig (u / 10 / 10 / 10 / 10))) (1+(i - 6)) [dig (u % 100000000 / 10000 % 100 / 10)]=((((((cs.set i (dig (u))).set (i - 1) (dig (u / 10))).set (i - 2) (dig (u / 10 / 10))).set (i - 3) (dig (u / 10 / 10 / 10))).set (i - 4) (dig (u / 10 / 10 / 10 / 10))).set (i - 5) (dig (u / 10 / 10 / 10 / 10 / 10))):=by
   rw[qAg _ _ _ (by simp only[List.length_set]; omega),show 1+(i - 6)=(i - 5) by omega,qBj (show(u % 100000000 / 10000 % 100 / 10) % 10=(u / 10 / 10 / 10 / 10 / 10) % 10 by omega)]
  have P7:put1 ((((((cs.set i (dig (u))).set (i - 1) (dig (u / 10))).set (i - 2) (dig (u / 10 / 10))).set (i - 3) (dig (u / 10 / 10 / 10))).set (i - 4) (dig (u / 10 / 10 / 10 / 10))).set (i - 5) (dig (u / 10 / 10 / 10 / 10 / 10))) (1+(i - 7)) [dig (u % 100000000 / 10000 / 100)]=(((((((cs.set i (dig (u))).set (i - 1) (dig (u / 10))).set (i - 2) (dig (u / 10 / 10))).set (i - 3) (dig (u / 10 / 10 / 10))).set (i - 4) (dig (u / 10 / 10 / 10 / 10))).set (i - 5) (dig (u / 10 / 10 / 10 / 10 / 10))).set (i - 6) (dig (u / 10 / 10 / 10 / 10 / 10 / 10))):=by
   rw[qAg _ _ _ (by simp only[List.length_set]; omega),show 1+(i - 7)=(i - 6) by omega,qBj (show(u % 100000000 / 10000 / 100) % 10=(u / 10 / 10 / 10 / 10 / 10 / 10) % 10 by omega)]
  have P8:put1 (((((((cs.set i (dig (u))).set (i - 1) (dig (u / 10))).set (i - 2) (dig (u / 10 / 10))).set (i - 3) (dig (u / 10 / 10 / 10))).set (i - 4) (dig (u / 10 / 10 / 10 / 10))).set (i - 5) (dig (u / 10 / 10 / 10 / 10 / 10))).set (i - 6) (dig (u / 10 / 10 / 10 / 10 / 10 / 10))) (1+(i - 8)) [dig (u % 100000000 / 10000 / 100 / 10)]=((((((((cs.set i (dig (u))).set (i - 1) (dig (u / 10))).set (i - 2) (dig (u / 10 / 10))).set (i - 3) (dig (u / 10 / 10 / 10))).set (i - 4) (dig (u / 10 / 10 / 10 / 10))).set (i - 5) (dig (u / 10 / 10 / 10 / 10 / 10))).set (i - 6) (dig (u / 10 / 10 / 10 / 10 / 10 / 10))).set (i - 7) (dig (u / 10 / 10 / 10 / 10 / 10 / 10 / 10))):=by
   rw[qAg _ _ _ (by simp only[List.length_set]; omega),show 1+(i - 8)=(i - 7) by omega,qBj (show(u % 100000000 / 10000 / 100 / 10) % 10=(u / 10 / 10 / 10 / 10 / 10 / 10 / 10) % 10 by omega)]
  have q1:(h.put (.im 0) (.cells (cs.set i (dig (u))) 0)).get (.im 0)=some (.cells (cs.set i (dig (u))) 0):=qAP h 0 _ _ (by rw[hg]; rfl);have q2:((h.put (.im 0) (.cells (cs.set i (dig (u))) 0)).put (.im 0) (.cells ((cs.set i (dig (u))).set (i - 1) (dig (u / 10))) 0)).get (.im 0)=some (.cells ((cs.set i (dig (u))).set (i - 1) (dig (u / 10))) 0):=qAP (h.put (.im 0) (.cells (cs.set i (dig (u))) 0)) 0 _ _ (by rw[q1]; rfl);have q3:(((h.put (.im 0) (.cells (cs.set i (dig (u))) 0)).put (.im 0) (.cells ((cs.set i (dig (u))).set (i - 1) (dig (u / 10))) 0)).put (.im 0) (.cells (((cs.set i (dig (u))).set (i - 1) (dig (u / 10))).set (i - 2) (dig (u / 10 / 10))) 0)).get (.im 0)=some (.cells (((cs.set i (dig (u))).set (i - 1) (dig (u / 10))).set (i - 2) (dig (u / 10 / 10))) 0):=qAP ((h.put (.im 0) (.cells (cs.set i (dig (u))) 0)).put (.im 0) (.cells ((cs.set i (dig (u))).set (i - 1) (dig (u / 10))) 0)) 0 _ _ (by rw[q2]; rfl);have q4:((((h.put (.im 0) (.cells (cs.set i (dig (u))) 0)).put (.im 0) (.cells ((cs.set i (dig (u))).set (i - 1) (dig (u / 10))) 0)).put (.im 0) (.cells (((cs.set i (dig (u))).set (i - 1) (dig (u / 10))).set (i - 2) (dig (u / 10 / 10))) 0)).put (.im 0) (.cells ((((cs.set i (dig (u))).set (i - 1) (dig (u / 10))).set (i - 2) (dig (u / 10 / 10))).set (i - 3) (dig (u / 10 / 10 / 10))) 0)).get (.im 0)=some (.cells ((((cs.set i (dig (u))).set (i - 1) (dig (u / 10))).set (i - 2) (dig (u / 10 / 10))).set (i - 3) (dig (u / 10 / 10 / 10))) 0):=qAP (((h.put (.im 0) (.cells (cs.set i (dig (u))) 0)).put (.im 0) (.cells ((cs.set i (dig (u))).set (i - 1) (dig (u / 10))) 0)).put (.im 0) (.cells (((cs.set i (dig (u))).set (i - 1) (dig (u / 10))).set (i - 2) (dig (u / 10 / 10))) 0)) 0 _ _ (by rw[q3]; rfl);have q5:(((((h.put (.im 0) (.cells (cs.set i (dig (u))) 0)).put (.im 0) (.cells ((cs.set i (dig (u))).set (i - 1) (dig (u / 10))) 0)).put (.im 0) (.cells (((cs.set i (dig (u))).set (i - 1) (dig (u / 10))).set (i - 2) (dig (u / 10 / 10))) 0)).put (.im 0) (.cells ((((cs.set i (dig (u))).set (i - 1) (dig (u / 10))).set (i - 2) (dig (u / 10 / 10))).set (i - 3) (dig (u / 10 / 10 / 10))) 0)).put (.im 0) (.cells (((((cs.set i (dig (u))).set (i - 1) (dig (u / 10))).set (i - 2) (dig (u / 10 / 10))).set (i - 3) (dig (u / 10 / 10 / 10))).set (i - 4) (dig (u / 10 / 10 / 10 / 10))) 0)).get (.im 0)=some (.cells (((((cs.set i (dig (u))).set (i - 1) (dig (u / 10))).set (i - 2) (dig (u / 10 / 10))).set (i - 3) (dig (u / 10 / 10 / 10))).set (i - 4) (dig (u / 10 / 10 / 10 / 10))) 0):=qAP ((((h.put (.im 0) (.cells (cs.set i (dig (u))) 0)).put (.im 0) (.cells ((cs.set i (dig (u))).set (i - 1) (dig (u / 10))) 0)).put (.im 0) (.cells (((cs.set i (dig (u))).set (i - 1) (dig (u / 10))).set (i - 2) (dig (u / 10 / 10))) 0)).put (.im 0) (.cells ((((cs.set i (dig (u))).set (i - 1) (dig (u / 10))).set (i - 2) (dig (u / 10 / 10))).set (i - 3) (dig (u / 10 / 10 / 10))) 0)) 0 _ _ (by rw[q4]; rfl);have q6:((((((h.put (.im 0) (.cells (cs.set i (dig (u))) 0)).put (.im 0) (.cells ((cs.set i (dig (u))).set (i - 1) (dig (u / 10))) 0)).put (.im 0) (.cells (((cs.set i (dig (u))).set (i - 1) (dig (u / 10))).set (i - 2) (dig (u / 10 / 10))) 0)).put (.im 0) (.cells ((((cs.set i (dig (u))).set (i - 1) (dig (u / 10))).set (i - 2) (dig (u / 10 / 10))).set (i - 3) (dig (u / 10 / 10 / 10))) 0)).put (.im 0) (.cells (((((cs.set i (dig (u))).set (i - 1) (dig (u / 10))).set (i - 2) (dig (u / 10 / 10))).set (i - 3) (dig (u / 10 / 10 / 10))).set (i - 4) (dig (u / 10 / 10 / 10 / 10))) 0)).put (.im 0) (.cells ((((((cs.set i (dig (u))).set (i - 1) (dig (u / 10))).set (i - 2) (dig (u / 10 / 10))).set (i - 3) (dig (u / 10 / 10 / 10))).set (i - 4) (dig (u / 10 / 10 / 10 / 10))).set (i - 5) (dig (u / 10 / 10 / 10 / 10 / 10))) 0)).get (.im 0)=some (.cells ((((((cs.set i (dig (u))).set (i - 1) (dig (u / 10))).set (i - 2) (dig (u / 10 / 10))).set (i - 3) (dig (u / 10 / 10 / 10))).set (i - 4) (dig (u / 10 / 10 / 10 / 10))).set (i - 5) (dig (u / 10 / 10 / 10 / 10 / 10))) 0):=qAP (((((h.put (.im 0) (.cells (cs.set i (dig (u))) 0)).put (.im 0) (.cells ((cs.set i (dig (u))).set (i - 1) (dig (u / 10))) 0)).put (.im 0) (.cells (((cs.set i (dig (u))).set (i - 1) (dig (u / 10))).set (i - 2) (dig (u / 10 / 10))) 0)).put (.im 0) (.cells ((((cs.set i (dig (u))).set (i - 1) (dig (u / 10))).set (i - 2) (dig (u / 10 / 10))).set (i - 3) (dig (u / 10 / 10 / 10))) 0)).put (.im 0) (.cells (((((cs.set i (dig (u))).set (i - 1) (dig (u / 10))).set (i - 2) (dig (u / 10 / 10))).set (i - 3) (dig (u / 10 / 10 / 10))).set (i - 4) (dig (u / 10 / 10 / 10 / 10))) 0)) 0 _ _ (by rw[q5]; rfl);have q7:(((((((h.put (.im 0) (.cells (cs.set i (dig (u))) 0)).put (.im 0) (.cells ((cs.set i (dig (u))).set (i - 1) (dig (u / 10))) 0)).put (.im 0) (.cells (((cs.set i (dig (u))).set (i - 1) (dig (u / 10))).set (i - 2) (dig (u / 10 / 10))) 0)).put (.im 0) (.cells ((((cs.set i (dig (u))).set (i - 1) (dig (u / 10))).set (i - 2) (dig (u / 10 / 10))).set (i - 3) (dig (u / 10 / 10 / 10))) 0)).put (.im 0) (.cells (((((cs.set i (dig (u))).set (i - 1) (dig (u / 10))).set (i - 2) (dig (u / 10 / 10))).set (i - 3) (dig (u / 10 / 10 / 10))).set (i - 4) (dig (u / 10 / 10 / 10 / 10))) 0)).put (.im 0) (.cells ((((((cs.set i (dig (u))).set (i - 1) (dig (u / 10))).set (i - 2) (dig (u / 10 / 10))).set (i - 3) (dig (u / 10 / 10 / 10))).set (i - 4) (dig (u / 10 / 10 / 10 / 10))).set (i - 5) (dig (u / 10 / 10 / 10 / 10 / 10))) 0)).put (.im 0) (.cells (((((((cs.set i (dig (u))).set (i - 1) (dig (u / 10))).set (i - 2) (dig (u / 10 / 10))).set (i - 3) (dig (u / 10 / 10 / 10))).set (i - 4) (dig (u / 10 / 10 / 10 / 10))).set (i - 5) (dig (u / 10 / 10 / 10 / 10 / 10))).set (i - 6) (dig (u / 10 / 10 / 10 / 10 / 10 / 10))) 0)).get (.im 0)=some (.cells (((((((cs.set i (dig (u))).set (i - 1) (dig (u / 10))).set (i - 2) (dig (u / 10 / 10))).set (i - 3) (dig (u / 10 / 10 / 10))).set (i - 4) (dig (u / 10 / 10 / 10 / 10))).set (i - 5) (dig (u / 10 / 10 / 10 / 10 / 10))).set (i - 6) (dig (u / 10 / 10 / 10 / 10 / 10 / 10))) 0):=qAP ((((((h.put (.im 0) (.cells (cs.set i (dig (u))) 0)).put (.im 0) (.cells ((cs.set i (dig (u))).set (i - 1) (dig (u / 10))) 0)).put (.im 0) (.cells (((cs.set i (dig (u))).set (i - 1) (dig (u / 10))).set (i - 2) (dig (u / 10 / 10))) 0)).put (.im 0) (.cells ((((cs.set i (dig (u))).set (i - 1) (dig (u / 10))).set (i - 2) (dig (u / 10 / 10))).set (i - 3) (dig (u / 10 / 10 / 10))) 0)).put (.im 0) (.cells (((((cs.set i (dig (u))).set (i - 1) (dig (u / 10))).set (i - 2) (dig (u / 10 / 10))).set (i - 3) (dig (u / 10 / 10 / 10))).set (i - 4) (dig (u / 10 / 10 / 10 / 10))) 0)).put (.im 0) (.cells ((((((cs.set i (dig (u))).set (i - 1) (dig (u / 10))).set (i - 2) (dig (u / 10 / 10))).set (i - 3) (dig (u / 10 / 10 / 10))).set (i - 4) (dig (u / 10 / 10 / 10 / 10))).set (i - 5) (dig (u / 10 / 10 / 10 / 10 / 10))) 0)) 0 _ _ (by rw[q6]; rfl);have q8:((((((((h.put (.im 0) (.cells (cs.set i (dig (u))) 0)).put (.im 0) (.cells ((cs.set i (dig (u))).set (i - 1) (dig (u / 10))) 0)).put (.im 0) (.cells (((cs.set i (dig (u))).set (i - 1) (dig (u / 10))).set (i - 2) (dig (u / 10 / 10))) 0)).put (.im 0) (.cells ((((cs.set i (dig (u))).set (i - 1) (dig (u / 10))).set (i - 2) (dig (u / 10 / 10))).set (i - 3) (dig (u / 10 / 10 / 10))) 0)).put (.im 0) (.cells (((((cs.set i (dig (u))).set (i - 1) (dig (u / 10))).set (i - 2) (dig (u / 10 / 10))).set (i - 3) (dig (u / 10 / 10 / 10))).set (i - 4) (dig (u / 10 / 10 / 10 / 10))) 0)).put (.im 0) (.cells ((((((cs.set i (dig (u))).set (i - 1) (dig (u / 10))).set (i - 2) (dig (u / 10 / 10))).set (i - 3) (dig (u / 10 / 10 / 10))).set (i - 4) (dig (u / 10 / 10 / 10 / 10))).set (i - 5) (dig (u / 10 / 10 / 10 / 10 / 10))) 0)).put (.im 0) (.cells (((((((cs.set i (dig (u))).set (i - 1) (dig (u / 10))).set (i - 2) (dig (u / 10 / 10))).set (i - 3) (dig (u / 10 / 10 / 10))).set (i - 4) (dig (u / 10 / 10 / 10 / 10))).set (i - 5) (dig (u / 10 / 10 / 10 / 10 / 10))).set (i - 6) (dig (u / 10 / 10 / 10 / 10 / 10 / 10))) 0)).put (.im 0) (.cells ((((((((cs.set i (dig (u))).set (i - 1) (dig (u / 10))).set (i - 2) (dig (u / 10 / 10))).set (i - 3) (dig (u / 10 / 10 / 10))).set (i - 4) (dig (u / 10 / 10 / 10 / 10))).set (i - 5) (dig (u / 10 / 10 / 10 / 10 / 10))).set (i - 6) (dig (u / 10 / 10 / 10 / 10 / 10 / 10))).set (i - 7) (dig (u / 10 / 10 / 10 / 10 / 10 / 10 / 10))) 0)).get (.im 0)=some (.cells ((((((((cs.set i (dig (u))).set (i - 1) (dig (u / 10))).set (i - 2) (dig (u / 10 / 10))).set (i - 3) (dig (u / 10 / 10 / 10))).set (i - 4) (dig (u / 10 / 10 / 10 / 10))).set (i - 5) (dig (u / 10 / 10 / 10 / 10 / 10))).set (i - 6) (dig (u / 10 / 10 / 10 / 10 / 10 / 10))).set (i - 7) (dig (u / 10 / 10 / 10 / 10 / 10 / 10 / 10))) 0):=qAP (((((((h.put (.im 0) (.cells (cs.set i (dig (u))) 0)).put (.im 0) (.cells ((cs.set i (dig (u))).set (i - 1) (dig (u / 10))) 0)).put (.im 0) (.cells (((cs.set i (dig (u))).set (i - 1) (dig (u / 10))).set (i - 2) (dig (u / 10 / 10))) 0)).put (.im 0) (.cells ((((cs.set i (dig (u))).set (i - 1) (dig (u / 10))).set (i - 2) (dig (u / 10 / 10))).set (i - 3) (dig (u / 10 / 10 / 10))) 0)).put (.im 0) (.cells (((((cs.set i (dig (u))).set (i - 1) (dig (u / 10))).set (i - 2) (dig (u / 10 / 10))).set (i - 3) (dig (u / 10 / 10 / 10))).set (i - 4) (dig (u / 10 / 10 / 10 / 10))) 0)).put (.im 0) (.cells ((((((cs.set i (dig (u))).set (i - 1) (dig (u / 10))).set (i - 2) (dig (u / 10 / 10))).set (i - 3) (dig (u / 10 / 10 / 10))).set (i - 4) (dig (u / 10 / 10 / 10 / 10))).set (i - 5) (dig (u / 10 / 10 / 10 / 10 / 10))) 0)).put (.im 0) (.cells (((((((cs.set i (dig (u))).set (i - 1) (dig (u / 10))).set (i - 2) (dig (u / 10 / 10))).set (i - 3) (dig (u / 10 / 10 / 10))).set (i - 4) (dig (u / 10 / 10 / 10 / 10))).set (i - 5) (dig (u / 10 / 10 / 10 / 10 / 10))).set (i - 6) (dig (u / 10 / 10 / 10 / 10 / 10 / 10))) 0)) 0 _ _ (by rw[q7]; rfl);simp (maxSteps:=9999999) +contextual only[exa,rA,rB,rD,rE,rF,rG,rH,rI,rJ,a,qA6 0 .u64 u 100000000 (by decide),qBZ 0 .u64 u 100000000 (by decide),qA6 0 .u32 (u % 100000000) 10000 (by decide),qBZ 0 .u32 (u % 100000000) 10000 (by decide),qA6 0 .u32 (u % 100000000 % 10000) 100 (by decide),qBZ 0 .u32 (u % 100000000 % 10000) 100 (by decide),qA6 0 .u32 (u % 100000000 / 10000) 100 (by decide),qBZ 0 .u32 (u % 100000000 / 10000) 100 (by decide),e1,e2,e3,e4,e5,e6,e7,e8,w0,w1,w2,w3,w4,w5,w6,w7,w8,w9,w10,w11,w12,v1,v2,v3,v4,v5,v6,v7,v8,qB5 .u32 (u % 100000000 % 10000 % 100) (by omega) (by omega),qCE .u32 (u % 100000000 % 10000 % 100) (by omega) (by omega),qB5 .u32 (u % 100000000 % 10000 / 100) (by omega) (by omega),qCE .u32 (u % 100000000 % 10000 / 100) (by omega) (by omega),qB5 .u32 (u % 100000000 / 10000 % 100) (by omega) (by omega),qCE .u32 (u % 100000000 / 10000 % 100) (by omega) (by omega),qB5 .u32 (u % 100000000 / 10000 / 100) (by omega) (by omega),qCE .u32 (u % 100000000 / 10000 / 100) (by omega) (by omega),l1,l2,l3,l4,l5,l6,l7,l8,n1,n2,n3,n4,n5,n6,n7,n8,g1,g2,g3,g4,g5,g6,g7,g8,hg,hl,List.length_set,Nat.mul_one,Nat.zero_le,P1,P2,P3,P4,P5,P6,P7,P8,b1,b2,b3,b4,b5,b6,b7,b8,q1,q2,q3,q4,q5,q6,q7];have r:wr cs i u i=wr ((((((((cs.set i (dig (u))).set (i - 1) (dig (u / 10))).set (i - 2) (dig (u / 10 / 10))).set (i - 3) (dig (u / 10 / 10 / 10))).set (i - 4) (dig (u / 10 / 10 / 10 / 10))).set (i - 5) (dig (u / 10 / 10 / 10 / 10 / 10))).set (i - 6) (dig (u / 10 / 10 / 10 / 10 / 10 / 10))).set (i - 7) (dig (u / 10 / 10 / 10 / 10 / 10 / 10 / 10))) (i - 8) (u / 100000000) (i - 8):=by
   obtain⟨m,rfl⟩:∃ m,i=m+8:=⟨i - 8,by omega⟩;rw[wr,wr,wr,wr,wr,wr,wr,wr];have:u / 10 / 10 / 10 / 10 / 10 / 10 / 10 / 10=u / 100000000:=by omega
   rw[this];rfl
  rw[r];refine ih (i - 8) (by omega) (u / 100000000) _ _ (qAa (qAa (qAa (qAa (qAa (qAa (qAa (qAa (hp) _ _) _ _) _ _) _ _) _ _) _ _) _ _) _ _) (by simp only[List.length_set]; exact hl) q8 (by omega) (by omega) (by omega) ?_;obtain⟨m,rfl⟩:∃ m,i=m+8:=⟨i - 8,by omega⟩;rw[Int.pow_add,show(10:Int) ^ 8=100000000 by decide] at h1;rw[Nat.add_sub_cancel];generalize (10:Int) ^ m=y at h1;omega
 ·have a:(i:Int)<8:=by omega
  simp (maxSteps:=9999999) +contextual only[exa,rA,rB,rD,rE,rF,rG,rH,rI,rJ,a];exact fb2 N i u cs h hp hl hg (by omega) hiN hN h0 h1
open Go Go.AI
theorem qSw(N:Nat)(u:Int)(cs:List Cell)(hp:plainC cs)(hl:cs.length=24)(hN:N≤23)(h0:0≤u)(hu:u<18446744073709551616)(h1:u<10 ^ N) :
  Om 90 [bufP N,kN .u64 u] [.cells cs 0]=some (.tup [],[.cells (wr cs N u N) 0]):=by
 refine(qAB rfl).trans ?_;show lim tab.get S 90 1 0 [bufP N,kN .u64 u] { ims:=[.cells cs 0],owns := .nil }=_;rw[w90_0,b90_0];simp (maxSteps:=9999999) +contextual only[exa,rA,rB,rD,rE,rF,rG,rH,rI,rJ,exU];exact fb1 N hN (N+1) N (Nat.lt_succ_self _) u cs _ hp hl rfl (Nat.le_refl _) h0 hu h1
theorem qMG:∀ (k:Nat) (cs:List Cell) (i:Nat) (u:Int) (j:Nat),k≤i→i<cs.length→(wr cs i u k)[j]?=if i<j+k∧j≤i then some (dig (u / 10 ^ (i - j))) else cs[j]?
 |0,cs,i,u,j,_,_=>by
  rw[wr,if_neg (by omega)]
 |k+1,cs,i,u,j,hk,hi=>by
  rw[wr,qMG k _ _ _ _ (by omega) (by rw[List.length_set]; omega),List.getElem?_set];by_cases h1:j=i
  ·subst h1;rw[if_neg (by omega),if_pos rfl,if_pos hi,if_pos ⟨by omega,Nat.le_refl _⟩,Nat.sub_self];simp
  ·by_cases h2:i - 1<j+k∧j≤i - 1
   ·rw[if_pos h2,if_pos ⟨by omega,by omega⟩,Int.ediv_ediv_of_nonneg (by decide)];rw[show i - j=(i - 1 - j)+1 by omega,Int.pow_succ,Int.mul_comm]
   ·rw[if_neg h2,if_neg (fun e=>h1 e.symm),if_neg (by omega)]
theorem qFv:∀ (N u:Nat),u<10 ^ (N+1)→(10 ^ N≤u∨N=0)→Lib.decDigits u=(List.range (N+1)).map fun j=>UInt8.ofNat (48+u / 10 ^ (N - j) % 10)
 |0,u,h,_=>by
  have hu:u<10:=by simpa using h
  rw[Lib.decDigits,dif_pos hu];simp[Nat.mod_eq_of_lt hu]
 |N+1,u,h,h2=>by
  have h3:10 ^ (N+1)≤u:=by rcases h2 with h2|h2; exact h2; omega
  have h4:10≤u:=by
   have:10 ^ 1≤10 ^ (N+1):=Nat.pow_le_pow_right (by decide) (by omega);omega
  rw[Lib.decDigits,dif_neg (by omega),qFv N (u / 10) (by rw[Nat.pow_succ] at h; omega) (.inl (by rw[Nat.pow_succ] at h3; omega)),List.range_succ (n:=N+1),List.map_append]
  congr 1
  ·refine List.map_congr_left fun j hj => ?_
   have hj':=List.mem_range.1 hj;rw[Nat.div_div_eq_div_mul,Nat.mul_comm,← Nat.pow_succ,show(N - j).succ=N+1 - j by omega]
  ·simp
open Go Go.AI
theorem qO1(u m:Nat):dig ((u:Int) / 10 ^ m) = .p (.int .u8 ((UInt8.ofNat (48+u / 10 ^ m % 10)).toNat:Int)):=by
 unfold dig;rw[UInt8.toNat_ofNat',Nat.mod_eq_of_lt (by omega)];have:((48+u / 10 ^ m % 10:Nat):Int)=48+(u:Int) / 10 ^ m % 10:=by
  rw[Int.natCast_add,Int.natCast_emod,Int.natCast_ediv,Int.natCast_pow]; rfl
 rw[this]
theorem qSV(n u:Nat)(cs:List Cell)(hl:cs.length=24)(hN:n+1≤23)(h1:u<10 ^ (n+1))(h2:10 ^ n≤u∨n=0) :
  ((wr cs (n+1) (u:Int) (n+1)).drop 1).take (n+1)=(Lib.decDigits u).map fun b=>Cell.p (.int .u8 (b.toNat:Int)):=by
 rw[qFv n u h1 h2,List.map_map];refine List.ext_getElem? fun j => ?_
 rw[List.getElem?_take,List.getElem?_map];by_cases hj:j<n+1
 ·rw[if_pos hj,List.getElem?_drop,qMG _ _ _ _ _ (Nat.le_refl _) (by omega),if_pos ⟨by omega,by omega⟩,List.getElem?_range hj];show some (dig _)=some _;rw[show n+1 - (1+j)=n - j by omega,qO1]; rfl
 ·rw[if_neg hj];rw[List.getElem?_eq_none (by simpa using hj)]; rfl
open Go Go.AI
def isStrR(r:Res1)(x:List UInt8):Bool:=match r with
 |some (.v (.c (.p (.str y))),[])=>y==x
 |_=>false
theorem qLQ{r:Res1}{x:List UInt8}(h:isStrR r x=true):r=some (kS x,[]):=by
 unfold isStrR at h;split at h
 ·simp only[beq_iff_eq] at h; subst h; rfl
 ·cases h
def smallL(n:Nat):List UInt8:=bif Nat.blt n 10 then [UInt8.ofNat (48+n)] else [UInt8.ofNat (48+n / 10),UInt8.ofNat (48+n % 10)]
theorem qMb(n:Nat)(hn:n<100):smallL n=Lib.decDigits n:=by
 unfold smallL;by_cases h:n<10
 ·rw[Lib.decDigits,dif_pos h,show Nat.blt n 10=true from Nat.ble_eq_true_of_le h]; rfl
 ·have:Nat.blt n 10=false:=Bool.eq_false_iff.2 fun e=>h (Nat.le_of_ble_eq_true e)
  rw[Lib.decDigits,dif_neg h,Lib.decDigits,dif_pos (by omega),this];rfl
theorem qLr:((List.range 100).all fun n=>isStrR (machU blks.get S 500 88 0 0 [kN .i64 (.ofNat n)] h0) (smallL n))=true:=by kernel_rfl
theorem qOu(n:Nat)(hn:n<100):Om 88 [kI (n:Int)] []=some (kS (Lib.decDigits n),[]):=by
 refine(qAB rfl).trans ?_;rw[← qMb n hn];exact qBH blks_ok 500 88 0 0 _ _ _ (qLQ (List.all_eq_true.1 qLr n (List.mem_range.2 hn)))
theorem qNJ(n:Int)(u g:Nat)(h:Heap)(cs:List Cell)(hp:plainC cs)(hl:cs.length=24)(hg:h.get (.own 5 g)=some (.cells cs 0))(hu:1≤u)(hu2:u<18446744073709551616) :
  lim tab.get S 56 0 1 [kI n,.v (.c (.ptr (.own 5 g) 0)),kN .u64 (u:Int)] h=some (kS (if n<0 then 45::Lib.decDigits u else Lib.decDigits u),[]):=by
 obtain⟨N,hN,l1,l2,e185⟩:=qM7 (u:Int) (by omega) (by omega);have l2:1≤N∧(10:Int) ^ (N - 1)≤u:=by rcases l2 with l2|l2; exact absurd l2 (by omega); exact l2
 obtain⟨m,rfl⟩:∃ m,N=m+1:=⟨N - 1,by omega⟩;have l1':u<10 ^ (m+1):=by
  have:((u:Nat):Int)<((10 ^ (m+1):Nat):Int):=by rw[Int.natCast_pow]; exact l1
  omega
 have l2':10 ^ m≤u:=by
  have:((10 ^ m:Nat):Int)≤((u:Nat):Int):=by rw[Int.natCast_pow]; exact l2.2
  omega
 have hw:=qSV m u cs hl (by omega) l1' (.inl l2');have hwl:(wr cs (m+1) (u:Int) (m+1)).length=24:=by rw[qLs,hl]
 have c1:CAL 89 [kN .u64 (u:Int)] (kI ((m+1:Nat):Int)):=qAC 89 _ _ rfl e185 rfl;have w1:IntKind.i64.wrap (1+((m+1:Nat):Int))=((m+2:Nat):Int):=by rw[qAH _ (by omega) (by omega)]; omega
 have s1:∀ {β:Type}{k:TVal→Heap→Option β}{d:Nat},vop Om (.sliceA 24 1 (.k (.v (.c (.ptr (.own 5 g) 0)))) (some (.k (kI 1))) (some (.k (kI ((m+2:Nat):Int))))) h d k=k (.v (.c (.sref (.own 5 g) 1 (m+1) (some 23) 1))) h :=
  fun{β k d}=>(qIA 24 1 (.own 5 g) 0 1 (m+2) cs 0 (by omega) (by omega) (by omega) hg (by omega)).trans (by rw[show m+2 - 1=m+1 by omega])
 have e186:=qSw (m+1) (u:Int) cs hp hl (by omega) (by omega) (by omega) l1;obtain⟨xs,hxs⟩:=hp;obtain⟨ys,hys⟩:=qIX (m+1) cs (m+1) (u:Int) ⟨xs,hxs⟩;have hin:(TVal.v (.c (.sref (.own 5 g) 1 (m+1) (some 23) 1))).ren (inn [.own 5 g])=bufP (m+1):=by
  show TVal.v (.c (match inn [Ref.own 5 g] (.own 5 g) with|some s=>Cell.sref s 1 (m+1) (some 23) 1|none => .junk))=_;have:inn [Ref.own 5 g] (.own 5 g)=some (.im 0):=by simp[inn,idx]
  rw[this]
 have c2:∀ {β:Type}{k:TVal→Heap→Option β}{d:Nat},vcall Om (.v (.c (.func 90 []))) [.v (.c (.sref (.own 5 g) 1 (m+1) (some 23) 1)),kN .u64 (u:Int)] h d k=k (.tup []) (h.own 5 g (.cells (wr cs (m+1) (u:Int) (m+1)) 0)) :=
  fun{β k d}=>qOp 90 (.own 5 g) (.v (.c (.sref (.own 5 g) 1 (m+1) (some 23) 1))) (bufP (m+1)) [] [kN .u64 (u:Int)] _ (.cells (wr cs (m+1) (u:Int) (m+1)) 0) (.tup []) rfl rfl
   hin rfl rfl hg (by rw[hxs]; exact qAI xs 0) (by rw[hys]; exact qAI ys 0) rfl e186
 have hg2:(h.own 5 g (.cells (wr cs (m+1) (u:Int) (m+1)) 0)).get (.own 5 g)=some (.cells (wr cs (m+1) (u:Int) (m+1)) 0):=qBG _ _ _ _ _ (by omega);rw[w56_1,b56_1];by_cases hn:n<0
 ·have i1:∀ {β:Type}{k:TVal→Heap→Option β}{h:Heap}{d:Nat},vop Om (.iaddrA 24 1 (.k (.v (.c (.ptr (.own 5 g) 0)))) (.k (kI 0))) h d k=k (.v (.c (.ptr (.own 5 g) 0))) h:=fun{β k h d}=>qH7 24 1 _ 0 0 (by omega)
  have hp2:put1 (wr cs (m+1) (u:Int) (m+1)) 0 [.p (.int .u8 45)] = .p (.int .u8 45)::(wr cs (m+1) (u:Int) (m+1)).drop 1:=by
   unfold put1 splice; simp
  have hg3:((h.own 5 g (.cells (wr cs (m+1) (u:Int) (m+1)) 0)).own 5 g (.cells (.p (.int .u8 45)::(wr cs (m+1) (u:Int) (m+1)).drop 1) 0)).get (.own 5 g)=some (.cells (.p (.int .u8 45)::(wr cs (m+1) (u:Int) (m+1)).drop 1) 0):=qBG _ _ _ _ _ (by omega);have s2:∀ {β:Type}{k:TVal→Heap→Option β}{d:Nat},vop Om (.sliceA 24 1 (.k (.v (.c (.ptr (.own 5 g) 0)))) none (some (.k (kI ((m+2:Nat):Int))))) ((h.own 5 g (.cells (wr cs (m+1) (u:Int) (m+1)) 0)).own 5 g (.cells (.p (.int .u8 45)::(wr cs (m+1) (u:Int) (m+1)).drop 1) 0)) d k=k (.v (.c (.sref (.own 5 g) 0 (m+2) (some 24) 1))) ((h.own 5 g (.cells (wr cs (m+1) (u:Int) (m+1)) 0)).own 5 g (.cells (.p (.int .u8 45)::(wr cs (m+1) (u:Int) (m+1)).drop 1) 0)):=fun{β k d}=>by
   refine qFJ _ (.own 5 g) (fun
    |.cells cs _=>if 0+24*1≤cs.length then some (.v (.c (.sref (.own 5 g) (0+0*1) (m+2 - 0) (some (24 - 0)) 1))) else none
    |_=>none) _ _ ?_ hg3 ?_
   ·show(if 0≤m+2∧m+2≤24∧0<24 then some (Plan.read _ _) else none)=_;rw[if_pos ⟨by omega,by omega,by omega⟩];rfl
   ·show(if _ then _ else _)=_;rw[if_pos (by simp; omega)];rfl
  have t2:∀ {β:Type}{k:TVal→Heap→Option β}{d:Nat},vop Om (.toStr (.k (.v (.c (.sref (.own 5 g) 0 (m+2) (some 24) 1))))) ((h.own 5 g (.cells (wr cs (m+1) (u:Int) (m+1)) 0)).own 5 g (.cells (.p (.int .u8 45)::(wr cs (m+1) (u:Int) (m+1)).drop 1) 0)) d k=k (kS (45::Lib.decDigits u)) ((h.own 5 g (.cells (wr cs (m+1) (u:Int) (m+1)) 0)).own 5 g (.cells (.p (.int .u8 45)::(wr cs (m+1) (u:Int) (m+1)).drop 1) 0)) :=
   fun{β k d}=>qEh (.own 5 g) 0 (m+2) (some 24) _ 0 _ hg3 (by simp; omega) (by
    rw[List.drop_zero,List.take_succ_cons,hw]
    exact qEg (45::Lib.decDigits u))
  have q1:0+1≤(wr cs (m+1) (u:Int) (m+1)).length:=by omega
  simp (maxSteps:=9999999) +contextual only[exa,rA,rB,rD,rE,rF,rG,rH,rI,rJ,c1,w1,s1,c2,hn,i1,hg2,q1,hp2,s2,t2,oneOf,if_true]
 ·have s2:∀ {β:Type}{k:TVal→Heap→Option β}{d:Nat},vop Om (.sliceA 24 1 (.k (.v (.c (.ptr (.own 5 g) 0)))) (some (.k (kI 1))) (some (.k (kI ((m+2:Nat):Int))))) (h.own 5 g (.cells (wr cs (m+1) (u:Int) (m+1)) 0)) d k=k (.v (.c (.sref (.own 5 g) 1 (m+1) (some 23) 1))) (h.own 5 g (.cells (wr cs (m+1) (u:Int) (m+1)) 0)) :=
   fun{β k d}=>(qIA 24 1 (.own 5 g) 0 1 (m+2) _ 0 (by omega) (by omega) (by omega) hg2 (by omega)).trans (by rw[show m+2 - 1=m+1 by omega])
  have t2:∀ {β:Type}{k:TVal→Heap→Option β}{d:Nat},vop Om (.toStr (.k (.v (.c (.sref (.own 5 g) 1 (m+1) (some 23) 1))))) (h.own 5 g (.cells (wr cs (m+1) (u:Int) (m+1)) 0)) d k=k (kS (Lib.decDigits u)) (h.own 5 g (.cells (wr cs (m+1) (u:Int) (m+1)) 0)) :=
   fun{β k d}=>qEh (.own 5 g) 1 (m+1) (some 23) _ 0 _ hg2 (by omega) (by rw[hw]; exact qEg _)
  simp (maxSteps:=9999999) +contextual only[exa,rA,rB,rD,rE,rF,rG,rH,rI,rJ,c1,w1,s1,c2,hn,s2,t2,oneOf,if_false]
theorem qJa:plainC (List.replicate 24 (.p (.int .u8 0))):=⟨List.replicate 24 (.int .u8 0),by unfold pcells; rw[List.map_replicate]⟩
theorem qRr(n:Int)(h1 : -9223372036854775808≤n)(h2:n≤9223372036854775807):Om 56 [kI n,kI 10] []=some (kS (Lib.itoa n),[]):=by
 refine(qAB rfl).trans ?_;show lim tab.get S 56 0 0 [kI n,kI 10] h0=_;rw[w56_0,b56_0];by_cases hn:n<0
 ·have e1:IntKind.u64.wrap (0 - IntKind.u64.wrap n)=((n.natAbs:Nat):Int):=by
   have w:∀ z:Int,IntKind.u64.wrap z=z % 18446744073709551616:=fun z=>rfl
   rw[w,w];omega
  have hx:¬ (0:Int)≤n:=by omega
  simp (maxSteps:=9999999) +contextual only[exa,rA,rB,rD,rE,rF,rG,rH,rI,rJ,hn,hx,e1];refine(qNJ n n.natAbs 1 _ (List.replicate 24 (.p (.int .u8 0))) qJa rfl (qBG h0 5 1 _ 0 (by decide)) (by omega) (by omega)).trans ?_;rw[if_pos hn];unfold Lib.itoa;rw[if_pos hn]
 ·by_cases hs:n<100
  ·obtain⟨m,rfl⟩:∃ m:Nat,n=m:=⟨n.toNat,by omega⟩;have c1:CAL 88 [kI (m:Int)] (kS (Lib.decDigits m)):=qAC 88 _ _ rfl (qOu m (by omega)) rfl;simp (maxSteps:=9999999) +contextual only[exa,rA,rB,rD,rE,rF,rG,rH,rI,rJ,hn,hs,c1,oneOf];unfold Lib.itoa;rw[if_neg hn,Int.toNat_natCast]
  ·obtain⟨m,rfl⟩:∃ m:Nat,n=m:=⟨n.toNat,by omega⟩;have e1:IntKind.u64.wrap (m:Int)=(m:Int):=qCg _ (by omega) (by omega);simp (maxSteps:=9999999) +contextual only[exa,rA,rB,rD,rE,rF,rG,rH,rI,rJ,hn,hs,e1];refine(qNJ (m:Int) m 1 _ (List.replicate 24 (.p (.int .u8 0))) qJa rfl (qBG h0 5 1 _ 0 (by decide)) (by omega) (by omega)).trans ?_;rw[if_neg hn];unfold Lib.itoa;rw[if_neg hn,Int.toNat_natCast]
theorem qSM(n:Int)(h1 : -9223372036854775808≤n)(h2:n≤9223372036854775807):Om 30 [kI n,kI 10] []=some (kS (Lib.itoa n),[]):=by
 have c1:CAL 56 [kI n,kI 10] (kS (Lib.itoa n)):=qAC 56 _ _ rfl (qRr n h1 h2) rfl;refine(qAB rfl).trans ?_;show lim tab.get S 30 0 0 [kI n,kI 10] h0=_;rw[w30_0,b30_0];simp (maxSteps:=9999999) +contextual only[exa,rA,rB,rD,rE,rF,rG,rH,rI,rJ,c1,oneOf]
theorem qHs(s p:List UInt8):Om 103 [kS s,kS p] []=some (kB (decide (s.take p.length=p)),[]):=by
 refine(qAB rfl).trans ?_;show lim tab.get S 103 0 0 [kS s,kS p] h0=_;rw[w103_0,b103_0,qF6,qF6,qIT];by_cases hl:p.length≤s.length
 ·have e:(!decide ((s.length:Int)<(p.length:Int)))=true:=by simp; omega
  simp only[e,qGm,qF6,qBQ s p.length hl,qGs,qKF,qAj];rw[qAV _ _ rfl]; rfl
 ·have e:(!decide ((s.length:Int)<(p.length:Int)))=false:=by simp; omega
  have e2:¬ s.take p.length=p:=fun hh=>by have:=congrArg List.length hh; simp at this; omega
  simp only[e,qG5,qJZ,qAj];rw[qAV _ _ rfl,decide_eq_false e2]; rfl
theorem qHW(s p:List UInt8):Om 75 [kS s,kS p] []=some (kB (decide (s.take p.length=p)),[]):=by
 refine(qAB rfl).trans ?_;show lim tab.get S 75 0 0 [kS s,kS p] h0=_;rw[w75_0,b75_0,qAC 103 _ _ rfl (qHs s p) rfl,qAj,qAV _ _ rfl]; rfl
theorem u75{β:Type}{k:TVal→Heap→Option β}{h:Heap}{d:Nat}(s p:List UInt8):vcall Om (.v (.c (.func 75 []))) [kS s,kS p] h d k=k (kB (decide (s.take p.length=p))) h:=qAC 75 _ _ rfl (qHW s p) rfl
def isStart(n:Nat):Bool:=Nat.beq n 110||Nat.beq n 116||Nat.beq n 102||Nat.beq n 45||(Nat.ble 48 n&&Nat.ble n 57)||Nat.beq n 34||Nat.beq n 91||Nat.beq n 123
def isNtf(n:Nat):Bool:=Nat.beq n 110||Nat.beq n 116||Nat.beq n 102
def startS:List UInt8:=[110,116,102,45,48,49,50,51,52,53,54,55,56,57,34,91,123]
theorem qQ5(b:UInt8):Om 46 [kS startS,kS [b]] []=some (kB (isStart b.toNat),[]):=by
 refine(qAB rfl).trans ?_;have:=qF8 (T:=tab.get) (S:=S) blks_ok (f:=46) (p:=isStart) (N:=60) (av:=fun n=>[kS startS,kS [UInt8.ofNat n]]) (by kernel_rfl) b;rw[UInt8.ofNat_toNat] at this;exact this
theorem qSu(b:UInt8):Om 46 [kS [110,116,102],kS [b]] []=some (kB (isNtf b.toNat),[]):=by
 refine(qAB rfl).trans ?_;have:=qF8 (T:=tab.get) (S:=S) blks_ok (f:=46) (p:=isNtf) (N:=60) (av:=fun n=>[kS [110,116,102],kS [UInt8.ofNat n]]) (by kernel_rfl) b;rw[UInt8.ofNat_toNat] at this;exact this
def isBl(n:Nat):Bool:=Nat.beq n 32||Nat.beq n 9||Nat.beq n 10||Nat.beq n 13
def blS:List UInt8:=[32,9,10,13]
def setL:List PVal:=(List.range 256).map fun n => .bool (isBl n)
theorem qS2:Om 85 [kS blS] []=some (.tup [.agg (pcells setL),.c (.p (.bool true))],[]):=(qAB rfl).trans (qBH blks_ok 300 85 0 0 _ _ _ (by kernel_rfl))
abbrev P0:TVal := .v (.c (.ptr (.im 0) 0))
abbrev setO:AObj := .cells (pcells setL) 0
theorem qBf:plainO setO:=qAI _ 0
theorem qNv{β:Type}{O:Oracle}{h:Heap}{d:Nat}{k:TVal→Heap→Option β}(r:Ref)(b:UInt8):vop O (.iaddrA 256 1 (.k (.v (.c (.ptr r 0)))) (.k (kU b))) h d k=k (.v (.c (.ptr r b.toNat))) h:=qAY _ _ (by
 have hb:b.toNat<256:=b.toNat_lt;show(if b.toNat<256 then some (Plan.pure (.v (.c (.ptr r (0+b.toNat*1))))) else none)=_
 rw[if_pos hb,Nat.zero_add,Nat.mul_one])
theorem qSb(b:UInt8):setL[b.toNat]?=some (.bool (isBl b.toNat)):=by
 have hb:b.toNat<256:=b.toNat_lt;unfold setL;rw[List.getElem?_map,List.getElem?_range hb];rfl
theorem qR1(b:UInt8):Om 107 [P0,kU b] [setO]=some (kB (isBl b.toNat),[setO]):=by
 refine(qAB rfl).trans ?_;show lim tab.get S 107 1 0 [P0,kU b] { ims:=[setO],owns := .nil }=_;rw[w107_0,b107_0];have hg:(Heap.mk [setO] .nil).get (.im 0)=some setO:=rfl;simp (maxSteps:=9999999) +contextual only[exa,rA,rB,rD,rE,rF,rG,rH,rI,rJ,exW,exY,qNv,hg,qSb,oneOf]
theorem u107{β:Type}{k:TVal→Heap→Option β}{h:Heap}{d:Nat}(r:Ref)(b:UInt8)(hg:h.get r=some setO):vcall Om (.v (.c (.func 107 []))) [.v (.c (.ptr r 0)),kU b] h d k=k (kB (isBl b.toNat)) (h.put r setO) :=
 qAq 107 r 0 [] [kU b] _ _ _ rfl rfl hg qBf qBf rfl (qR1 b)
theorem u85{β:Type}{k:TVal→Heap→Option β}{h:Heap}{d:Nat}:vcall Om (.v (.c (.func 85 []))) [kS blS] h d k=k (.tup [.agg (pcells setL),.c (.p (.bool true))]) h:=qAC 85 _ _ rfl qS2 (by simp only[exP])
theorem qJe:setL.length=256:=by unfold setL; simp
def isD(b:UInt8):Bool:=decide (48≤b.toNat)&&decide (b.toNat≤57)
def valD:List UInt8→Nat→Nat
 |[],a=>a
 |b::l,a=>valD l (10*a+(b.toNat - 48))
theorem qE9:∀ (l m:List UInt8) (a:Nat),valD (l++m) a=valD m (valD l a)
 |[],_,_=>rfl
 |b::l,m,a=>by rw[List.cons_append,valD,qE9 l m]; rfl
theorem qEY:∀ (m u:Nat),u<m→valD (Lib.decDigits u) 0=u∧(∀ b∈Lib.decDigits u,isD b=true)∧Lib.decDigits u≠[]
 |0,_,h=>by omega
 |m+1,u,h=>by
  have one:∀ x,x<10→(UInt8.ofNat (48+x)).toNat=48+x:=fun x hx=>by rw[UInt8.toNat_ofNat',Nat.mod_eq_of_lt (by omega)]
  rw[Lib.decDigits];by_cases h1:u<10
  ·rw[dif_pos h1];refine⟨?_,fun b hb => ?_,by simp⟩
   ·rw[valD,valD,one u h1]; omega
   ·obtain rfl:=List.mem_singleton.1 hb;unfold isD;rw[one u h1];simp; omega
  ·rw[dif_neg h1];obtain⟨i1,i2,i3⟩:=qEY m (u / 10) (by omega);refine⟨?_,fun b hb => ?_,by simp⟩
   ·rw[qE9,i1,valD,valD,one _ (by omega)]; omega
   ·rcases List.mem_append.1 hb with hb|hb
    ·exact i2 b hb
    ·obtain rfl:=List.mem_singleton.1 hb;unfold isD;rw[one _ (by omega)];simp; omega
theorem qGK:∀ (N u:Nat),u<10 ^ (N+1)→(Lib.decDigits u).length≤N+1
 |0,u,h=>by
  have hu:u<10:=by simpa using h
  rw[Lib.decDigits,dif_pos hu]; simp
 |N+1,u,h=>by
  rw[Lib.decDigits];split
  ·simp
  ·have:=qGK N (u / 10) (by rw[Nat.pow_succ] at h; omega);simp; omega
theorem qEv:∀ (m u:Nat),u<m→(Lib.decDigits u).head?=some 48→u=0
 |0,_,h,_=>by omega
 |m+1,u,h,e=>by
  rw[Lib.decDigits] at e;by_cases h1:u<10
  ·rw[dif_pos h1] at e;have e1:UInt8.ofNat (48+u)=48:=by simpa using e
   have:(UInt8.ofNat (48+u)).toNat=48:=by rw[e1]; rfl
   rw[UInt8.toNat_ofNat',Nat.mod_eq_of_lt (by omega)] at this;omega
  ·rw[dif_neg h1] at e;have hne:=(qEY (u / 10+1) (u / 10) (by omega)).2.2;have e1:(Lib.decDigits (u / 10)).head?=some 48:=by
    cases hd:Lib.decDigits (u / 10) with
    |nil=>exact absurd hd hne
    |cons a l=>rw[hd] at e; simpa using e
   have:=qEv m (u / 10) (by omega) e1;omega
theorem qKD:∀ (l:List UInt8) (a:Nat),(∀ b∈l,isD b=true)→valD l a<(a+1)*10 ^ l.length
 |[],a,_=>by rw[valD]; simp
 |b::l,a,h=>by
  have hb:=h b (by simp);unfold isD at hb;simp only[Bool.and_eq_true,decide_eq_true_eq] at hb;have:=qKD l (10*a+(b.toNat - 48)) (fun x hx=>h x (by simp[hx]));rw[valD,List.length_cons,Nat.pow_succ];refine Nat.lt_of_lt_of_le this ?_;have h10:10*a+(b.toNat - 48)+1≤(a+1)*10:=by omega
  calc (10*a+(b.toNat - 48)+1)*10 ^ l.length≤((a+1)*10)*10 ^ l.length:=Nat.mul_le_mul_right _ h10
   _=(a+1)*(10 ^ l.length*10):=by rw[Nat.mul_assoc,Nat.mul_comm 10]
abbrev r2:TVal := .v (.c (.ptr (.own 2 1) 0))
abbrev rO(s:List UInt8)(e:Int):AObj := .cells (pcells [.str s,.int .i64 e]) 0
theorem qAe(a b:PVal):(pcells [a,b])[0]?=some (.p a):=rfl
theorem qAd(a b:PVal):(pcells [a,b])[1]?=some (.p b):=rfl
theorem qC8(a b x:PVal):put1 (pcells [a,b]) 0 [.p x]=pcells [x,b]:=rfl
theorem qDU(a b x:PVal):put1 (pcells [a,b]) 1 [.p x]=pcells [a,x]:=rfl
theorem qAW(a b:PVal):(pcells [a,b]).length=2:=rfl
theorem qAJ(s:List UInt8)(e:Int):plainO (rO s e):=qAI _ 0
theorem qBz(s:List UInt8)(e:Int):(Heap.mk [rO s e] .nil).get (.im 0)=some (rO s e):=rfl
theorem qSR(s w:List UInt8):Om 48 [P0,kS w] [rO s 0]=some (kB (decide (s.take w.length=w)),[rO (if s.take w.length=w then s.drop w.length else s) 0]):=by
 refine(qAB rfl).trans ?_;show lim tab.get S 48 1 0 [P0,kS w] { ims:=[rO s 0],owns := .nil }=_;rw[w48_0,b48_0];by_cases h:s.take w.length=w
 ·have hl:w.length≤s.length:=by have:=congrArg List.length h; simp at this; omega
  have c:=fun{β:Type} {k:TVal→Heap→Option β} {hh:Heap} {d:Nat}=>u75 (β:=β) (k:=k) (h:=hh) (d:=d) s w
  rw[decide_eq_true h] at c;have sl:∀ {β:Type}{k:TVal→Heap→Option β}{hh:Heap}{d:Nat},vop Om (.slice 0 true (.k (kS s)) (some (.k (kI (w.length:Int)))) none none) hh d k=k (kS (s.drop w.length)) hh:=fun{β k hh d}=>qDj s w.length hl
  simp (maxSteps:=9999999) +contextual only[exa,rA,rB,rD,rE,rF,rG,rH,rI,rJ,exY,qBz,qAe,qAd,qC8,qDU,qAW,c,h,hl,sl,if_true,oneOf]
 ·have c:=fun{β:Type} {k:TVal→Heap→Option β} {hh:Heap} {d:Nat}=>u75 (β:=β) (k:=k) (h:=hh) (d:=d) s w
  rw[decide_eq_false h] at c;simp (maxSteps:=9999999) +contextual only[exa,rA,rB,rD,rE,rF,rG,rH,rI,rJ,exY,qBz,qAe,qAd,qC8,qDU,qAW,c,h,if_false,oneOf]
theorem qET{b:UInt8}(h:isD b=true):48≤b.toNat∧b.toNat≤57:=by
 simpa [isD] using h
theorem qOF(ds:List UInt8)(hd:∀ b∈ds,isD b=true)(hz:ds[0]?=some 48→ds.length=1)(hn:ds≠[]):Om 76 [kS ds] []=some (kI (ds.length:Int),[]):=by
 refine(qAB rfl).trans ?_;show lim tab.get S 76 0 0 [kS ds] h0=_;rw[w76_0,b76_0,qGQ];obtain⟨b0,hb0⟩:∃ b,ds[0]?=some b:=⟨ds[0]'(by cases ds with|nil=>exact absurd rfl hn|cons a l=>simp),by simp⟩;have loop:∀ (m pos:Nat) (h:Heap),ds.length - pos=m→pos≤ds.length→h.get (.own 6 1)=some (.siter ds pos)→lim tab.get S 76 0 1 [kS ds,.v (.c (.ptr (.own 6 1) 0))] h=some (kI (ds.length:Int),[]):=by
  intro m
  induction m with
  |zero =>
   intro pos h hm hl hh;rw[w76_1,b76_1,qFo ds pos _ hh (by omega),qAs _ 0 (.c (.p (.bool false))) rfl,qCr,w76_2,b76_2];by_cases h1:(1:Int)<(ds.length:Int)
   ·have h2:¬ ((b0.toNat:Nat):Int)=48:=fun e=>by
     have e2:b0=48:=UInt8.toNat_inj.1 (by show b0.toNat=48; omega);have:=hz (by rw[hb0,e2]);omega
    simp (maxSteps:=9999999) +contextual only[exa,rA,rB,rD,rE,rF,rG,rH,rI,rJ,h1,hb0,h2,oneOf]
   ·simp (maxSteps:=9999999) +contextual only[exa,rA,rB,rD,rE,rF,rG,rH,rI,rJ,h1,oneOf]
  |succ m ih =>
   intro pos h hm hl hh;obtain⟨b,hb⟩:∃ b,ds[pos]?=some b:=⟨ds[pos]'(by omega),by simp⟩;obtain⟨q1,q2⟩:=qET (hd b (List.mem_of_getElem? hb));have r1:¬ ((b.toNat:Nat):Int)<48:=by omega
   have r2:¬ (57:Int)<((b.toNat:Nat):Int):=by omega
   have ih:=ih (pos+1) (h.own 6 1 (.siter ds (pos+1))) (by omega) (by omega) (Heap.own_get h 6 1 _ (by decide) (fun e=>by cases e));rw[w76_1,b76_1,qCL ds pos _ hh (by omega),qAs _ 0 (.c (.p (.bool true))) rfl,qB0,qCZ ds pos b hb (by omega),qAs _ 1 (.c (.p (.int .i64 (pos:Int)))) rfl,qAs _ 2 (.c (.p (.int .i32 (b.toNat:Int)))) rfl];by_cases hp:(pos:Int)=1
   ·have h2:¬ ((b0.toNat:Nat):Int)=48:=fun e=>by
     have e2:b0=48:=UInt8.toNat_inj.1 (by show b0.toNat=48; omega);have:=hz (by rw[hb0,e2]);omega
    simp (maxSteps:=9999999) +contextual only[exa,rA,rB,rD,rE,rF,rG,rH,rI,rJ,r1,r2,hp,hb0,h2,ih,oneOf]
   ·simp (maxSteps:=9999999) +contextual only[exa,rA,rB,rD,rE,rF,rG,rH,rI,rJ,r1,r2,hp,ih,oneOf]
 refine(loop ds.length 0 _ (by omega) (by omega) (Heap.own_get _ 6 1 _ (by decide) (fun e=>by cases e))).trans ?_;rfl
def numV(n:Int):VT := .mk 2 false n [] .nil .nil
abbrev Z6:List Cell:=[.p (.int .i64 0),.p (.bool false),.p (.int .i64 0),.p (.str []),.p .nilslice,.p .nilslice]
abbrev R2:TVal := .v (.c (.ptr (.own 2 1) 0))
theorem u48{β:Type}{k:TVal→Heap→Option β}{h:Heap}{d:Nat}(r:Ref)(s w:List UInt8)(hg:h.get r=some (rO s 0)):vcall Om (.v (.c (.func 48 []))) [.v (.c (.ptr r 0)),kS w] h d k=k (kB (decide (s.take w.length=w))) (h.put r (rO (if s.take w.length=w then s.drop w.length else s) 0)) :=
 qAq 48 r 0 [] [kS w] _ _ _ rfl rfl hg (qAJ _ _) (qAJ _ _) rfl (qSR s w)
def sgn(b:Bool)(x:Nat):Int:=if b then -(x:Int) else x
def lim53(b:Bool):Nat:=if b then 9223372036854775808 else 9223372036854775807
theorem qOJ(x:Nat)(hx:x≤9223372036854775808):IntKind.i64.wrap (0 - IntKind.i64.wrap (x:Int)) = -(x:Int):=by
 by_cases h:x≤9223372036854775807
 ·rw[qAH (x:Int) (by omega) (by omega),qAH _ (by omega) (by omega)]; omega
 ·obtain rfl:x=9223372036854775808:=by omega
  rfl
theorem qHE(l:List UInt8)(b:UInt8):valD (l++[b]) 0=10*valD l 0+(b.toNat - 48):=by rw[qE9]; rfl
def numT(b:Bool)(ds:List UInt8):List UInt8:=if b then 45::ds else ds
structure NumOk (b:Bool) (ds:List UInt8):Prop where
 hd:∀ c∈ds,isD c=true
 hn:ds≠[]
 hl:ds.length≤19
 hz:ds[0]?=some 48→ds.length=1
 hx:valD ds 0≤lim53 b
theorem qOl(n:Int)(h1 : -9223372036854775808≤n)(h2:n≤9223372036854775807):∃ b ds,Lib.itoa n=numT b ds∧NumOk b ds∧sgn b (valD ds 0)=n:=by
 have pw:(10:Nat) ^ 19=10000000000000000000:=by decide
 have z:Lib.decDigits 0=[48]:=by rw[Lib.decDigits,dif_pos (by decide)]; rfl
 have hd:∀ l:List UInt8,l[0]?=some 48→l.head?=some 48:=fun l h=>by cases l with|nil=>cases h|cons a l=>exact h
 unfold Lib.itoa;by_cases h0:n<0
 ·obtain⟨v1,v2,v3⟩:=qEY (n.natAbs+1) n.natAbs (by omega);refine⟨true,Lib.decDigits n.natAbs,by rw[if_pos h0]; rfl,⟨v2,v3,qGK 18 _ (by omega),fun e => ?_,?_⟩,?_⟩
  ·have:=qEv (n.natAbs+1) n.natAbs (by omega) (hd _ e);rw[this,z]; rfl
  ·rw[v1]; show n.natAbs≤9223372036854775808; omega
  ·rw[v1]; show -((n.natAbs:Nat):Int)=n; omega
 ·obtain⟨v1,v2,v3⟩:=qEY (n.toNat+1) n.toNat (by omega);refine⟨false,Lib.decDigits n.toNat,by rw[if_neg h0]; rfl,⟨v2,v3,qGK 18 _ (by omega),fun e => ?_,?_⟩,?_⟩
  ·have:=qEv (n.toNat+1) n.toNat (by omega) (hd _ e);rw[this,z]; rfl
  ·rw[v1]; show n.toNat≤9223372036854775807; omega
  ·rw[v1]; show((n.toNat:Nat):Int)=n; omega
theorem qDY{b:Bool}{ds:List UInt8}(h:NumOk b ds):∃ c l,numT b ds=c::l∧(c=45∧b=true∧l=ds∨b=false∧isD c=true∧c::l=ds):=by
 cases b
 ·cases hds:ds with
  |nil=>exact absurd hds h.hn
  |cons c l=>exact⟨c,l,rfl,.inr ⟨rfl,h.hd c (by rw[hds]; simp),rfl⟩⟩
 ·exact⟨45,ds,rfl,.inl ⟨rfl,rfl,rfl⟩⟩
theorem qCi(h:Heap)(i:Nat)(o:AObj)(hg:h.get (.im i)=some o):h.put (.im i) o=h:=by
 obtain⟨ims,owns⟩:=h;have hg2:ims[i]?=some o:=by
  unfold Heap.get at hg;cases hi:ims[i]? with
  |none=>simp only[hi] at hg; cases hg
  |some a=>simp only[hi] at hg; cases a <;> first|exact hg|cases hg
 show Heap.mk (ims.set i o) owns=Heap.mk ims owns;have:ims.set i o=ims:=by
  apply List.ext_getElem?;intro j;rw[List.getElem?_set];by_cases hj:i=j
  ·subst hj;have:=(List.getElem?_eq_some_iff.1 hg2).1;rw[if_pos rfl,if_pos this,hg2]
  ·rw[if_neg hj]
 rw[this]
theorem qE3{β:Type}{k:TVal→Heap→Option β}{h:Heap}{d:Nat}(b:UInt8):vcall Om (.v (.c (.func 46 []))) [kS [110,116,102,45,48,49,50,51,52,53,54,55,56,57,34,91,123],kS [b]] h d k=k (kB (isStart b.toNat)) h:=qAC 46 _ _ rfl (qQ5 b) rfl
theorem u46n{β:Type}{k:TVal→Heap→Option β}{h:Heap}{d:Nat}(b:UInt8):vcall Om (.v (.c (.func 46 []))) [kS [110,116,102],kS [b]] h d k=k (kB (isNtf b.toNat)) h:=qAC 46 _ _ rfl (qSu b) rfl
theorem qCA{β:Type}{k:TVal→Heap→Option β}{h:Heap}{d:Nat}(s w:List UInt8)(hg:h.get (.im 0)=some (rO s 0))(hw:¬ s.take w.length=w):vcall Om (.v (.c (.func 48 []))) [P0,kS w] h d k=k (kB false) h:=by
 rw[u48 (.im 0) s w hg,if_neg hw,decide_eq_false hw,qCi h 0 _ hg]
abbrev rC(s:List UInt8):AObj := .cells [.p (.str s),.p (.int .i64 0)] 0
end Go.Proofs.YtiahgnkffnokfaaGreatDoor.Ab
namespace Go.AI
section
variable {β:Type} {O:Oracle} {h:Heap} {d:Nat} {k:TVal→Heap→Option β}
theorem qHX{D:List Nat}{sz by':Nat}{v:Cell}{rows new:List (List PVal)}(t:Bool)(G:Grow D sz v rows h)(hD:d∈D)(hn:new≠[])(hsz:∀ r∈new,r.length=sz)(hb:(rows.length+new.length)*by'≤1099511627776)(hd:d+1<1048576) :
  ∃ v' h',Grow D sz v' (rows++new) h'∧(∀ (β:Type) (O:Oracle) (k:TVal→Heap→Option β),vop O (.append sz by' false (.k (.v (.c v))) (.k (kSl sz t new))) h d k=k (.v (.c v')) h') ∧
   (∀ e g o,e≠d→h.get (.own e g)=some o→o ≠ .cells [] 0→h'.get (.own e g)=some o)∧(∀ i,h'.get (.im i)=h.get (.im i)):=by
 have hnl:new.length≠0:=by simpa using hn
 have slowEq:∀ (O:Oracle) (v':TVal) (h':Heap),(plan .nil (.append sz by' false (.k (.v (.c v))) (.k (kSl sz t new)))).bind (fun p=>(p.exec O d h).map fun x=>(x.1,x.2.1))=some (v',h') →
   ∀ (β:Type) (k:TVal→Heap→Option β),vop O (.append sz by' false (.k (.v (.c v))) (.k (kSl sz t new))) h d k=k v' h':=by
  intro O v' h' e β k;show opK O _ .nil h d k=_;rw[qAw];show(Option.bind (Option.bind _ _) _)=_;rw[e]; rfl
 have gr:∀ ups,growRow sz by' rows (pcells new.flatten) new.length ups=some ⟨fun r => .v (.c (.tsl sz (rows++new) r)),ups,some (.cells [] 0),false⟩:=by
  intro ups;unfold growRow;rw[qCY sz new hsz];dsimp only;rw[if_pos (by omega)]
 rcases G with ⟨rfl,rfl⟩|⟨hne,e,g,_,rfl,hh⟩
 ·refine⟨.tsl sz new (.own d (h.gen d+1)),h.own d (h.gen d+1) (.cells [] 0),.inr ⟨hn,d,_,hD,rfl,Heap.own_get h d _ _ hd (fun e=>by cases e)⟩,fun β O k=>slowEq O _ _ ?_ β k,fun e g o he ho _=>(Heap.own_get_ne h d _ _ e g (Ne.symm he)).trans ho,fun i=>rfl⟩;have ea:appendTo sz by' false kNil none (pcells new.flatten) new.length=some ⟨fun r => .v (.c (.tsl sz ([]++new) r)),[],some (.cells [] 0),false⟩:=by
   unfold appendTo;rw[if_neg hnl];exact gr []
  show((Plan.go [] _).exec O d h).map _=_;simp only[Plan.exec,goOp,List.mapM_nil,Option.pure_def,zipNeeds,splitNeeds,srcCells,dstRef,srcRef];simp only[if_true,rM,Option.bind_some,ea];rfl
 ·have hgen:(h.put (.own e g) .dead).gen d=(if e=d then g else h.gen d):=by
   show(h.own e g .dead).gen d=_;split
   ·rename_i hh; subst hh; exact Heap.own_gen h e g _ hd
   ·rename_i hh; exact Heap.own_gen_ne h e g _ d hh
  refine⟨.tsl sz (rows++new) (.own d (h.gen d+1)),(h.put (.own e g) .dead).own d (h.gen d+1) (.cells [] 0),.inr ⟨by simp[hne],d,_,hD,rfl,Heap.own_get _ d _ _ hd (fun e=>by cases e)⟩,fun β O k=>slowEq O _ _ ?_ β k,fun e' g' o he ho hx => ?_,fun i=>rfl⟩
  ·have ea:appendTo sz by' false (.v (.c (.tsl sz rows (.own e g)))) (some (.cells [] 0)) (pcells new.flatten) new.length=some ⟨fun r => .v (.c (.tsl sz (rows++new) r)),[(.own e g,.dead)],some (.cells [] 0),false⟩:=by
    unfold appendTo;rw[if_neg hnl];show(if sz=sz then growRow sz by' rows (pcells new.flatten) new.length [(.own e g,.dead)] else none)=_;rw[if_pos rfl];exact gr _
   show((Plan.go [.own e g] _).exec O d h).map _=_;simp only[Plan.exec,goOp,qCK,hh,Option.map_some,zipNeeds,splitNeeds,srcCells,dstRef,srcRef];simp only[if_true,rM,Option.bind_some,ea];simp;rfl
  ·refine(Heap.own_get_ne _ d _ _ e' g' (Ne.symm he)).trans ?_;show(h.own e g .dead).get (.own e' g')=some o;by_cases e1:e=e'
   ·subst e1;exfalso
    letI:Sym:=⟨fun _=>0⟩
    have h1:=(Heap.get_own_gen hh);have h2:=(Heap.get_own_gen ho);obtain⟨a1,b1⟩:=h1;obtain⟨a2,b2⟩:=h2;rw[b1] at b2;simp only[rK,Prod.mk.injEq] at b2;exact hx b2.2.symm
   ·exact(Heap.own_get_ne h e g _ e' g' e1).trans ho
end
end Go.AI
namespace Go.Proofs.YtiahgnkffnokfaaGreatDoor.Ab
open Go Go.AI
def meantM(c:UInt8):Option UInt8:=if c.toNat=110 then some 10 else if c.toNat=116 then some 9 else if c.toNat=34 then some c else if c.toNat=92 then some c else none
def meantV(c:UInt8):TVal:=match meantM c with
 |some x => .tup [.c (.p (.int .u8 (x.toNat:Int))),.c (.p (.bool true))]
 |none => .tup [.c (.p (.int .u8 0)),.c (.p (.bool false))]
theorem qN5(c:UInt8):Om 78 [kU c] []=some (meantV c,[]):=by
 refine(qAB rfl).trans ?_;show lim tab.get S 78 0 0 [kU c] h0=_;rw[w78_0,b78_0,qCn,qDP];unfold meantV meantM;by_cases h1:c.toNat=110
 ·rw[if_pos (decide_eq_true (by omega)),if_pos h1,qAj,qAj,qAV _ _ rfl]; rfl
 rw[if_neg (by rw[decide_eq_true_eq]; omega),if_neg h1,qCn,qDP];by_cases h2:c.toNat=116
 ·rw[if_pos (decide_eq_true (by omega)),if_pos h2,qAj,qAj,qAV _ _ rfl]; rfl
 rw[if_neg (by rw[decide_eq_true_eq]; omega),if_neg h2,qCn,qDP];by_cases h3:c.toNat=34
 ·rw[if_pos (decide_eq_true (by omega)),if_pos h3,w78_1,b78_1,decide_eq_true (by omega),qB0,qAj,qAj,qAV _ _ rfl]; rfl
 rw[if_neg (by rw[decide_eq_true_eq]; omega),if_neg h3,qCn,w78_1,b78_1,qDP];by_cases h4:c.toNat=92
 ·rw[if_pos (decide_eq_true (by omega)),if_pos h4,qAj,qAj,qAV _ _ rfl]; rfl
 rw[if_neg (by rw[decide_eq_true_eq]; omega),if_neg h4,qAj,qAj,qAV _ _ rfl]; rfl
theorem qR0(s:List UInt8)(e:Int):Om 28 [P0,kI e] [rO s 0]=some (.tup [],[rO s e]):=by
 refine(qAB rfl).trans ?_;show lim tab.get S 28 1 0 [P0,kI e] { ims:=[rO s 0],owns := .nil }=_;rw[w28_0,b28_0];simp (maxSteps:=9999999) +contextual only[exa,rA,rB,rD,rE,rF,rG,rH,rI,rJ,exY,qBz,qAe,qAd,qC8,qDU,qAW,oneOf]
theorem qRL(s:List UInt8)(e f:Int)(hf:¬ f=0):Om 28 [P0,kI e] [rO s f]=some (.tup [],[rO s f]):=by
 refine(qAB rfl).trans ?_;show lim tab.get S 28 1 0 [P0,kI e] { ims:=[rO s f],owns := .nil }=_;rw[w28_0,b28_0];simp (maxSteps:=9999999) +contextual only[exa,rA,rB,rD,rE,rF,rG,rH,rI,rJ,exY,qBz,qAe,qAd,qC8,qDU,qAW,hf,oneOf]
theorem u28{β:Type}{k:TVal→Heap→Option β}{h:Heap}{d:Nat}(r:Ref)(s:List UInt8)(e:Int)(hg:h.get r=some (rO s 0)):vcall Om (.v (.c (.func 28 []))) [.v (.c (.ptr r 0)),kI e] h d k=k (.tup []) (h.put r (rO s e)) :=
 qAq 28 r 0 [] [kI e] _ _ _ rfl rfl hg (qAJ _ _) (qAJ _ _) rfl (qR0 s e)
theorem u28b{β:Type}{k:TVal→Heap→Option β}{h:Heap}{d:Nat}(r:Ref)(s:List UInt8)(e f:Int)(hf:¬ f=0)(hg:h.get r=some (rO s f)):vcall Om (.v (.c (.func 28 []))) [.v (.c (.ptr r 0)),kI e] h d k=k (.tup []) (h.put r (rO s f)) :=
 qAq 28 r 0 [] [kI e] _ _ _ rfl rfl hg (qAJ _ _) (qAJ _ _) rfl (qRL s e f hf)
theorem qHR(s:List UInt8)(b:UInt8):byteRows s++[[.int .u8 (b.toNat:Int)]]=byteRows (s++[b]):=by simp[byteRows]
def tGo:List UInt8→List UInt8→Option (List UInt8×List UInt8)
 |[],_=>none
 |[c],acc=>if c.toNat<32 then none else if c.toNat=34 then some (acc,[]) else none
 |c::d::s,acc =>
  if c.toNat<32 then none
  else if c.toNat=34 then some (acc,d::s)
  else if c.toNat=92 then (match meantM d with
   |none=>none
   |some x=>tGo s (acc++[x]))
  else tGo (d::s) (acc++[c])
def tRes(s:List UInt8):Option (List UInt8×List UInt8)→Res1
 |none=>some (kS [],[rO s 11])
 |some (o,r)=>some (kS o,[rO r 0])
theorem qHH(s:List UInt8)(h:Heap)(v:Cell)(hg:h.get (.im 0)=some (rO s 0)):lim tab.get S 49 1 3 [P0] h=some (kS [],[rO s 11]):=by
 rw[w49_3,b49_3,u28 (.im 0) s 11 hg,qAj];exact qAb false [.c (.p (.str []))] _ (by simp only[exP]) (qAP h 0 _ _ (by rw[hg]; rfl)) (qAJ s 11)
theorem qKk(s:List UInt8)(hs:s.length≤1073741824):∀ (m i:Nat) (acc:List UInt8) (v:Cell) (h:Heap),s.length - i≤m→i≤s.length→acc.length≤i→Grow [26,78] 1 v (byteRows acc) h→h.get (.im 0)=some (rO s 0) →
  lim tab.get S 49 1 1 [P0,.v (.c v),kI (i:Int)] h=tRes s (tGo (s.drop i) acc):=by
 intro m
 induction m with
 |zero =>
  intro i acc v h hm hl ha G hg;have lt:¬ (i:Int)<(s.length:Int):=by omega
  rw[w49_1,b49_1];simp (maxSteps:=9999999) +contextual only[exa,rA,rB,rD,rE,rF,rG,rH,rI,rJ,exY,hg,qAe,qAd,qAW,lt,if_false,oneOf];rw[qHH s h v hg,List.drop_eq_nil_of_le (by omega)]; rfl
 |succ m ih =>
  intro i acc v h hm hl ha G hg;by_cases hi:i<s.length
  ·obtain⟨c,hcb⟩:∃ c,s[i]?=some c:=⟨s[i]'hi,by simp⟩;have hd:s.drop i=c::s.drop (i+1):=by
    obtain⟨h1,h2⟩:=List.getElem?_eq_some_iff.1 hcb;rw[List.drop_eq_getElem_cons h1,h2]
   have lt:(i:Int)<(s.length:Int):=by omega
   have ew:IntKind.i64.wrap ((i:Int)+1)=((i+1:Nat):Int):=by rw[qAH _ (by omega) (by omega)]; omega
   rw[hd];by_cases h1:c.toNat<32
   ·have h1':((c.toNat:Nat):Int)<32:=by omega
    rw[w49_1,b49_1];have fin:vfin false 1 [.c (.p (.str []))] (h.put (.im 0) (rO s 11))=some (oneOf [.c (.p (.str []))],[rO s 11]):=qAb false [.c (.p (.str []))] _ (by simp only[exP]) (qAP h 0 _ _ (by rw[hg]; rfl)) (qAJ s 11);have cf:=fun{β:Type} {k:TVal→Heap→Option β} {d:Nat}=>u28 (β:=β) (k:=k) (h:=h) (d:=d) (.im 0) s 11 hg
    simp (maxSteps:=9999999) +contextual only[exa,rA,rB,rD,rE,rF,rG,rH,rI,rJ,exY,hg,qAe,qAd,qAW,lt,hcb,h1',cf,if_true,oneOf];cases s.drop (i+1) <;> simp[tGo,h1,tRes]
   have h1':¬ ((c.toNat:Nat):Int)<32:=by omega
   by_cases h2:c.toNat=34
   ·have h2':((c.toNat:Nat):Int)=34:=by omega
    have sl:∀ {β:Type}{k:TVal→Heap→Option β}{hh:Heap}{d:Nat},vop Om (.slice 0 true (.k (kS s)) (some (.k (kI ((i+1:Nat):Int)))) none none) hh d k=k (kS (s.drop (i+1))) hh:=fun{β k hh d}=>qDj s (i+1) (by omega)
    have ts:∀ {β:Type}{k:TVal→Heap→Option β}{d:Nat},vop Om (.toStr (.k (.v (.c v)))) (h.put (.im 0) (rO (s.drop (i+1)) 0)) d k=k (kS acc) (h.put (.im 0) (rO (s.drop (i+1)) 0)):=fun{β k d}=>qJD (G.keep fun e _ g hh=>hh)
    have fin:=qAb false [.c (.p (.str acc))] _ (by simp only[exP]) (qAP h 0 (pcells [.str (s.drop (i+1)),.int .i64 0]) 0 (by rw[hg]; rfl)) (qAJ (s.drop (i+1)) 0);rw[w49_1,b49_1];simp (maxSteps:=9999999) +contextual only[exa,rA,rB,rD,rE,rF,rG,rH,rI,rJ,exY,hg,qAe,qAd,qC8,qAW,lt,hcb,h1',h2',ew,sl,ts,if_true,oneOf];cases s.drop (i+1) <;> simp[tGo,h1,h2,tRes]
   have h2':¬ ((c.toNat:Nat):Int)=34:=by omega
   have plain:∀ (hn:¬ (c.toNat=92∧i+1<s.length)),tGo (c::s.drop (i+1)) acc=tGo (s.drop (i+1)) (acc++[c]):=by
    intro hn;cases hr:s.drop (i+1) with
    |nil=>simp[tGo,h1,h2]
    |cons d t =>
     have:i+1<s.length:=by
      have:=congrArg List.length hr; simp at this; omega
     have:¬ c.toNat=92:=fun e=>hn ⟨e,this⟩
     simp[tGo,h1,h2,this]
   have go:∀ (x:UInt8) (j:Nat) (hj:i≤j) (hjl:j+1≤s.length) (dd:Nat) (hd0:dd∈[26,78]) (hd2:dd+1<1048576) (t':Nat), 
     (vop (orc S (lim tab.get S)) (.bslice 1 1 [(.p (.int .u8 0))] [(0,(.k (kU x)))] false) h t' fun x67 h=>vop (orc S (lim tab.get S)) (.append 1 1 false (.k (.v (.c v))) (.k x67)) h dd fun x68 h=>lim tab.get S 49 1 2 [P0,x68,kI (j:Int)] h)=tRes s (tGo (s.drop (j+1)) (acc++[x])):=by
    intro x j hj hjl dd hd0 hd2 t';rw[qAY (.bslice 1 1 [(.p (.int .u8 0))] [(0,(.k (kU x)))] false) (kSl 1 true [[.int .u8 (x.toNat:Int)]]) rfl];obtain⟨v',h',G',e',_,keep⟩:=qHX (by':=1) (new:=[[.int .u8 (x.toNat:Int)]]) true G hd0 (by simp) (by simp) (by simp[byteRows]; omega) hd2;rw[e',w49_2,b49_2,qCh,qAH _ (by omega) (by omega)];rw[qHR] at G';have:=ih (j+1) (acc++[x]) v' h' (by omega) hjl (by simp; omega) G' ((keep 0).trans hg);rw[show((j:Int)+1)=((j+1:Nat):Int) by omega];exact this
   by_cases h4:c.toNat=92
   ·have h4':((c.toNat:Nat):Int)=92:=by omega
    by_cases h5:i+1<s.length
    ·have h5':((i+1:Nat):Int)<(s.length:Int):=by omega
     obtain⟨d,hdb⟩:∃ d,s[i+1]?=some d:=⟨s[i+1]'h5,by simp⟩;have hd':s.drop (i+1)=d::s.drop (i+1+1):=by
      obtain⟨q1,q2⟩:=List.getElem?_eq_some_iff.1 hdb;rw[List.drop_eq_getElem_cons q1,q2]
     have key:tGo (c::s.drop (i+1)) acc=match meantM d with|none=>none|some x=>tGo (s.drop (i+1+1)) (acc++[x]):=by
      rw[hd']; simp[tGo,h1,h2,h4]
     have cm:∀ {β:Type}{k:TVal→Heap→Option β}{hh:Heap}{e:Nat},vcall Om (.v (.c (.func 78 []))) [kU d] hh e k=k (meantV d) hh:=qAC 78 _ _ rfl (qN5 d) (by unfold meantV; split <;> rfl);rw[key,w49_1,b49_1];cases hmd:meantM d with
     |none =>
      have mv:meantV d = .tup [.c (.p (.int .u8 0)),.c (.p (.bool false))]:=by unfold meantV; rw[hmd]
      rw[mv] at cm;have fin:vfin false 1 [.c (.p (.str []))] (h.put (.im 0) (rO s 11))=some (oneOf [.c (.p (.str []))],[rO s 11]):=qAb false [.c (.p (.str []))] _ (by simp only[exP]) (qAP h 0 _ _ (by rw[hg]; rfl)) (qAJ s 11);have cf:=fun{β:Type} {k:TVal→Heap→Option β} {d:Nat}=>u28 (β:=β) (k:=k) (h:=h) (d:=d) (.im 0) s 11 hg
      simp (maxSteps:=9999999) +contextual only[exa,rA,rB,rD,rE,rF,rG,rH,rI,rJ,exY,hg,qAe,qAd,qAW,lt,hcb,h1',h2',h4',ew,h5',hdb,cm,cf,if_true,if_false,tRes,oneOf]
     |some x =>
      have mv:meantV d = .tup [.c (.p (.int .u8 (x.toNat:Int))),.c (.p (.bool true))]:=by unfold meantV; rw[hmd]
      rw[mv] at cm;have g2:=go x (i+1) (by omega) (by omega) 78 (by decide) (by decide) 77;simp (maxSteps:=9999999) +contextual only[exa,rA,rB,rD,rE,rF,rG,rH,rI,rJ,exY,hg,qAe,qAd,qAW,lt,hcb,h1',h2',h4',ew,h5',hdb,cm,if_true,if_false,oneOf] at g2 ⊢;exact g2
    ·have h5':¬ ((i+1:Nat):Int)<(s.length:Int):=by omega
     have g2:=go c i (by omega) (by omega) 26 (by decide) (by decide) 25;rw[plain (fun q=>h5 q.2),w49_1,b49_1];simp (maxSteps:=9999999) +contextual only[exa,rA,rB,rD,rE,rF,rG,rH,rI,rJ,exY,hg,qAe,qAd,qAW,lt,hcb,h1',h2',h4',ew,h5',if_true,if_false,oneOf] at g2 ⊢;exact g2
   ·have h4':¬ ((c.toNat:Nat):Int)=92:=by omega
    have g2:=go c i (by omega) (by omega) 26 (by decide) (by decide) 25;rw[plain (fun q=>h4 q.1),w49_1,b49_1];simp (maxSteps:=9999999) +contextual only[exa,rA,rB,rD,rE,rF,rG,rH,rI,rJ,exY,hg,qAe,qAd,qAW,lt,hcb,h1',h2',h4',ew,if_true,if_false,oneOf] at g2 ⊢;exact g2
  ·have lt:¬ (i:Int)<(s.length:Int):=by omega
   rw[w49_1,b49_1];simp (maxSteps:=9999999) +contextual only[exa,rA,rB,rD,rE,rF,rG,rH,rI,rJ,exY,hg,qAe,qAd,qAW,lt,if_false,oneOf];rw[qHH s h v hg,List.drop_eq_nil_of_le (by omega)]; rfl
theorem qSJ(s:List UInt8)(hs:s.length≤1073741824):Om 49 [P0] [rO s 0]=tRes s (tGo s []):=by
 refine(qAB rfl).trans ?_;show lim tab.get S 49 1 0 [P0] { ims:=[rO s 0],owns := .nil }=_;rw[w49_0,b49_0];exact qKk s hs s.length 0 [] _ _ (by omega) (by omega) (by simp) (Grow.nil _ 1 _) rfl
def trimB:List UInt8→List UInt8
 |[]=>[]
 |b::s=>if isBl b.toNat=true then trimB s else b::s
theorem qJw:∀ (s:List UInt8) (h:Heap),h.get (.im 0)=some setO→lim tab.get S 86 1 1 [kS s,P0] h=some (kS (trimB s),[setO])
 |[],h,hg=>by
  have h0:¬ (0:Int)<((0:Nat):Int):=by decide
  have fin:=qAb true [.c (.p (.str []))] _ (by simp only[exP]) hg qBf;rw[w86_1,b86_1];simp (maxSteps:=9999999) +contextual only[exa,rA,rB,rD,rE,rF,rG,rH,rI,rJ,List.length_nil,h0,fin,if_false,trimB,oneOf]
 |b::s,h,hg=>by
  have h1:(0:Int)<((s.length+1:Nat):Int):=by omega
  have h2:(b::s)[0]?=some b:=rfl;have hp:h.put (.im 0) setO=h:=qCi h 0 _ hg;have c:=fun{β:Type} {k:TVal→Heap→Option β} {d:Nat}=>u107 (β:=β) (k:=k) (d:=d) (.im 0) b hg
  rw[hp] at c;rw[w86_1,b86_1];cases h3:isBl b.toNat
  ·rw[h3] at c;have fin:=qAb true [.c (.p (.str (b::s)))] _ (by simp only[exP]) hg qBf;simp (maxSteps:=9999999) +contextual only[exa,rA,rB,rD,rE,rF,rG,rH,rI,rJ,List.length_cons,h1,h2,c,fin,trimB,h3,oneOf,if_false,Bool.false_eq_true]
  ·rw[h3] at c;have sl:∀ {β:Type}{k:TVal→Heap→Option β}{hh:Heap}{d:Nat},vop Om (.slice 0 true (.k (kS (b::s))) (some (.k (kI 1))) none none) hh d k=k (kS s) hh:=fun{β k hh d}=>qDj (b::s) 1 (by simp)
   simp (maxSteps:=9999999) +contextual only[exa,rA,rB,rD,rE,rF,rG,rH,rI,rJ,List.length_cons,h1,h2,c,sl,qJw s h hg,trimB,h3,oneOf,if_true]
theorem u86G{β:Type}{k:TVal→Heap→Option β}{h:Heap}{d:Nat}(r:Ref)(s:List UInt8)(hg:h.get r=some setO):vcall Om (.v (.c (.func 86 []))) [kS s,.v (.c (.ptr r 0))] h d k=k (kS (trimB s)) (h.put r setO) :=
 qAq 86 r 0 [kS s] [] _ _ _ rfl rfl hg qBf qBf rfl (by
  refine(qAB rfl).trans ?_;show lim tab.get S 86 1 0 [kS s,P0] { ims:=[setO],owns := .nil }=_;rw[w86_0,b86_0]
  exact qJw s _ rfl)
theorem qRH(s:List UInt8):Om 54 [kS s,kS blS] []=some (kS (trimB s),[]):=by
 refine(qAB rfl).trans ?_;show lim tab.get S 54 0 0 [kS s,kS blS] h0=_;rw[w54_0,b54_0];by_cases hs:s=[]
 ·subst hs;simp (maxSteps:=9999999) +contextual only[exa,rA,rB,rD,rE,rF,rG,rH,rI,rJ,trimB,oneOf]
 ·have hl:¬ ((blS.length:Nat):Int)=1:=by decide
  have hbl:¬ blS=[]:=by decide
  have P:∀ Z:List Cell,Z.length=256→put1 Z 0 (pcells setL)=pcells setL:=fun Z hz=>qAh _ _ (by rw[qAM,qJe,hz])
  simp (maxSteps:=9999999) +contextual only[exa,rA,rB,rD,rE,rF,rG,rH,rI,rJ,exY,hs,hbl,hl,qJe,u85,P,u86G _ s,List.length_cons,List.length_nil,oneOf]
theorem u54G{β:Type}{k:TVal→Heap→Option β}{h:Heap}{d:Nat}(s:List UInt8):vcall Om (.v (.c (.func 54 []))) [kS s,kS [32,9,10,13]] h d k=k (kS (trimB s)) h:=qAC 54 _ _ rfl (qRH s) rfl
theorem qMM(s:List UInt8)(e:Int):Om 27 [P0] [rO s e]=some (.tup [],[rO (trimB s) e]):=by
 refine(qAB rfl).trans ?_;show lim tab.get S 27 1 0 [P0] { ims:=[rO s e],owns := .nil }=_;have c:=fun{β:Type} {k:TVal→Heap→Option β} {h:Heap} {d:Nat}=>u54G (β:=β) (k:=k) (h:=h) (d:=d) s
 rw[w27_0,b27_0];simp (maxSteps:=9999999) +contextual only[exa,rA,rB,rD,rE,rF,rG,rH,rI,rJ,exY,qBz,qAe,qAd,qC8,qDU,qAW,c,oneOf]
theorem qBY{β:Type}{k:TVal→Heap→Option β}{h:Heap}{d:Nat}(r:Ref)(s:List UInt8)(e:Int)(hg:h.get r=some (rO s e)):vcall Om (.v (.c (.func 27 []))) [.v (.c (.ptr r 0))] h d k=k (.tup []) (h.put r (rO (trimB s) e)) :=
 qAq 27 r 0 [] [] _ _ _ rfl rfl hg (qAJ _ _) (qAJ _ _) rfl (qMM s e)
def txtV(s:List UInt8):VT := .mk 3 false 0 s .nil .nil
def qV:Option (List UInt8×List UInt8)→List UInt8
 |none=>[]
 |some (o,_)=>o
def qL(s:List UInt8):Option (List UInt8×List UInt8)→List UInt8
 |none=>s
 |some (_,r)=>r
def qE:Option (List UInt8×List UInt8)→Int
 |none=>11
 |some _=>0
theorem qQ9(s:List UInt8)(hs:s.length≤1073741824):Om 49 [P0] [rO s 0]=some (kS (qV (tGo s [])),[rO (qL s (tGo s [])) (qE (tGo s []))]):=by
 rw[qSJ s hs];cases tGo s [] with
 |none=>rfl
 |some p=>obtain⟨o,r⟩:=p; rfl
theorem u49{β:Type}{k:TVal→Heap→Option β}{h:Heap}{d:Nat}(r:Ref)(s:List UInt8)(hs:s.length≤1073741824)(hg:h.get r=some (rO s 0)):vcall Om (.v (.c (.func 49 []))) [.v (.c (.ptr r 0))] h d k=k (kS (qV (tGo s []))) (h.put r (rO (qL s (tGo s [])) (qE (tGo s [])))) :=
 qAq 49 r 0 [] [] _ _ _ rfl rfl hg (qAJ _ _) (qAJ _ _) rfl (qQ9 s hs)
theorem x71(o:List UInt8):Om 71 [kA (txtV o).row] []=some (kB false,[]):=(qAB rfl).trans (qBH blks_ok 300 71 0 0 _ _ _ (by kernel_rfl))
theorem x72:Om 72 [.v (.c (.p .nilslice))] []=some (kI 0,[]):=(qAB rfl).trans (qBH blks_ok 300 72 0 0 _ _ _ (by kernel_rfl))
def plainB(b:UInt8):Bool := !decide ((b.toNat:Int)<32) && !decide ((b.toNat:Int)=34) && !decide ((b.toNat:Int)=92)
theorem qLh(b d:UInt8)(t acc:List UInt8)(hb:plainB b=true):tGo (b::d::t) acc=tGo (d::t) (acc++[b]):=by
 unfold plainB at hb;simp only[Bool.and_eq_true,Bool.not_eq_true',decide_eq_false_iff_not] at hb;rw[tGo,if_neg (by omega),if_neg (by omega),if_neg (by omega)]
end Go.Proofs.YtiahgnkffnokfaaGreatDoor.Ab
namespace Go.AI
section
variable {β:Type} {O:Oracle} {h:Heap} {d:Nat} {k:TVal→Heap→Option β}
theorem qLK{sz by':Nat}{j lb:Nat}{capb:Option Nat}{ys:List Cell}{ib:Nat}(hb:lb≠0)(hm:lb*by'≤1099511627776)(gb:h.get (.im j)=some (.cells ys ib))(ly:ys.length=lb*sz) :
  vop O (.append sz by' true (.k (.v (.c (.p .nilslice)))) (.k (.v (.c (.sref (.im j) 0 lb capb sz))))) h d k=k (.v (.c (.sref (.im h.ims.length) 0 lb none sz))) (h.push (.cells ys 0)):=by
 have ea:appendTo sz by' true (.v (.c (.p .nilslice))) none ys lb=some ⟨fun r => .v (.c (.sref r 0 lb none sz)),[],some (.cells ys 0),true⟩:=by
  unfold appendTo;rw[if_neg hb];dsimp only;unfold freshRow;rw[if_pos rfl,if_pos (by omega)]
 show opK O _ .nil h d k=_;rw[qAw];have:slow O (.append sz by' true (.k (.v (.c (.p .nilslice)))) (.k (.v (.c (.sref (.im j) 0 lb capb sz))))) .nil h d=some (.v (.c (.sref (.im h.ims.length) 0 lb none sz)),h.push (.cells ys 0)):=by
  unfold slow;show((Plan.go [.im j] _).exec O d h).map _=_;simp only[Plan.exec,goOp,List.mapM_cons,List.mapM_nil,gb,Option.pure_def,rM,Option.bind_some,dstRef,srcRef,splitNeeds,qDk sz j lb capb ys ib ly,ea];rfl
 rw[this]; rfl
theorem qCO(q:Nat)(h:Heap)(fr:List Ref)(e:reach h fuelReach ((ims (q+1)).flatMap fun r=>match h.get r with|some o=>o.refs|none=>[]) (ims (q+1))=fr):vfin true (q+1) [] h=some (.tup [],fr.map fun r=>match h.get r with|some o=>o.ren (inn fr)|none => .dead):=by
 letI:Sym:=⟨fun _=>0⟩
 rw[qDL];unfold finV;simp only[oneOf,freezeT,List.mapM_nil,Option.pure_def,Option.map_some,List.flatMap_nil,settle,TVal.refs,List.append_nil,List.map_nil,TVal.ren,if_true,ite_self];subst e;rfl
end
end Go.AI
namespace Go.Proofs.YtiahgnkffnokfaaGreatDoor.Ab
open Go Go.AI
theorem qSH(s w t:List UInt8)(hw:trimB s=w++t):Om 79 [P0,kS w] [rO s 0]=some (.tup [],[rO t 0]):=by
 refine(qAB rfl).trans ?_;show lim tab.get S 79 1 0 [P0,kS w] { ims:=[rO s 0],owns := .nil }=_;have c27:=fun{β:Type} {k:TVal→Heap→Option β} {h:Heap} {d:Nat} (hg:h.get (.im 0)=some (rO s 0))=>qBY (β:=β) (k:=k) (h:=h) (d:=d) (.im 0) s 0 hg
 have c48:∀ {β:Type}{k:TVal→Heap→Option β}{h:Heap}{d:Nat},h.get (.im 0)=some (rO (trimB s) 0)→vcall Om (.v (.c (.func 48 []))) [P0,kS w] h d k=k (kB true) (h.put (.im 0) (rO t 0)):=fun{β k h d} hg=>by
  rw[u48 (.im 0) (trimB s) w hg,hw];simp
 rw[w79_0,b79_0,c27 (qBz s 0)];have g1:((Heap.mk [rO s 0] .nil).put (.im 0) (rO (trimB s) 0)).get (.im 0)=some (rO (trimB s) 0):=rfl;rw[c48 g1];simp (maxSteps:=9999999) +contextual only[exa,rA,rB,rD,rE,rF,rG,rH,rI,rJ,oneOf];rfl
theorem qGW{β:Type}{k:TVal→Heap→Option β}{h:Heap}{d:Nat}(r:Ref)(s w t:List UInt8)(hw:trimB s=w++t)(hg:h.get r=some (rO s 0)):vcall Om (.v (.c (.func 79 []))) [.v (.c (.ptr r 0)),kS w] h d k=k (.tup []) (h.put r (rO t 0)) :=
 qAq 79 r 0 [] [kS w] _ _ _ rfl rfl hg (qAJ _ _) (qAJ _ _) rfl (qSH s w t hw)
structure Ent (d:Int) (s:List UInt8) (key:List UInt8) (v:VT) (t:List UInt8):Prop where
 q:∃ q q2 q3,trimB s=[34]++q∧q.length≤1073741824∧tGo q []=some (key,q2)∧trimB q2=[58]++q3∧Om 26 [P0,kI (d+1)] [rO q3 0]=some (kA v.row,[rO t 0])
 hd:0≤d∧d≤100
abbrev boxO(i:Nat):AObj := .cells [.ptr (.im i) 0] 0
abbrev intO(d:Int):AObj := .cells [.p (.int .i64 d)] 0
def eRow(key:List UInt8)(v:VT):List PVal := .str key::v.row
def H4(a:List UInt8)(d:Int)(L:AObj):Heap := .mk [boxO 1,rO a 0,intO d,L] .nil
theorem H4_0(a:List UInt8)(d:Int)(L:AObj):(H4 a d L).get (.im 0)=some (boxO 1):=id rfl
theorem H4_1(a:List UInt8)(d:Int)(L:AObj):(H4 a d L).get (.im 1)=some (rO a 0):=id rfl
theorem H4_2(a:List UInt8)(d:Int)(L:AObj):(H4 a d L).get (.im 2)=some (intO d):=id rfl
theorem H4_3(a:List UInt8)(d:Int)(cs:List Cell)(i:Nat):(H4 a d (.cells cs i)).get (.im 3)=some (.cells cs i):=id rfl
theorem qS1(a b:List UInt8)(d:Int)(L:AObj):(H4 a d L).put (.im 1) (rO b 0)=H4 b d L:=id rfl
theorem qTD(a:List UInt8)(d:Int)(L L':AObj):(H4 a d L).put (.im 3) L'=H4 a d L':=id rfl
theorem H4_l(a:List UInt8)(d:Int)(L:AObj):(H4 a d L).ims.length=4:=id rfl
theorem qJ0(h:Heap)(d g:Nat)(o x:AObj)(i:Nat):(h.own d g o).put (.im i) x=(h.put (.im i) x).own d g o:=id rfl
theorem qRt(a:List UInt8)(d:Int)(L:AObj)(i:Nat):(H4 a d L).gen i=0:=id rfl
theorem qJs(h:Heap)(d g:Nat)(o:AObj):(h.own d g o).ims.length=h.ims.length:=id rfl
theorem push_len(h:Heap)(o:AObj):(h.push o).ims.length=h.ims.length+1:=by show(h.ims++[o]).length=_; simp
theorem qHn(h:Heap)(cs:List Cell)(i n:Nat)(hn:h.ims.length=n):(h.push (.cells cs i)).get (.im n)=some (.cells cs i):=by rw[← hn]; exact qHt h _ (fun e=>by cases e)
theorem qEp(h:Heap)(o:AObj)(i:Nat)(hi:i<h.ims.length):(h.push o).get (.im i)=h.get (.im i):=by
 unfold Heap.push Heap.get;simp only[List.getElem?_append_left hi]
theorem qIg(h:Heap)(o x:AObj)(i:Nat)(hi:i<h.ims.length):(h.push o).put (.im i) x=(h.put (.im i) x).push o:=by
 show Heap.mk ((h.ims++[o]).set i x) h.owns=Heap.mk (h.ims.set i x++[o]) h.owns;rw[List.set_append_left _ _ hi]
theorem qPd{β:Type}{k:TVal→Heap→Option β}{h:Heap}{d:Nat}(z c0 c1 c2 c3 c4 c5 c6:Cell)(zs:List Cell)(hz:zs.length=6):vop Om (.bslice 7 1 (z::zs) [(0,.k (.v (.agg [c0,c1,c2,c3,c4,c5,c6])))] true) h d k=k (.v (.c (.sref (.im h.ims.length) 0 1 (some 1) 7))) (h.push (.cells [c0,c1,c2,c3,c4,c5,c6] 0)):=by
 match zs,hz with
 |[z1,z2,z3,z4,z5,z6],_ =>
  show opK Om _ .nil h d k=_;rw[qAw]; rfl
theorem qPu(d:Int)(s key:List UInt8)(v:VT)(t:List UInt8)(E:Ent d s key v t) :
  Om 80 [P0,.v (.c (.ptr (.im 2) 0)),.v (.c (.ptr (.im 3) 0))] [boxO 1,rO s 0,intO d,.cells [.p .nilslice] 0] =
   some (.tup [],[boxO 1,rO t 0,intO d,.cells [.sref (.im 4) 0 1 none 7] 0,.cells (pcells (eRow key v)) 0]):=by
 obtain⟨⟨q,q2,q3,e1,el,e2,e3,e4⟩,hd⟩:=E;refine(qAB rfl).trans ?_;show lim tab.get S 80 4 0 [P0,.v (.c (.ptr (.im 2) 0)),.v (.c (.ptr (.im 3) 0))] (H4 s d (.cells [.p .nilslice] 0))=_;have c1:=fun{β:Type} {k:TVal→Heap→Option β} {h:Heap} {e:Nat} (hg:h.get (.im 1)=some (rO s 0))=>qGW (β:=β) (k:=k) (h:=h) (d:=e) (.im 1) s [34] q e1 hg
 have c2:=fun{β:Type} {k:TVal→Heap→Option β} {h:Heap} {e:Nat} (hg:h.get (.im 1)=some (rO q 0))=>u49 (β:=β) (k:=k) (h:=h) (d:=e) (.im 1) q el hg
 have c3:=fun{β:Type} {k:TVal→Heap→Option β} {h:Heap} {e:Nat} (hg:h.get (.im 1)=some (rO q2 0))=>qGW (β:=β) (k:=k) (h:=h) (d:=e) (.im 1) q2 [58] q3 e3 hg
 have c4:∀ {β:Type}{k:TVal→Heap→Option β}{h:Heap}{e:Nat},h.get (.im 1)=some (rO q3 0)→vcall Om (.v (.c (.func 26 []))) [.v (.c (.ptr (.im 1) 0)),kI (d+1)] h e k=k (kA v.row) (h.put (.im 1) (rO t 0)):=fun{β k h e} hg =>
  qAq 26 (.im 1) 0 [] [kI (d+1)] _ _ _ rfl rfl hg (qAJ _ _) (qAJ _ _) (by simp only[exP]) e4
 rw[e2] at c2;have ed:IntKind.i64.wrap (d+1)=d+1:=qAH _ (by omega) (by omega);obtain⟨a1,a2,a3,a4,a5,a6,hrow⟩:∃ a1 a2 a3 a4 a5 a6,v.row=[a1,a2,a3,a4,a5,a6]:=by cases v; exact⟨_,_,_,_,_,_,rfl⟩
 unfold eRow;rw[hrow] at c4 ⊢;have pr:pcells [a1,a2,a3,a4,a5,a6]=[.p a1,.p a2,.p a3,.p a4,.p a5,.p a6]:=rfl;have ap:=fun{β:Type} {k:TVal→Heap→Option β} {h:Heap} {e:Nat} (gb:h.get (.im 4)=some (.cells [.p (.str key),.p a1,.p a2,.p a3,.p a4,.p a5,.p a6] 0))=>qLK (O:=Om) (k:=k) (d:=e) (sz:=7) (by':=104) (lb:=1) (capb:=some 1) (by omega) (by omega) gb rfl
 rw[w80_0,b80_0];simp (maxSteps:=9999999) +contextual only[exa,rA,rB,rD,rE,rF,rG,rH,rI,rJ,exY,H4_0,H4_1,H4_2,H4_3,qS1,qTD,H4_l,qJ0,qAe,qAd,qAW,c1,c2,c3,c4,qV,qL,qE,ed,if_false,pr,qPd,qRt,qJs,push_len,qHn,qIg,qEp,ap,oneOf];exact(qCO 3 _ [.im 0,.im 1,.im 2,.im 3,.im 5] rfl).trans rfl
def H5(a:List UInt8)(d:Int)(L E:AObj):Heap := .mk [boxO 1,rO a 0,intO d,L,E] .nil
theorem H5_0(a:List UInt8)(d:Int)(L E:AObj):(H5 a d L E).get (.im 0)=some (boxO 1):=id rfl
theorem H5_1(a:List UInt8)(d:Int)(L E:AObj):(H5 a d L E).get (.im 1)=some (rO a 0):=id rfl
theorem H5_2(a:List UInt8)(d:Int)(L E:AObj):(H5 a d L E).get (.im 2)=some (intO d):=id rfl
theorem H5_3(a:List UInt8)(d:Int)(cs:List Cell)(i:Nat)(E:AObj):(H5 a d (.cells cs i) E).get (.im 3)=some (.cells cs i):=id rfl
theorem H5_4(a:List UInt8)(d:Int)(cs:List Cell)(i:Nat)(L:AObj):(H5 a d L (.cells cs i)).get (.im 4)=some (.cells cs i):=id rfl
theorem qS7(a b:List UInt8)(d:Int)(L E:AObj):(H5 a d L E).put (.im 1) (rO b 0)=H5 b d L E:=id rfl
theorem qSe(a:List UInt8)(d:Int)(L L' E:AObj):(H5 a d L E).put (.im 3) L'=H5 a d L' E:=id rfl
theorem qTB(a:List UInt8)(d:Int)(L E E':AObj):(H5 a d L E).put (.im 4) E'=H5 a d L E':=id rfl
theorem H5_l(a:List UInt8)(d:Int)(L E:AObj):(H5 a d L E).ims.length=5:=id rfl
theorem qRe(a:List UInt8)(d:Int)(L E:AObj)(i:Nat):(H5 a d L E).gen i=0:=id rfl
theorem qOt(n:Nat)(xs:List PVal)(hx:xs.length=n*7)(hn:n≤100000)(d:Int)(s key:List UInt8)(v:VT)(t:List UInt8)(E:Ent d s key v t) :
  Om 80 [P0,.v (.c (.ptr (.im 2) 0)),.v (.c (.ptr (.im 3) 0))] [boxO 1,rO s 0,intO d,.cells [.sref (.im 4) 0 n none 7] 0,.cells (pcells xs) 0] =
   some (.tup [],[boxO 1,rO t 0,intO d,.cells [.sref (.im 5) 0 (n+1) none 7] 0,.dead,.cells (pcells (xs++eRow key v)) 0]):=by
 obtain⟨⟨q,q2,q3,e1,el,e2,e3,e4⟩,hd⟩:=E;refine(qAB rfl).trans ?_;show lim tab.get S 80 5 0 [P0,.v (.c (.ptr (.im 2) 0)),.v (.c (.ptr (.im 3) 0))] (H5 s d (.cells [.sref (.im 4) 0 n none 7] 0) (.cells (pcells xs) 0))=_;have c1:=fun{β:Type} {k:TVal→Heap→Option β} {h:Heap} {e:Nat} (hg:h.get (.im 1)=some (rO s 0))=>qGW (β:=β) (k:=k) (h:=h) (d:=e) (.im 1) s [34] q e1 hg
 have c2:=fun{β:Type} {k:TVal→Heap→Option β} {h:Heap} {e:Nat} (hg:h.get (.im 1)=some (rO q 0))=>u49 (β:=β) (k:=k) (h:=h) (d:=e) (.im 1) q el hg
 have c3:=fun{β:Type} {k:TVal→Heap→Option β} {h:Heap} {e:Nat} (hg:h.get (.im 1)=some (rO q2 0))=>qGW (β:=β) (k:=k) (h:=h) (d:=e) (.im 1) q2 [58] q3 e3 hg
 have c4:∀ {β:Type}{k:TVal→Heap→Option β}{h:Heap}{e:Nat},h.get (.im 1)=some (rO q3 0)→vcall Om (.v (.c (.func 26 []))) [.v (.c (.ptr (.im 1) 0)),kI (d+1)] h e k=k (kA v.row) (h.put (.im 1) (rO t 0)):=fun{β k h e} hg =>
  qAq 26 (.im 1) 0 [] [kI (d+1)] _ _ _ rfl rfl hg (qAJ _ _) (qAJ _ _) (by simp only[exP]) e4
 rw[e2] at c2;have ed:IntKind.i64.wrap (d+1)=d+1:=qAH _ (by omega) (by omega);obtain⟨a1,a2,a3,a4,a5,a6,hrow⟩:∃ a1 a2 a3 a4 a5 a6,v.row=[a1,a2,a3,a4,a5,a6]:=by cases v; exact⟨_,_,_,_,_,_,rfl⟩
 unfold eRow;rw[hrow] at c4 ⊢;have pr:pcells [a1,a2,a3,a4,a5,a6]=[.p a1,.p a2,.p a3,.p a4,.p a5,.p a6]:=rfl;have ap:=fun{β:Type} {k:TVal→Heap→Option β} {h:Heap} {e:Nat} (ga:h.get (.im 4)=some (.cells (pcells xs) 0)) (gb:h.get (.im 5)=some (.cells [.p (.str key),.p a1,.p a2,.p a3,.p a4,.p a5,.p a6] 0))=>qKQ (O:=Om) (k:=k) (d:=e) (sz:=7) (by':=104) (la:=n) (lb:=1) (capb:=some 1) (by omega) (by omega) ga gb (by rw[qAM,hx]) rfl
 rw[w80_0,b80_0];simp (maxSteps:=9999999) +contextual only[exa,rA,rB,rD,rE,rF,rG,rH,rI,rJ,exY,H5_0,H5_1,H5_2,H5_3,H5_4,qTB,qS7,qSe,H5_l,qJ0,qAe,qAd,qAW,c1,c2,c3,c4,qV,qL,qE,ed,if_false,pr,qPd,qRe,qJs,push_len,qHn,qIg,qEp,ap,oneOf];have pa:pcells xs++[.p (.str key),.p a1,.p a2,.p a3,.p a4,.p a5,.p a6]=pcells (xs++[.str key,a1,a2,a3,a4,a5,a6]):=by unfold pcells; simp
 rw[pa];have pl:=qAI (xs++[.str key,a1,a2,a3,a4,a5,a6]) 0;generalize pcells (xs++[.str key,a1,a2,a3,a4,a5,a6])=Y at pl;refine(qCO 4 _ [.im 0,.im 1,.im 2,.im 3,.im 4,.im 6] ?_).trans ?_
 ·show reach _ (397+1+1+1) [.im 1,.im 6] (ims 5)=_;rw[qAu _ _ _ _ (by decide),qAE _ (.im 6) [] (ims 5) (.cells Y 0) (by decide) rfl,pl.1];rfl
 ·show some (TVal.tup [],[boxO 1,rO t 0,intO d,AObj.cells [Cell.sref (Ref.im 5) 0 (n+1) none 7] 0,AObj.dead,(AObj.cells Y 0).ren (inn [.im 0,.im 1,.im 2,.im 3,.im 4,.im 6])])=_;rw[pl.2]
theorem qF3{β:Type}{O:Oracle}{k:TVal→Heap→Option β}{h:Heap}{d:Nat}(g:FuncId)(a b c:Ref):vcall O (.v (.c (.func g [a,b,c]))) [] h d k=vcall O (.v (.c (.func g []))) [.v (.c (.ptr a 0)),.v (.c (.ptr b 0)),.v (.c (.ptr c 0))] h d k:=rfl
structure St0 (h:Heap) (s:List UInt8) (d:Int):Prop where
 g0:h.get (.im 0)=some (rO s 0)
 g1:h.get (.im 1)=some (boxO 0)
 g2:h.get (.im 2)=some (intO d)
 g3:h.get (.im 3)=some (.cells [.p .nilslice] 0)
structure St1 (h:Heap) (s:List UInt8) (d:Int) (n:Nat) (xs:List PVal) (j:Nat):Prop where
 g0:h.get (.im 0)=some (rO s 0)
 g1:h.get (.im 1)=some (boxO 0)
 g2:h.get (.im 2)=some (intO d)
 hj:4≤j
 g3:h.get (.im 3)=some (.cells [.sref (.im j) 0 n none 7] 0)
 gj:h.get (.im j)=some (.cells (pcells xs) 0)
 hx:xs.length=n*7
 hn:n≤90000
theorem St0.put{h:Heap}{s t:List UInt8}{d:Int}(A:St0 h s d):St0 (h.put (.im 0) (rO t 0)) t d :=
 ⟨Heap.zput_self A.g0 (fun e=>by cases e),(Heap.zput_ne A.g0 (by decide)).trans A.g1,(Heap.zput_ne A.g0 (by decide)).trans A.g2,(Heap.zput_ne A.g0 (by decide)).trans A.g3⟩
theorem St1.put{h:Heap}{s t:List UInt8}{d:Int}{n:Nat}{xs:List PVal}{j:Nat}(A:St1 h s d n xs j):St1 (h.put (.im 0) (rO t 0)) t d n xs j :=
 ⟨Heap.zput_self A.g0 (fun e=>by cases e),(Heap.zput_ne A.g0 (by decide)).trans A.g1,(Heap.zput_ne A.g0 (by decide)).trans A.g2,A.hj,(Heap.zput_ne A.g0 (by decide)).trans A.g3,(Heap.zput_ne A.g0 (fun e=>by cases e; have:=A.hj; omega)).trans A.gj,A.hx,A.hn⟩
theorem qRB{h:Heap}{s key t:List UInt8}{v:VT}{d:Int}(A:St0 h s d)(E:Ent d s key v t) :
  ∃ h' j,(∀ {β:Type}(e:Nat)(k:TVal→Heap→Option β),vcall Om (.v (.c (.func 80 [.im 1,.im 2,.im 3]))) [] h e k=k (.tup []) h')∧St1 h' t d 1 (eRow key v) j:=by
 have n0:(Ref.im 0)∉([.im 1]:List Ref):=by decide
 have hr:reach h fuelReach ([.v (.c (.ptr (.im 1) 0)),.v (.c (.ptr (.im 2) 0)),.v (.c (.ptr (.im 3) 0))].flatMap TVal.refs) []=[.im 1,.im 0,.im 2,.im 3]:=by
  show reach h (395+1+1+1+1+1) [.im 1,.im 2,.im 3] []=_;rw[qAE _ (.im 1) _ _ _ (by decide) A.g1];show reach h (395+1+1+1+1) [.im 0,.im 2,.im 3] [.im 1]=_;rw[qAE _ (.im 0) _ _ _ (by decide) A.g0];show reach h (395+1+1+1) [.im 2,.im 3] [.im 1,.im 0]=_;rw[qAE _ (.im 2) _ _ _ (by decide) A.g2];show reach h (395+1+1) [.im 3] [.im 1,.im 0,.im 2]=_;rw[qAE _ (.im 3) _ _ _ (by decide) A.g3];exact qAX _ _
 have hm:([.im 1,.im 0,.im 2,.im 3]:List Ref).mapM h.get=some [boxO 0,rO s 0,intO d,.cells [.p .nilslice] 0]:=by
  simp only[List.mapM_cons,List.mapM_nil,A.g0,A.g1,A.g2,A.g3,Option.pure_def,rM,Option.bind_some]
 have pl:=qAI (eRow key v) 0;obtain⟨h',hc,B⟩:=qBo (O:=Om) (h:=h) 80 [.v (.c (.ptr (.im 1) 0)),.v (.c (.ptr (.im 2) 0)),.v (.c (.ptr (.im 3) 0))] _ [P0,.v (.c (.ptr (.im 2) 0)),.v (.c (.ptr (.im 3) 0))] _ _ _ _ _ (.tup []) rfl hr hm rfl rfl (qPu d s key v t E) (show(4:Nat)≤5 by decide) (by decide) rfl;refine⟨h',h.ims.length+0,fun e k=>(qF3 80 _ _ _).trans (hc e k),?_⟩;have hl:4≤h.ims.length:=by
  have:=(Heap.get_im_some A.g3).1;have:=(List.getElem?_eq_some_iff.1 this).1;omega
 exact⟨B.own 1 (.im 0) _ rfl rfl (fun e=>by cases e),B.own 0 (.im 1) _ rfl rfl (fun e=>by cases e),B.own 2 (.im 2) _ rfl rfl (fun e=>by cases e),by omega,B.own 3 (.im 3) _ rfl rfl (fun e=>by cases e),
  B.new 0 (.cells (pcells (eRow key v)) 0) (congrArg some (pl.2 _)) (fun e=>by cases e),by unfold eRow; simp[VT.row_len],by omega⟩
theorem qS5{j:Nat}(hj:4≤j):inn [.im 1,.im 0,.im 2,.im 3,.im j] (.im j)=some (.im 4):=by
 have ne:∀ i:Nat,i<4→decide (Ref.im j=Ref.im i)=false:=fun i hi=>decide_eq_false (fun e=>by cases e; omega)
 unfold inn;simp only[idx,ne 1 (by decide),ne 0 (by decide),ne 2 (by decide),ne 3 (by decide),cond_false,decide_true,cond_true];rfl
theorem qNz{h:Heap}{s key t:List UInt8}{v:VT}{d:Int}{n j:Nat}{xs:List PVal}(A:St1 h s d n xs j)(hn:n≤80000)(E:Ent d s key v t) :
  ∃ h' j,(∀ {β:Type}(e:Nat)(k:TVal→Heap→Option β),vcall Om (.v (.c (.func 80 [.im 1,.im 2,.im 3]))) [] h e k=k (.tup []) h')∧St1 h' t d (n+1) (xs++eRow key v) j:=by
 have hj:=A.hj;have nj:∀ i:Nat,i<4→Ref.im j≠Ref.im i:=fun i hi e=>by cases e; omega
 have nm:Ref.im j∉([.im 1,.im 0,.im 2,.im 3]:List Ref):=by
  simp only[List.mem_cons,List.not_mem_nil,or_false,not_or];exact⟨nj 1 (by decide),nj 0 (by decide),nj 2 (by decide),nj 3 (by decide)⟩
 have pl:=qAI (xs++eRow key v) 0;have px:=qAI xs 0;have hr:reach h fuelReach ([.v (.c (.ptr (.im 1) 0)),.v (.c (.ptr (.im 2) 0)),.v (.c (.ptr (.im 3) 0))].flatMap TVal.refs) []=[.im 1,.im 0,.im 2,.im 3,.im j]:=by
  show reach h (394+1+1+1+1+1+1) [.im 1,.im 2,.im 3] []=_;rw[qAE _ (.im 1) _ _ _ (by decide) A.g1];show reach h (394+1+1+1+1+1) [.im 0,.im 2,.im 3] [.im 1]=_;rw[qAE _ (.im 0) _ _ _ (by decide) A.g0];show reach h (394+1+1+1+1) [.im 2,.im 3] [.im 1,.im 0]=_;rw[qAE _ (.im 2) _ _ _ (by decide) A.g2];show reach h (394+1+1+1) [.im 3] [.im 1,.im 0,.im 2]=_;rw[qAE _ (.im 3) _ _ _ (by decide) A.g3];show reach h (394+1+1) [.im j] [.im 1,.im 0,.im 2,.im 3]=_;rw[qAE _ (.im j) _ _ _ nm A.gj,px.1];exact qAX _ _
 have hm:([.im 1,.im 0,.im 2,.im 3,.im j]:List Ref).mapM h.get=some [boxO 0,rO s 0,intO d,.cells [.sref (.im j) 0 n none 7] 0,.cells (pcells xs) 0]:=by
  simp only[List.mapM_cons,List.mapM_nil,A.g0,A.g1,A.g2,A.g3,A.gj,Option.pure_def,rM,Option.bind_some]
 have e5:([boxO 0,rO s 0,intO d,.cells [.sref (.im j) 0 n none 7] 0,.cells (pcells xs) 0]:List AObj).map (AObj.ren (inn [.im 1,.im 0,.im 2,.im 3,.im j]))=[boxO 1,rO s 0,intO d,.cells [.sref (.im 4) 0 n none 7] 0,.cells (pcells xs) 0]:=by
  show [boxO 1,rO s 0,intO d,AObj.cells [match inn [.im 1,.im 0,.im 2,.im 3,.im j] (.im j) with|some s => .sref s 0 n none 7|none => .junk] 0,(AObj.cells (pcells xs) 0).ren _]=_;rw[qS5 hj,px.2]
 have hnd:([.im 1,.im 0,.im 2,.im 3,.im j]:List Ref).Nodup:=by
  have:([.im 1,.im 0,.im 2,.im 3]:List Ref).Nodup:=by decide
  rw[show([.im 1,.im 0,.im 2,.im 3,.im j]:List Ref)=[.im 1,.im 0,.im 2,.im 3]++[.im j] from rfl,List.nodup_append];refine⟨this,by simp,?_⟩;intro a ha b hb e;rw[List.mem_singleton.1 hb] at e;exact nm (e▸ha)
 obtain⟨h',hc,B⟩:=qBo (O:=Om) (h:=h) 80 [.v (.c (.ptr (.im 1) 0)),.v (.c (.ptr (.im 2) 0)),.v (.c (.ptr (.im 3) 0))] _ [P0,.v (.c (.ptr (.im 2) 0)),.v (.c (.ptr (.im 3) 0))] _ _ _ _ _ (.tup []) rfl hr hm rfl e5 (qOt n xs A.hx (by have:=A.hn; omega) d s key v t E) (show(5:Nat)≤6 by decide) hnd rfl;refine⟨h',h.ims.length+0,fun e k=>(qF3 80 _ _ _).trans (hc e k),?_⟩;have hl:4≤h.ims.length:=by
  have:=(Heap.get_im_some A.g3).1;have:=(List.getElem?_eq_some_iff.1 this).1;omega
 exact⟨B.own 1 (.im 0) _ rfl rfl (fun e=>by cases e),B.own 0 (.im 1) _ rfl rfl (fun e=>by cases e),B.own 2 (.im 2) _ rfl rfl (fun e=>by cases e),by omega,B.own 3 (.im 3) _ rfl rfl (fun e=>by cases e),
  B.new 0 (.cells (pcells (xs++eRow key v)) 0) (congrArg some (pl.2 _)) (fun e=>by cases e),by have:=A.hx; unfold eRow; simp[VT.row_len]; omega,by omega⟩
inductive Tail (d:Int):List UInt8→List (List UInt8×VT)→List UInt8→Prop
 |done (t:List UInt8):Tail d (125::t) [] t
 |more (u s1 t key:List UInt8) (v:VT) (es:List (List UInt8×VT)) (E:Ent d u key v s1) (T:Tail d (trimB s1) es t):Tail d (44::u) ((key,v)::es) t
def eRows(es:List (List UInt8×VT)):List PVal:=es.flatMap fun p=>eRow p.1 p.2
theorem qDi:∀ s:List UInt8,trimB (trimB s)=trimB s
 |[]=>rfl
 |b::s=>by
  by_cases h:isBl b.toNat=true
  ·rw[trimB,if_pos h]; exact qDi s
  ·rw[trimB,if_neg h,trimB,if_neg h]
theorem qCl{b:UInt8}(s:List UInt8)(h:isBl b.toNat=false):trimB (b::s)=b::s:=by rw[trimB,h]; rfl
abbrev F80:TVal := .v (.c (.func 80 [.im 1,.im 2,.im 3]))
theorem qQv{h:Heap}{t:List UInt8}{d:Int}{n j:Nat}{xs:List PVal}(A:St1 h (125::t) d n xs j) :
  lim tab.get S 50 4 2 [P0,kS [125]] h=some (.tup [],[rO t 0,boxO 0,intO d,.cells [.sref (.im 4) 0 n none 7] 0,.cells (pcells xs) 0]):=by
 have hj:=A.hj;rw[w50_2,b50_2,qGW (.im 0) (125::t) [125] t rfl A.g0];have B:=A.put (t:=t);have px:=qAI xs 0;have nm:Ref.im j∉(ims 4:List Ref):=by
  show Ref.im j∉[.im 0,.im 1,.im 2,.im 3];simp only[List.mem_cons,List.not_mem_nil,or_false,not_or,Ref.im.injEq];omega
 generalize h.put (.im 0) (rO t 0)=h at B;have e:(ims (3+1)).flatMap (fun r=>match h.get r with|some o=>o.refs|none=>[])=[.im 0,.im j]:=by
  show([.im 0,.im 1,.im 2,.im 3]:List Ref).flatMap _=_;simp only[List.flatMap_cons,List.flatMap_nil,B.g0,B.g1,B.g2,B.g3];rfl
 refine(qCO 3 h [.im 0,.im 1,.im 2,.im 3,.im j] ?_).trans ?_
 ·refine(congrArg (fun l=>reach h fuelReach l (ims 4)) e).trans ?_;show reach h (397+1+1+1) [.im 0,.im j] (ims 4)=_;rw[qAu _ _ _ _ (by decide),qAE _ (.im j) [] (ims 4) _ nm B.gj,px.1];exact qAX _ _
 ·have ij:inn [.im 0,.im 1,.im 2,.im 3,.im j] (.im j)=some (.im 4):=by
   have ne:∀ i:Nat,i<4→decide (Ref.im j=Ref.im i)=false:=fun i hi=>decide_eq_false (fun e=>by cases e; omega)
   unfold inn;simp only[idx,ne 1 (by decide),ne 0 (by decide),ne 2 (by decide),ne 3 (by decide),cond_false,decide_true,cond_true];rfl
  simp only[List.map_cons,List.map_nil,B.g0,B.g1,B.g2,B.g3,B.gj,px.2];show some (TVal.tup [],[rO t 0,boxO 0,intO d,AObj.cells [match inn [.im 0,.im 1,.im 2,.im 3,.im j] (.im j) with|some s => .sref s 0 n none 7|none => .junk] 0,AObj.cells (pcells xs) 0])=_;rw[ij]
theorem qOY{d:Int}:∀ {u t:List UInt8}{es:List (List UInt8×VT)},Tail d u es t→∀ (h:Heap) (n j:Nat) (xs:List PVal),St1 h u d n xs j→n+es.length≤80000 →
  lim tab.get S 50 4 1 [P0,kS [125],F80] h=some (.tup [],[rO t 0,boxO 0,intO d,.cells [.sref (.im 4) 0 (n+es.length) none 7] 0,.cells (pcells (xs++eRows es)) 0]):=by
 intro u t es T
 induction T with
 |done t =>
  intro h n j xs A hn;rw[w50_1,b50_1,qCA (125::t) [44] A.g0 (by simp),qCr,qQv A];simp[eRows]
 |more u s1 t key v es E T ih =>
  intro h n j xs A hn;have hn:n+(es.length+1)≤80000:=hn;have tk:(44::u).take ([44]:List UInt8).length=[44]:=rfl;rw[w50_1,b50_1,u48 (.im 0) (44::u) [44] A.g0,if_pos tk,decide_eq_true tk,qB0];show vcall Om F80 [] (h.put (.im 0) (rO u 0)) 20 _=_;obtain⟨h1,j1,hc,B⟩:=qNz (A.put (t:=u)) (by omega) E;rw[hc,qBY (.im 0) s1 0 B.g0];have:=ih (h1.put (.im 0) (rO (trimB s1) 0)) (n+1) j1 (xs++eRow key v) B.put (by omega);rw[show n+1+es.length=n+(es.length+1) by omega] at this;refine this.trans ?_;simp[eRows]
theorem qPL{d:Int}{s key t:List UInt8}{v:VT}(E:Ent d s key v t):∃ q,trimB s=34::q:=by
 obtain⟨⟨q,_,_,e,_⟩,_⟩:=E;exact⟨q,e⟩
theorem qNb(s s1 t key:List UInt8)(v:VT)(d:Int)(es:List (List UInt8×VT))(E:Ent d (trimB s) key v s1)(T:Tail d (trimB s1) es t)(hn:es.length≤1000) :
  Om 50 [P0,kS [125],F80] [rO s 0,boxO 0,intO d,.cells [.p .nilslice] 0]=some (.tup [],[rO t 0,boxO 0,intO d,.cells [.sref (.im 4) 0 (1+es.length) none 7] 0,.cells (pcells (eRows ((key,v)::es))) 0]):=by
 refine(qAB rfl).trans ?_;show lim tab.get S 50 4 0 [P0,kS [125],F80] (Heap.mk [rO s 0,boxO 0,intO d,.cells [.p .nilslice] 0] .nil)=_;have A:St0 (Heap.mk [rO s 0,boxO 0,intO d,.cells [.p .nilslice] 0] .nil) s d:=⟨rfl,rfl,rfl,rfl⟩;generalize Heap.mk [rO s 0,boxO 0,intO d,.cells [.p .nilslice] 0] .nil=h at A;obtain⟨q,hq⟩:=qPL E;rw[qDi] at hq;have A1:=A.put (t:=trimB s);rw[w50_0,b50_0,qBY (.im 0) s 0 A.g0,qCA (trimB s) [125] A1.g0 (by rw[hq]; simp),qCr];obtain⟨h1,j1,hc,B⟩:=qRB A1 E;rw[hc,qBY (.im 0) s1 0 B.g0];refine(qOY T (h1.put (.im 0) (rO (trimB s1) 0)) 1 j1 (eRow key v) B.put (by omega)).trans ?_;rfl
theorem qOd(s t:List UInt8)(d:Int)(hs:trimB s=125::t) :
  Om 50 [P0,kS [125],F80] [rO s 0,boxO 0,intO d,.cells [.p .nilslice] 0]=some (.tup [],[rO t 0,boxO 0,intO d,.cells [.p .nilslice] 0]):=by
 refine(qAB rfl).trans ?_;show lim tab.get S 50 4 0 [P0,kS [125],F80] (Heap.mk [rO s 0,boxO 0,intO d,.cells [.p .nilslice] 0] .nil)=_;have A:St0 (Heap.mk [rO s 0,boxO 0,intO d,.cells [.p .nilslice] 0] .nil) s d:=⟨rfl,rfl,rfl,rfl⟩;generalize Heap.mk [rO s 0,boxO 0,intO d,.cells [.p .nilslice] 0] .nil=h at A;have A1:=A.put (t:=trimB s);rw[hs] at A1;have tk:(125::t).take ([125]:List UInt8).length=[125]:=rfl;rw[w50_0,b50_0,qBY (.im 0) s 0 A.g0,hs,u48 (.im 0) (125::t) [125] A1.g0,if_pos tk,decide_eq_true tk,qB0];have A2:=A1.put (t:=t);show vfin true 4 [] ((h.put (.im 0) (rO (125::t) 0)).put (.im 0) (rO t 0))=_;generalize (h.put (.im 0) (rO (125::t) 0)).put (.im 0) (rO t 0)=h at A2;have e:(ims (3+1)).flatMap (fun r=>match h.get r with|some o=>o.refs|none=>[])=[.im 0]:=by
  show([.im 0,.im 1,.im 2,.im 3]:List Ref).flatMap _=_;simp only[List.flatMap_cons,List.flatMap_nil,A2.g0,A2.g1,A2.g2,A2.g3];rfl
 refine(qCO 3 h [.im 0,.im 1,.im 2,.im 3] ?_).trans ?_
 ·refine(congrArg (fun l=>reach h fuelReach l (ims 4)) e).trans ?_;show reach h (398+1+1) [.im 0] (ims 4)=_;rw[qAu _ _ _ _ (by decide)];exact qAX _ _
 ·simp only[List.map_cons,List.map_nil,A2.g0,A2.g1,A2.g2,A2.g3];rfl
end Go.Proofs.YtiahgnkffnokfaaGreatDoor.Ab
