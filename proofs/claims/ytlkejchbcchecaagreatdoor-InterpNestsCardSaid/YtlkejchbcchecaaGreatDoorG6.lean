/- The rules,the contracts,the plain laws that lead to the statement. Own work. Condition: what each theorem names. -/
import Derived.Test.YtlkejchbcchecaaGreatDoorG5
import Derived.RangeFuncBox
import Derived.RangeFuncLeaves
import Derived.Shelf.Abstract
import Derived.WalkKit
import Derived.OwnWalkIn
import Derived.TacticsInMore
import Derived.LoopNIn
import Derived.LoopIn
import Derived.RegionIn
import Derived.RangeFuncCalls
import Derived.Lib.Bytealg
import Derived.Shelf.RegionOpen
set_option linter.all false
set_option linter.unusedVariables false
set_option linter.unusedSimpArgs false
set_option linter.unusedSectionVars false
set_option maxRecDepth 100000
set_option maxHeartbeats 4000000
open Nat renaming reduceAdd→rA,reduceMul→rB,reduceLT→rC,reduceLeDiff→rD,reduceEqDiff→rE
open Int renaming reduceLT→rF,reduceLE→rG,reduceEq→rH,reduceToNat→rI
namespace Go.AI
theorem qFS{S1 S2:Oracle}{f:FuncId}{a:List TVal}{o:List AObj}{r:TVal×List AObj}(h:S1 f a o=some r):orS S1 S2 f a o=some r:=by
 unfold orS; rw[h]
theorem qCV{S1 S2:Oracle}{f:FuncId}{a:List TVal}{o:List AObj}(h:S1 f a o=none):orS S1 S2 f a o=S2 f a o:=by
 unfold orS; rw[h]
noncomputable abbrev oneZ(f:FuncId)(args:List TVal)(objs:List AObj)(r:TVal×List AObj):Oracle:=addZ f args objs r fun _ _ _=>none
theorem qEV{f:FuncId}{args:List TVal}{objs:List AObj}{r:TVal×List AObj}:oneZ f args objs r f args objs=some r:=by
 show addZ f args objs r _ f args objs=_;unfold addZ; rw[if_pos ⟨rfl,rfl,rfl⟩]
theorem qB5{f:FuncId}{args:List TVal}{objs:List AObj}{r:TVal×List AObj}{g:FuncId}{a:List TVal}{o:List AObj}(h:¬ (g=f∧a=args∧o=objs)):oneZ f args objs r g a o=none:=by
 show addZ f args objs r _ g a o=_;unfold addZ; rw[if_neg h]
theorem qMC{f:FuncId}{args:List TVal}{objs:List AObj}{r:TVal×List AObj}{S:Oracle}{W:Mach}:orc (addZ f args objs r S) W f args objs=some r:=by
 have:addZ f args objs r S f args objs=some r:=by unfold addZ; rw[if_pos ⟨rfl,rfl,rfl⟩]
 show Option.rec (motive:=fun _=>Res1) _ some (addZ f args objs r S f args objs)=some r;rw[this]
end Go.AI
namespace Go.Proofs.YtlkejchbcchecaaGreatDoor.Ab
open Go Go.AI
theorem n7:labsB c7=true:=by kernel_rfl
theorem n8:labsB c8=true:=by kernel_rfl
theorem n12:labsB c12=true:=by kernel_rfl
theorem n4:labsB c4=true:=by kernel_rfl
theorem qP5(N:Nat)(hN:N<10):isTree N (runT N)=true:=by
 rcases N with _|_|_|_|_|_|_|_|_|_|N
 ·exact tr0
 ·exact tr1
 ·exact tr2
 ·exact tr3
 ·exact tr4
 ·exact tr5
 ·exact tr6
 ·exact tr7
 ·exact tr8
 ·exact tr9
 ·omega
noncomputable def is15(r:Res1):Bool:=match r with
 |some (v,[])=>tvB v (.tup [.c (.p (.str [])),.c (.p (.int .i64 15))])
 |_=>false
theorem qNm{r:Res1}(h:is15 r=true):r=some (.tup [.c (.p (.str [])),.c (.p (.int .i64 15))],[]):=by
 unfold is15 at h;split at h
 ·rw[qE6 _ _ h]
 ·cases h
theorem qLI:Om 12 [kS zfa8d5996,kS [49],kNil] []=some (.tup [.c (.p (.str [])),.c (.p (.int .i64 15))],[]):=(qAE rfl).trans (qAc blks_ok 3000 12 0 0 _ _ _ (qNm (by kernel_rfl)))
theorem qMr:((List.range 10).all fun N=>Option.rec (motive:=fun _=>Bool) false (fun b=>Nat.beq b.toNat 97) (textN N)[24]?)=true:=by kernel_rfl
theorem qO9(N:Nat)(hN:N<10):zfa8d5996≠textN N:=by
 intro e;have h:=List.all_eq_true.1 qMr N (List.mem_range.2 hN);rw[← e] at h;revert h;decide
theorem smI(n:Int):smV (vI n):=(qEv _).2 ⟨by show 0≤100000; decide,by show 0≤1000; decide,by show 0≤1000; decide,fun x hx=>by cases hx⟩
theorem ownI(n:Int):ownV (vI n)=vI n:=by rw[qIN]; rfl
section
variable [Sym] {G:Nat→Option (List PVal)}
theorem nests_sound(hm:Tryz.prog.follows .mixedOrders=true)(hT:TabM Tryz.prog G tab.get)(hS:FSound Tryz.prog G S)(a v:Int)(hv : -9223372036854775808≤v∧v≤9223372036854775807):FSound Tryz.prog G (addZ 4 [.pv (.int .i64 a),.pv (.int .i64 v)] [] (kB true,[]) S):=by
 have hO:FSound Tryz.prog G Om:=qDl hm hT hS;have hw:=qK2 a 10 (by decide);obtain⟨N,hN⟩:∃ N:Nat,wiM a 10=(N:Int):=⟨(wiM a 10).toNat,by omega⟩;have hN':N<10:=by omega
 have S7:FSound Tryz.prog G (oneZ 7 [kS (textN N)] [] (.tup [.c (.p (treeN N)),.c (.p (.int .i64 0)),.c (.p (.int .i64 0))],[])) :=
  qBg hm qCJ hO hT k7 (qCZ n7) (Z:=Zp) (zapE_ok _) (qNk (qP5 N hN'))
 obtain⟨A,SA,RA⟩:=qOL hm hT hS N hN' v hv;obtain⟨b,l,hbl⟩:∃ b l,outsD N v++[49]=b::l:=by
  cases ho:outsD N v with
  |nil=>exact⟨_,_,rfl⟩
  |cons b l=>exact⟨_,_,rfl⟩
 rw[hbl] at RA;obtain⟨qs,hq,hql⟩:=qPm (A:=A) N (vI v) (smI v) b l _ false ([.str [],.slice 9 false mainR]::defsJ N) [] (.slice 9 false mainR) rfl rfl rfl (by rw[ownI]; exact RA);have S8:FSound Tryz.prog G (oneZ 8 [.v (.c (.p (treeN N))),aC (vC (vI v)),kP (.im 0),aC limN] clC (_,qs)):=qBg hm qCJ (qGs hm hT hS SA) hT k8 (qCZ n8) zapN_ok hq;generalize hB7:oneZ 7 [kS (textN N)] [] (.tup [.c (.p (treeN N)),.c (.p (.int .i64 0)),.c (.p (.int .i64 0))],[])=B7 at S7;generalize hB8:oneZ 8 [.v (.c (.p (treeN N))),aC (vC (vI v)),kP (.im 0),aC limN] clC (_,qs)=B8 at S8;have far:∀ g xs os,g≠7→g≠8→orS B7 (orS B8 Om) g xs os=Om g xs os:=fun g xs os h7 h8=>by
  rw[qCV (by rw[← hB7]; exact qB5 fun e=>h7 e.1),qCV (by rw[← hB8]; exact qB5 fun e=>h8 e.1)]
 have S12:FSound Tryz.prog G (orS B7 (orS B8 Om)):=qB7 S7 (qB7 S8 hO);have e12:=qQa (O:=orS B7 (orS B8 Om)) (textN N) (Lib.itoa v) (treeN N) v b l _
  (qFS (by rw[← hB7]; exact qEV)) ((far 23 _ _ (by decide) (by decide)).trans (qOb v hv.1 hv.2)) ((far 9 _ _ (by decide) (by decide)).trans qCA)
  ((qCV (by rw[← hB7]; exact qB5 fun e=>absurd e.1 (by decide))).trans (qFS (by rw[← hB8]; exact qEV))) hql
 rw[← hbl] at e12;have S12':FSound Tryz.prog G (oneZ 12 [kS (textN N),kS (Lib.itoa v),kNil] [] (.tup [.c (.p (.str (outsD N v++[49]))),.c (.p (.int .i64 0))],[])):=qBg hm qCJ S12 hT k12 (qCZ n12) zapN_ok e12;generalize hB12:oneZ 12 [kS (textN N),kS (Lib.itoa v),kNil] [] (.tup [.c (.p (.str (outsD N v++[49]))),.c (.p (.int .i64 0))],[])=B12 at S12';have far2:∀ g xs os,g≠12→orS B12 Om g xs os=Om g xs os:=fun g xs os h=>qCV (by rw[← hB12]; exact qB5 fun e=>h e.1)
 have e4:=qPH (O:=orS B12 Om) ((far2 5 _ _ (by decide)).trans qPQ) a v ((far2 10 _ _ (by decide)).trans (qMI a)) (fun n hn=>(far2 11 _ _ (by decide)).trans (qLs (vI n) rfl hn.1 hn.2)) N hN hN' hv
  (qFS (by rw[← hB12]; exact qEV)) ((qCV (by
   rw[← hB12];refine qB5 fun e => ?_
   have h1:=congrArg (fun x:List TVal=>x[0]?) e.2.1;have h2:some (kS zfa8d5996)=some (kS (textN N)):=h1;have h3:zfa8d5996=textN N:=by
    injection h2 with h2
    injection h2 with h2
    injection h2 with h2
    injection h2 with h2
    injection h2
   exact qO9 N hN' h3)).trans qLI)
 exact qBg hm hS (qB7 S12' hO) hT k4 (qCZ n4) zapN_ok e4
end
end Go.Proofs.YtlkejchbcchecaaGreatDoor.Ab
namespace Go.Proofs
open Go.RowKit Go.Shelf
attribute [local go_sem] Oper.semAt_some
def Tryz.dn(len k:Nat):List Nat:=(List.range k).map fun j=>len - 1 - j
theorem Tryz.dn_succ(len k:Nat):Tryz.dn len (k+1)=Tryz.dn len k++[len - 1 - k]:=by simp[Tryz.dn,List.range_succ]
theorem Tryz.dn_length(len k:Nat):(Tryz.dn len k).length=k:=by simp[Tryz.dn]
theorem Tryz.dn_mem{len k i:Nat}(h1:len - k≤i)(h2:i<len):i∈Tryz.dn len k:=by
 simp only[Tryz.dn,List.mem_map,List.mem_range];exact⟨len - 1 - i,by omega,by omega⟩
theorem Tryz.bytes_inj{a b:ByteArray}(h:(a.toList==b.toList)=true):a=b:=by
 have h:=eq_of_beq h;rw[Lib.toList_data,Lib.toList_data] at h;cases a; cases b; congr 1; exact Array.toList_inj.1 h
abbrev Tryz.Ix(len:Nat):={ j:Nat // j<len }
set_option maxRecDepth 100000 in
theorem Tryz.back1_in(F:Fence)(n:Nat)(h8:F.fn 97)(hro:F.round=none)(hn:1≤n)(l Bs n₀ b off len cap:Nat)(pa:Nat→Addr)(hreach:len≤1000)(hb:b<n₀)(hBn:Bs<n₀)(J Jx:List (Tryz.Ix len)→World→Prop)
  (hY:∀ pre x W,J pre W→pre.length<len→YieldAt F (n - 1) Tryz.prog l #[.int .i64 (x.1:Int),.pointer (some (pa x.1))] W fun e W' =>
   (e = .returned (.bool true)∧J (pre++[x]) W'∧Below n₀ W W')∨(e = .returned (.bool false)∧Jx (pre++[x]) W'))
  (W:World) (hBs:W.cell? ⟨Bs,0,none⟩=some (.slice (some ⟨b,off,none⟩) len cap)) (hc:∀ j,j<len→W.cell? ⟨b,off+j,none⟩=some (.pointer (some (pa j)))) (h0:J [] W) :
  CallsIn F n Tryz.prog 97 #[.func (.yield l) #[] #[],.pointer (some ⟨Bs,0,none⟩)] W fun e W'=>(∃ v,e = .returned v) ∧
   ((∃ ys,ys.map (·.1)=Tryz.dn len len∧J ys W')∨(∃ pre,(∃ k,k≤len∧pre.map (·.1)=Tryz.dn len k)∧Jx pre W')):=by
 refine callsIn_of_wp Tryz.func97 rfl h8 ?_ hro;simp only[Tryz.ntmps97,List.size_toArray,List.length_cons,List.length_nil,Nat.reduceAdd,Nat.reduceSub,Array.replicate_succ,Array.replicate_zero,List.push_toArray,List.append_toArray,List.nil_append,List.cons_append]
 gi_wp2
 gi_loopw [3] (fun i wr=>∃ k:Nat,k≤len∧i = .int .i64 ((len:Int) - 1 - (k:Int))∧(∃ pre:List (Tryz.Ix len),pre.map (·.1)=Tryz.dn len k∧J pre wr)∧Below n₀ W wr)
  (fun i _=>(intOf i+1).toNat)
 case atStart=>exact⟨0,Nat.zero_le _,by simp,⟨[],rfl,h0⟩,Below.refl _ _⟩
 case round =>
  obtain⟨k,hk,rfl,⟨pre,hpre,hJs⟩,hnx⟩:=hrel;by_cases hlt:k<len
  ·obtain⟨m,hm⟩:∃ m:Nat,m+k+1=len:=⟨len - 1 - k,by omega⟩;have hi:(len:Int) - 1 - (k:Int)=(m:Int):=by omega
   have hml:m<len:=by omega
   have hcx:wr.cell? ⟨b,off+m,none⟩=some (.pointer (some (pa m))):=(hnx.cell (p:=⟨b,off+m,none⟩) hb).trans (hc m hml);obtain⟨fn,tmps,assign,body,hy,hR⟩:=hY _ ⟨m,hml⟩ wr hJs (by have:=congrArg List.length hpre; rw[List.length_map,Tryz.dn_length] at this; omega);dsimp only at hy;have hbx:=(hnx.cell (p:=⟨Bs,0,none⟩) hBn).trans hBs;rw[hi]
   gi_wp2
   refine hR.mono ?_
   rintro e W3 (⟨rfl,hJ3,hk3⟩|⟨rfl,hJx3⟩)
   ·gi_wp2
    go_roundw
    case rel=>exact⟨k+1,by omega,by congr 1; omega,⟨_,by rw[List.map_append,hpre,Tryz.dn_succ,show len - 1 - k=m by omega]; rfl,hJ3⟩,hnx.trans hk3⟩
    case measure=>simp[intOf]
   ·gi_wp2
    refine bodyPost_ret (results_none rfl _ _ _) rfl ?_;exact⟨⟨_,rfl⟩,.inr ⟨_,⟨k+1,by omega,by rw[List.map_append,hpre,Tryz.dn_succ,show len - 1 - k=m by omega]; rfl⟩,hJx3⟩⟩
  ·obtain rfl:k=len:=by omega
   have hi:(k:Int) - 1 - (k:Int) = -1:=by omega
   rw[hi]
   gi_wp2
   go_end0
   exact⟨⟨_,rfl⟩,.inl ⟨_,hpre,hJs⟩⟩
set_option maxRecDepth 100000 in
theorem Tryz.back1_nil_in(F:Fence)(n:Nat)(h8:F.fn 97)(hro:F.round=none)(l Bs:Nat)(J:List (Tryz.Ix 0)→World→Prop)(W:World)(hBs:W.cell? ⟨Bs,0,none⟩=some (.slice none 0 0))(h0:J [] W) :
  CallsIn F n Tryz.prog 97 #[.func (.yield l) #[] #[],.pointer (some ⟨Bs,0,none⟩)] W fun e W'=>(∃ v,e = .returned v)∧J [] W':=by
 refine callsIn_of_wp Tryz.func97 rfl h8 ?_ hro;simp only[Tryz.ntmps97,List.size_toArray,List.length_cons,List.length_nil,Nat.reduceAdd,Nat.reduceSub,Array.replicate_succ,Array.replicate_zero,List.push_toArray,List.append_toArray,List.nil_append,List.cons_append]
 gi_wp2
 gi_loopw [3] (fun i wr=>i = .int .i64 (-1)∧J [] wr) (fun _ _=>0)
 case atStart=>exact⟨rfl,h0⟩
 case round =>
  obtain⟨rfl,hJs⟩:=hrel
  gi_wp2
  go_end0
  exact⟨⟨_,rfl⟩,hJs⟩
theorem Tryz.back_in(F:Fence)(n:Nat)(h6:F.fn 83)(hro:F.round=none)(a:Option Addr)(len cap:Nat)(w:World) :
  CallsIn F n Tryz.prog 83 #[.slice a len cap] w fun e w'=>e = .returned (.func (.func 97) #[] #[.pointer (some ⟨w.heap.size,0,none⟩)])∧w'=w.alloc (.cells #[.slice a len cap] 67):=by
 refine callsIn_of_wp Tryz.func83 rfl h6 ?_ hro;simp only[Tryz.ntmps83,List.size_toArray,List.length_cons,List.length_nil,Nat.reduceAdd,Nat.reduceSub,Array.replicate_succ,Array.replicate_zero,List.push_toArray,List.append_toArray,List.nil_append,List.cons_append]
 gi_wp2
 go_ret
 exact⟨rfl,rfl⟩
def Tryz.Ptrs(n₀:Nat)(W:World)(sv:Value)(len:Nat)(pa:Nat→Addr):Prop :=
 (sv = .slice none 0 0∧len=0)∨∃ b off cap,sv = .slice (some ⟨b,off,none⟩) len cap∧b<n₀∧∀ j,j<len→W.cell? ⟨b,off+j,none⟩=some (.pointer (some (pa j)))
theorem Tryz.Ptrs.below{n₀:Nat}{A B:World}(h:Below n₀ A B){sv:Value}{len:Nat}{pa:Nat→Addr}:Tryz.Ptrs n₀ A sv len pa→Tryz.Ptrs n₀ B sv len pa
 |.inl e => .inl e
 |.inr ⟨b,off,cap,e,hb,hc⟩ => .inr ⟨b,off,cap,e,hb,fun j hj=>(h.cell (p:=⟨b,off+j,none⟩) hb).trans (hc j hj)⟩
theorem Tryz.back_stops(F:Fence)(n:Nat)(h8:F.fn 97)(hro:F.round=none)(hn:1≤n)(Bs n₀:Nat)(sv:Value)(len:Nat)(pa:Nat→Addr)(hreach:len≤1000)(w:World)(hBs:Bs<n₀)(hn₀:n₀≤w.heap.size)
  (hc:w.cell? ⟨Bs,0,none⟩=some sv) (hI:Tryz.Ptrs n₀ w sv len pa) :
  SeqStopsK F n Tryz.prog 97 #[.pointer (some ⟨Bs,0,none⟩)] (fun x:Tryz.Ix len=>#[Value.int .i64 (x.1:Int),Value.pointer (some (pa x.1))]) (Below n₀) (fun ys=>ys.map (·.1)=Tryz.dn len len)
   (fun pre=>∃ k,k≤len∧pre.map (·.1)=Tryz.dn len k) len w:=fun l J Jx W hW _ _ hY h0=>by
 have hc':=(hW.cell (p:=⟨Bs,0,none⟩) (Nat.lt_of_lt_of_le hBs hn₀)).trans hc
 rcases hI.below (hW.mono hn₀) with ⟨rfl,rfl⟩|⟨b,off,cap,rfl,hb,hcs⟩
 ·exact(Tryz.back1_nil_in F n h8 hro l Bs J W hc' h0).mono fun e W' ⟨he,hj⟩=>⟨he,.inl ⟨_,rfl,hj⟩⟩
 ·exact Tryz.back1_in F n h8 hro hn l Bs n₀ b off len cap pa hreach hb hBs J Jx hY W hc' hcs h0
set_option maxRecDepth 100000 in
theorem Tryz.find_in(F:Fence)(n:Nat)(h4:F.fn 58)(h6:F.fn 83)(h8:F.fn 97)(hro:F.round=none)(hn:3≤n)(a0 a1 a2 a3 a4 a5 a7:Value)(a:Option Addr)(cap len:Nat)(pa:Nat→Addr)(nms:Nat→ByteArray)(nm:ByteArray)(hreach:len≤1000)(w:World)
  (hI:Tryz.Ptrs w.heap.size w (.slice a len cap) len pa) (hN:∀ j,j<len→w.cell? (pa j)=some (.string (nms j))) (hS:∀ j,j<len→(pa j).spot=none) :
  CallsIn F n Tryz.prog 58 #[.agg #[a0,a1,a2,a3,a4,a5,.slice a len cap,a7],.string nm] w fun e W' =>
   ((∃ j,j<len∧nms j=nm∧(∀ i,j<i→i<len→nms i≠nm)∧e = .returned (.pointer (some (pa j))))∨((∀ i,i<len→nms i≠nm)∧e = .returned (.pointer none)))∧Below w.heap.size w W':=by
 have h1:1≤n:=by omega
 refine callsIn_of_wp_marks Tryz.func58 rfl h4 ?_ hro;simp only[Tryz.ntmps58,List.size_toArray,List.length_cons,List.length_nil,Nat.reduceAdd,Nat.reduceSub,Array.replicate_succ,Array.replicate_zero,List.push_toArray,List.append_toArray,List.nil_append,List.cons_append]
 gi_wp2_with (gi_at_call 83; refine(Tryz.back_in F (n - 1) h6 hro _ _ _ _).mono ?_; rintro e w' ⟨rfl,rfl⟩)
 have bS:=Boxed.new w 69 (.int .i64 0);have hB0:Below w.heap.size w ((((w.alloc (Obj.cells #[a0,a1,a2,a3,a4,a5,Value.slice a len cap,a7] 69)).alloc (Obj.cells #[Value.string nm] 9)).alloc (Obj.cells #[Value.pointer none] 115)).alloc (Obj.cells #[Value.slice a len cap] 67)) :=
  ((((Below.refl _ w).alloc (Nat.le_refl _) _).alloc (by simp) _).alloc (by simp; omega) _).alloc (by simp; omega) _
 have bM:=((Boxed.new (w.alloc (Obj.cells #[a0,a1,a2,a3,a4,a5,Value.slice a len cap,a7] 69)) 9 (Value.string nm)).alloc (Obj.cells #[Value.pointer none] 115)).alloc (Obj.cells #[Value.slice a len cap] 67);have bR:=(Boxed.new ((w.alloc (Obj.cells #[a0,a1,a2,a3,a4,a5,Value.slice a len cap,a7] 69)).alloc (Obj.cells #[Value.string nm] 9)) 115 (Value.pointer none)).alloc (Obj.cells #[Value.slice a len cap] 67);have bN:=Boxed.new (((w.alloc (Obj.cells #[a0,a1,a2,a3,a4,a5,Value.slice a len cap,a7] 69)).alloc (Obj.cells #[Value.string nm] 9)).alloc (Obj.cells #[Value.pointer none] 115)) 67 (Value.slice a len cap);simp only[World.size_alloc] at bM bR bN;generalize hW0:(((w.alloc (Obj.cells #[a0,a1,a2,a3,a4,a5,Value.slice a len cap,a7] 69)).alloc (Obj.cells #[Value.string nm] 9)).alloc (Obj.cells #[Value.pointer none] 115)).alloc (Obj.cells #[Value.slice a len cap] 67)=W0 at *;have hsz:W0.heap.size=w.heap.size+4:=by rw[← hW0]; simp
 have hlt:∀ j,j<len→(pa j).block<w.heap.size:=fun j hj=>World.block_lt_of_cell? _ _ (hN j hj)
 refine wpIn_rangeFunc_ownG hro h1 (gf:=97) (lb:=#[.pointer (some ⟨w.heap.size+1+1+1,0,none⟩)]) rfl h8 (enters_of Tryz.func97 (by kernel_rfl) rfl)
  (Tryz.back_stops F (n - 1) h8 hro (by omega) (w.heap.size+1+1+1) (w.heap.size+4) _ len pa hreach W0 (by omega) (by omega) bN.cell ?ptrs) belowK_t (belowK_b (by omega)) (Below.refl _ _) (fun _=>rfl)
  (fun pre W=>(∀ p∈pre,nms p.1≠nm)∧Below (w.heap.size+4) W0 W)
  (fun c pre W=>(c = .ret∧∃ ini last,pre=ini++[last]∧(∀ p∈ini,nms p.1≠nm)∧nms last.1=nm∧W.cell? ⟨w.heap.size+1+1,0,none⟩=some (.pointer (some (pa last.1))))∧Below w.heap.size W0 W)
  ?own1 ?own2 ⟨by simp,Below.refl _ _⟩
  (fun x=>{ tmps:=#[Value.agg #[a0,a1,a2,a3,a4,a5,Value.slice a len cap,a7],Value.string nm,Value.pointer (some ⟨w.heap.size,0,none⟩),Value.pointer (some ⟨w.heap.size+1,0,none⟩),Value.pointer (some ⟨w.heap.size+1+1,0,none⟩),undef,.pointer (some (pa x.1)),
     Value.pointer (some ⟨w.heap.size,6,none⟩),Value.slice a len cap,Value.func (Fn.func 97) #[] #[Value.pointer (some ⟨w.heap.size+1+1+1,0,none⟩)],.int .i64 (x.1:Int),.pointer (some (pa x.1)),undef,undef,undef,undef,undef,undef,undef],defers:=[] }) ?assign ?body ?done ?stop
 case ptrs => 
  have:=hI.below hB0
  rcases this with h|⟨b,off,c,e,hb,hc⟩
  ·exact .inl h
  ·exact .inr ⟨b,off,c,e,by omega,hc⟩
 case own1=>exact OwnFrom.and (Own.from (fun s A B row hs hg hr=>hs) _) (ownFrom_below (by omega) (by omega))
 case own2 =>
  intro c;exact OwnFrom.and (Own.from (fun s A B row hs hg hr=>by obtain⟨hc,ini,last,e1,e2,e3,e4⟩:=hs; exact⟨hc,ini,last,e1,e2,e3,cell_kept e4 hg hr⟩) _) (ownFrom_below (by omega) (by omega))
 case assign =>
  intro l x W K hK
  gi_wp2
  exact hK
 case body =>
  rintro l pre x W ⟨hp,hB⟩ hlt2
  have hx:W.cell? (pa x.1)=some (.string (nms x.1)):=((hB.mono (by omega)).cell (p:=pa x.1) (hlt x.1 x.2)).trans ((hB0.cell (p:=pa x.1) (hlt x.1 x.2)).trans (hN x.1 x.2));have hm:W.cell? ⟨w.heap.size+1,0,none⟩=some (.string nm):=(hB.cell (p:=⟨w.heap.size+1,0,none⟩) (by simp)).trans bM.cell;have bR':Boxed W (w.heap.size+1+1) 115 (Value.pointer none):=(hB.block (w.heap.size+1+1) (by omega)).trans bR;have hcr:=bR'.cell;have hfr:=bR'.frozen;have hsp:=hS x.1 x.2;have hB':Below w.heap.size W0 W:=hB.mono (by omega);generalize hpx:pa x.1=px at *;obtain⟨pb,po,pi⟩:=px;obtain rfl:pi=none:=hsp;clear bS bM bR bN hI hS hW0;have hmx:Tryz.prog.follows .mixedOrders=true:=by kernel_rfl
  gi_wp2
  gi_region_with_o (fail)
  all_goals gi_wp2
  all_goals (try go_bits)
  all_goals first
   |(have hb:((nms x.1).toList==nm.toList)=true:=(by assumption); have hq:nms x.1=nm:=Tryz.bytes_inj hb; exact⟨((KeepsOthers.setCell _ _ _).trans (KeepsOthers.drew _)).from _,⟨rfl,pre,x,rfl,hp,hq,by rw[hpx]; exact World.cell?_setCell_same' _ _ _ (by rw[hcr]; rfl)⟩,(hB'.setCell (p:=⟨w.heap.size+1+1,0,none⟩) (by simp; omega) _).drew⟩)
   |(have hb:((nms x.1).toList==nm.toList)=false:=(by assumption); have hq:¬ nms x.1=nm:=fun e=>(by rw[e,beq_self_eq_true] at hb; cases hb); exact⟨(KeepsOthers.drew _).from _,(Below.refl _ _).drew,fun p hp'=>(List.mem_append.1 hp').elim (hp p) (fun e=>by simp at e; subst e; exact hq),hB.drew⟩)
 case done =>
  rintro D ys W hD hys ⟨hp,hB⟩ hK
  have bR':Boxed W (w.heap.size+1+1) 115 (Value.pointer none):=(hB.block (w.heap.size+1+1) (by omega)).trans bR;have hcr:=bR'.cell;have hfr:=bR'.frozen;have hB':Below w.heap.size W0 W:=hB.mono (by omega);clear bS bM bR bN hI hS hW0
  gi_wp2
  have hK':=(KeepsOthers.setCell W ⟨w.heap.size+1+1,0,none⟩ (.pointer none)).same D _ hK rfl;refine⟨by simp,.inl ⟨_,_,rfl,run_takeDeferred hK',?_⟩⟩;have hc5:=cell_kept (World.cell?_setCell_same' W ⟨w.heap.size+1+1,0,none⟩ (.pointer none) (by rw[hcr]; rfl)) (grownBy_putObj' _ D (.deferred none)) (fun r e=>by cases e; exact⟨_,hK',rfl⟩);refine⟨.pointer none,?_,.inr ⟨fun i hi => ?_,rfl⟩,((hB0.trans hB').setCell (p:=⟨w.heap.size+1+1,0,none⟩) (by simp; omega) _).trans (belowK_b (w:=w) (Nat.le_refl _) _ D _ _ (by omega) hK' rfl rfl)⟩
  ·simp[results,Tryz.f58,go_sem,hc5]
  ·have:i∈ys.map (·.1):=by rw[hys]; exact Tryz.dn_mem (by omega) hi
   obtain⟨p,h1,rfl⟩:=List.mem_map.1 this;exact hp p h1
 case stop =>
  rintro D c pre W hD ⟨k,hk,hpre⟩ ⟨⟨rfl,ini,last,e1,e2,e3,hcr⟩,hB⟩ hK
  clear bS bM bR bN hI hS hW0
  gi_wp2
  refine⟨by simp,.inl ⟨_,_,rfl,run_takeDeferred hK,?_⟩⟩;have hc5:=cell_kept hcr (grownBy_putObj' _ D (.deferred none)) (fun r e=>by cases e; exact⟨_,hK,rfl⟩);obtain⟨k',rfl⟩:∃ k',k=k'+1:=by
   cases k with
   |zero=>subst e1; simp[Tryz.dn] at hpre
   |succ k'=>exact⟨k',rfl⟩
  rw[e1,Tryz.dn_succ,List.map_append] at hpre;obtain⟨h5,h6⟩:=List.append_inj' hpre rfl;have h7:last.1=len - 1 - k':=by simpa using h6
  refine⟨.pointer (some (pa last.1)),?_,.inl ⟨last.1,last.2,e3,fun i hi hi2 => ?_,rfl⟩,(hB0.trans hB).trans (belowK_b (w:=w) (Nat.le_refl _) _ D _ _ (by omega) hK rfl rfl)⟩
  ·simp[results,Tryz.f58,go_sem,hc5]
  ·have:i∈ini.map (·.1):=by rw[h5]; exact Tryz.dn_mem (by omega) hi2
   obtain⟨p,h1,rfl⟩:=List.mem_map.1 this;exact e2 p h1
end Go.Proofs
namespace Go.Proofs
open Go.RowKit Go.Shelf Go.AI
theorem Tryz.find_sound[Sym](G:Nat→Option (List PVal)):FSound Tryz.prog G (SFind 58 6 8):=by
 have open8:∀ (arr:Array Value) (v:Value),arr.size=8→arr[6]?=some v→∃ a0 a1 a2 a3 a4 a5 a7,arr=#[a0,a1,a2,a3,a4,a5,v,a7]:=by
  intro arr v h1 h2;obtain⟨l⟩:=arr
  match l,h1,h2 with
  |[a0,a1,a2,a3,a4,a5,a6,a7],_,h2=>exact⟨a0,a1,a2,a3,a4,a5,a7,by simp at h2; rw[h2]⟩
 refine qHl ⟨_,Tryz.func58,rfl,by decide⟩ (fun arr nm w h1 h2 => ?_) (fun arr nm w b off len cap pa nms h1 h2 hl hb hp hs hn => ?_)
 ·obtain⟨a0,a1,a2,a3,a4,a5,a7,rfl⟩:=open8 arr _ h1 h2;have h:=Tryz.find_in Fence.wide 3 trivial trivial trivial rfl (by omega) a0 a1 a2 a3 a4 a5 a7 none 0 0 (fun _=>⟨0,0,none⟩) (fun _=>nm) nm (by omega) w (.inl ⟨rfl,rfl⟩) (fun j h=>absurd h (by omega)) (fun j h=>absurd h (by omega));refine(callsIn_wide.1 h).mono fun e w' ⟨h1,h2⟩=>⟨?_,h2⟩
  rcases h1 with ⟨j,hj,_⟩|⟨_,h1⟩
  ·omega
  ·exact h1
 ·obtain⟨a0,a1,a2,a3,a4,a5,a7,rfl⟩:=open8 arr _ h1 h2;exact callsIn_wide.1 (Tryz.find_in Fence.wide 3 trivial trivial trivial rfl (by omega) a0 a1 a2 a3 a4 a5 a7 (some ⟨b,off,none⟩) cap len pa nms nm hl w (.inr ⟨b,off,cap,rfl,hb,hp⟩) hs hn)
theorem Tryz.find_soundQ[Sym](G:Nat→Option (List PVal)):FSound Tryz.prog G (SFindQ 58 6 8):=by
 have open8:∀ (arr:Array Value) (v:Value),arr.size=8→arr[6]?=some v→∃ a0 a1 a2 a3 a4 a5 a7,arr=#[a0,a1,a2,a3,a4,a5,v,a7]:=by
  intro arr v h1 h2;obtain⟨l⟩:=arr
  match l,h1,h2 with
  |[a0,a1,a2,a3,a4,a5,a6,a7],_,h2=>exact⟨a0,a1,a2,a3,a4,a5,a7,by simp at h2; rw[h2]⟩
 refine qHR ⟨_,Tryz.func58,rfl,by decide⟩ (fun arr nm w h1 h2 => ?_) (fun arr nm w b off len cap pa nms h1 h2 hl hb hp hs hn => ?_)
 ·obtain⟨a0,a1,a2,a3,a4,a5,a7,rfl⟩:=open8 arr _ h1 h2;have h:=Tryz.find_in Fence.wide 3 trivial trivial trivial rfl (by omega) a0 a1 a2 a3 a4 a5 a7 none 0 0 (fun _=>⟨0,0,none⟩) (fun _=>nm) nm (by omega) w (.inl ⟨rfl,rfl⟩) (fun j h=>absurd h (by omega)) (fun j h=>absurd h (by omega));refine(callsIn_wide.1 h).mono fun e w' ⟨h1,h2⟩=>⟨?_,h2⟩
  rcases h1 with ⟨j,hj,_⟩|⟨_,h1⟩
  ·omega
  ·exact h1
 ·obtain⟨a0,a1,a2,a3,a4,a5,a7,rfl⟩:=open8 arr _ h1 h2;exact callsIn_wide.1 (Tryz.find_in Fence.wide 3 trivial trivial trivial rfl (by omega) a0 a1 a2 a3 a4 a5 a7 (some ⟨b,off,none⟩) cap len pa nms nm hl w (.inr ⟨b,off,cap,rfl,hb,hp⟩) hs hn)
end Go.Proofs
