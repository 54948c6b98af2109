/- The rules,the contracts,the plain laws that lead to the statement. Own work. Condition: what each theorem names. -/
import Derived.Test.YtlkejchbcchecaaGreatDoorG0
set_option linter.all false
set_option linter.unusedVariables false
set_option linter.unusedSimpArgs false
set_option linter.unusedSectionVars false
set_option maxRecDepth 100000
set_option maxHeartbeats 4000000
open Nat renaming reduceAdd→rA,reduceMul→rB,reduceLT→rC,reduceLeDiff→rD,reduceEqDiff→rE
open Int renaming reduceLT→rF,reduceLE→rG,reduceEq→rH,reduceToNat→rI
namespace Go.AI
noncomputable def labsB(F:MFunc):Bool:=F.labs.all fun e=>nodupB e.2.1&&e.2.1.all fun x=>Nat.blt (x+1) 1048576
theorem qCZ{F:MFunc}(h:labsB F=true):∀ e∈F.labs,nodupB e.2.1=true∧∀ x∈e.2.1,x+1<1048576:=by
 intro e he;have:=List.all_eq_true.1 h e he;rw[Bool.and_eq_true] at this;refine⟨this.1,fun x hx => ?_⟩;have:=List.all_eq_true.1 this.2 x hx
 rwa [Nat.blt_eq] at this
noncomputable abbrev zN:ZapF:=fun _ vs h=>(vs,h)
end Go.AI
namespace Go.Proofs.YtlkejchbcchecaaGreatDoor.Ab
open Go Go.AI
abbrev nmO(s:List UInt8):AObj := .cells [.p (.str s)] 0
abbrev fn85(r:Ref):TVal := .v (.c (.func 85 [r]))
noncomputable def isI(n:Int)(s:List UInt8)(r:Res1):Bool:=match r with
 |some (v,[.cells [.p (.str t)] 0])=>tvB v (kI n)&&eqE t s
 |_=>false
theorem qPu{n:Int}{s:List UInt8}{r:Res1}(h:isI n s r=true):r=some (kI n,[nmO s]):=by
 unfold isI at h;split at h
 ·rw[Bool.and_eq_true] at h;rw[qE6 _ _ h.1,qK5 h.2]
 ·cases h
theorem qNn:((List.range 10).all fun N=>(List.range (N+1)).all fun j=>isI (.ofNat (j+1)) (nmJ j) (machU blks.get S 200 84 1 0 [.v (.c (.p (treeN N))),fn85 (.im 0)] ⟨[nmO (nmJ j)],.nil⟩))=true:=by kernel_rfl
theorem qP0(N j:Nat)(hN:N<10)(hj:j≤N):Om 84 [.v (.c (.p (treeN N))),fn85 (.im 0)] [nmO (nmJ j)]=some (kI ((j+1:Nat):Int),[nmO (nmJ j)]):=by
 have h:=List.all_eq_true.1 (List.all_eq_true.1 qNn N (List.mem_range.2 hN)) j (List.mem_range.2 (by omega));exact(qAE rfl).trans (qAc blks_ok 200 84 1 0 _ _ _ (qPu h))
section
variable {A:Oracle}
theorem qPM(N j:Nat)(hN:N<10)(hj:j≤N){H:Heap}{g:Nat}(hg:H.get (.own 6 g)=some (nmO (nmJ j))){β:Type}(d:Nat)(k:TVal→Heap→Option β) :
  vcall (mkO A) (.v (.c (.func 84 []))) [.v (.c (.p (treeN N))),fn85 (.own 6 g)] H d k=k (kI ((j+1:Nat):Int)) (H.own 6 g (nmO (nmJ j))):=by
 have hc:mkO A 84 [.v (.c (.p (treeN N))),fn85 (.im 0)] [nmO (nmJ j)]=some (kI ((j+1:Nat):Int),[nmO (nmJ j)]):=(qCS rfl).trans (qP0 N j hN hj);have e2:reach H fuelReach ([.v (.c (.p (treeN N))),fn85 (.own 6 g)].flatMap TVal.refs) []=[.own 6 g]:=by
  show reach H 400 [.own 6 g] []=_;show(bif ([]:List Ref).contains (Ref.own 6 g) then reach H 399 [] [] else (match H.get (Ref.own 6 g) with|some o=>reach H 399 (o.refs++[]) ([]++[Ref.own 6 g])|none=>reach H 399 [] []))=_;rw[hg]; rfl
 have e3:([.own 6 g]:List Ref).mapM H.get=some [nmO (nmJ j)]:=by
  rw[List.mapM_cons,hg]; rfl
 have:=qBS (O:=mkO A) (h:=H) (d:=d) 84 [.v (.c (.p (treeN N))),fn85 (.own 6 g)] _ [.v (.c (.p (treeN N))),fn85 (.im 0)] [.own 6 g] [nmO (nmJ j)] [nmO (nmJ j)] [nmO (nmJ j)] (kI ((j+1:Nat):Int)) rfl e2 e3 (by
  show [TVal.v (.c (.p (treeN N))),.v (.c (match ([Ref.own 6 g]:List Ref).mapM (inn [.own 6 g]) with|some x=>Cell.func 85 x|none => .junk))]=_
  simp[inn,idx]) rfl hc (Nat.le_refl _)
 show callF (mkO A) 84 [.v (.c (.p (treeN N))),fn85 (.own 6 g)] d H k=_;rw[qAy,this];rfl
end
section
variable {A:Oracle}
theorem qPT(j:Nat):nmJ j≠[]:=by unfold nmJ; simp
theorem qQh(q:Nat)(x0 x1 x2 x3:TVal)(h:Heap):limZ c62 (mkO A) zN q 0 [x0,x1,x2,x3] h=b62_0 (mkO A) (jumpZ c62 (mkO A) zN q) q x0 x1 x2 x3 h:=(qAU _ _ _).trans (e62_0 ..).symm
theorem qQG(q:Nat)(x0 x1 x2 x3:TVal)(h:Heap):limZ c39 (mkO A) zN q 0 [x0,x1,x2,x3] h=b39_0 (mkO A) (jumpZ c39 (mkO A) zN q) q x0 x1 x2 x3 h:=(qAU _ _ _).trans (e39_0 ..).symm
theorem qLu(e:RE)(out:List UInt8)(k:Int):∃ c,(cg e out k)[0]?=some (runO e c k):=by cases out <;> exact⟨_,rfl⟩
theorem qIJ(e:RE)(N j:Nat)(hN:N<10)(hj:j≤N)(he:e.tree=treeN N)(body:PVal)(hb:([.str [],.slice 9 false mainR]::defsJ N)[j+1]?=some [.str (nmJ j),body])(hbp:pT (.v (.c (.p body)))=true)
  (V:PVal) (sv u:VT) (d:Int) (hd0:0≤d) (hd:d<e.depth) (hdd:e.depth≤1000) (hpu:pT (aC (scV .nilslice u (d+1)))=true) {out out':List UInt8} {k k':Int} (M:RunM A 17 [aC (scV .nilslice u (d+1)),.v (.c (.p body))] e out k (kI 0) out' k') :
  ∃ h',RunAt h' e out' k' (cg e out k).length∧limZ c62 (mkO A) zN (cg e out k).length 0 [kP (.im 0),aC (scV V sv d),kS (nmJ j),aC (vC u)] ⟨cg e out k,.nil⟩=vfin true (cg e out k).length [.c (.p (.int .i64 0))] h':=by
 obtain⟨c,hc⟩:=qLu e out k;have HH:HI ⟨cg e out k,.nil⟩ (cg e out k):=HI.start (qAP e out k).1;have g0:=HH 0 _ hc;have X0:=qAX e out k;generalize hS:(⟨cg e out k,.nil⟩:Heap)=Hs at *;have gn:Hs.gen 5=0∧Hs.gen 6=0∧Hs.gen 7=0:=by rw[← hS]; exact⟨rfl,rfl,rfl⟩
 generalize hH1:((Hs.own 5 1 (.cells (scV V sv d) 0)).own 6 1 (.cells [.p (.str (nmJ j))] 0)).own 7 1 (.cells (vC u) 0)=H1;have X1:RunAt H1 e out k (cg e out k).length:=by rw[← hH1]; exact((X0.own _ _ _).own _ _ _).own _ _ _
 have a0:H1.get (.im 0)=some (runO e c k):=by rw[← hH1]; exact g0
 have a5:H1.get (.own 5 1)=some (.cells (scV V sv d) 0):=by rw[← hH1]; simp only[exa,rA,rB,rC,rD,rE,rF,rG,rH,rI]
 have a6:H1.get (.own 6 1)=some (.cells [.p (.str (nmJ j))] 0):=by rw[← hH1]; simp only[exa,rA,rB,rC,rD,rE,rF,rG,rH,rI]
 have a7:H1.get (.own 7 1)=some (.cells (vC u) 0):=by rw[← hH1]; simp only[exa,rA,rB,rC,rD,rE,rF,rG,rH,rI]
 generalize hH2:H1.own 6 1 (nmO (nmJ j))=H2;have X2:RunAt H2 e out k (cg e out k).length:=by rw[← hH2]; exact X1.own _ _ _
 have b0:H2.get (.im 0)=some (runO e c k):=by rw[← hH2]; exact a0
 have b5:H2.get (.own 5 1)=some (.cells (scV V sv d) 0):=by rw[← hH2]; exact(Heap.own_get_ne _ 6 _ _ 5 1 (by decide)).trans a5
 have b6:H2.get (.own 6 1)=some (.cells [.p (.str (nmJ j))] 0):=by rw[← hH2]; simp only[exa,rA,rB,rC,rD,rE,rF,rG,rH,rI]
 have b7:H2.get (.own 7 1)=some (.cells (vC u) 0):=by rw[← hH2]; exact(Heap.own_get_ne _ 6 _ _ 7 1 (by decide)).trans a7
 obtain⟨h3,c3,X3,ow3,gn3⟩:=qAk M (qAO hpu (qAO hbp rfl)) rfl X2;refine⟨h3,X3,?_⟩;have C84:=fun(β:Type) (dd:Nat) (kk:TVal→Heap→Option β)=>qPM (A:=A) N j hN hj a6 dd kk
 rw[hH2] at C84;have C3:=fun(β:Type) (dd:Nat) (kk:TVal→Heap→Option β)=>c3 (β:=β) dd kk
 have RO:runO e c k = .cells [.p (.int .i64 e.steps),.p (.int .i64 e.depth),.p (.int .i64 e.write),.p (treeN N),.ptr (.im 1) 0,c,.p (.int .i64 k)] 0:=by rw[← he]
 rw[RO] at g0 a0 b0;have MF:∀ (k':TVal→Heap→Res1) (h:Heap) (r:Ref),vop (mkO A) (.mkfn 85 [.k (.v (.c (.ptr r 0)))]) h 14 k'=k' (fn85 r) h:=fun _ _ _=>rfl
 have ne:=qPT j;have n0:¬ ((j+1:Nat):Int)<0:=by omega
 have w1:IntKind.i64.wrap (d+1)=d+1:=qAG _ (by omega) (by omega);have nd:¬ e.depth≤d:=by omega
 have VA:∀ (k':TVal→Heap→Res1) (h:Heap),viaddr 2 (.v (.c (.p (treeN N)))) (kI ((j+1:Nat):Int)) h k'=k' (.v (.c (.p (.pptr [.str (nmJ j),body] 0)))) h:=fun k' h=>qLR 2 false _ (j+1) _ hb
 have LB:∀ (k':TVal→Heap→Res1) (h:Heap),vload false 1 (.v (.c (.p (.pptr [.str (nmJ j),body] 1)))) h k'=k' (.v (.c (.p body))) h:=fun _ _=>rfl
 have FB:∀ (k':TVal→Heap→Res1) (h:Heap),vfaddr 1 (.v (.c (.p (.pptr [.str (nmJ j),body] 0)))) h k'=k' (.v (.c (.p (.pptr [.str (nmJ j),body] 1)))) h:=fun _ _=>rfl
 have BD:∀ (k':TVal→Heap→Res1) (h:Heap),vop (mkO A) (.build [.p (.int .i64 0),.p (.bool false),.p (.int .i64 0),.p (.str []),.p .nilslice,.p .nilslice,.p .nilslice,.p (.int .i64 0)] [(0,6,.k (aC (vC u))),(7,1,.k (kI (d+1)))]) h 37 k'=k' (aC (scV .nilslice u (d+1))) h:=fun _ _=>rfl
 have NK:∀ (k':TVal→Heap→Res1) (h:Heap) (dd:Nat),vop (mkO A) (.nilck (.k (kP (.im 0)))) h dd k'=k' (kP (.im 0)) h:=fun _ _ _=>rfl
 rw[qQh,b62_0];generalize treeN N=TN at *;generalize nmJ j=NM at *;simp (maxSteps:=9999999) +contextual only[exa,rA,rB,rC,rD,rE,rF,rG,rH,rI,exW,gn.1,gn.2.1,gn.2.2,Nat.zero_add,hH1,NK,g0,a0,MF,C84,n0,a5,a6,a7,b0,b5,b6,b7,ne,nd,hd,decide_true,Bool.not_true,w1,BD,VA,FB,LB];refine(C3 _ _ _).trans ?_;simp (maxSteps:=9999999) +contextual only[exa,rA,rB,rC,rD,rE,rF,rG,rH,rI,exW]
theorem qEu(e:RE)(V:PVal)(sv u:VT)(d at':Int)(nm:List UInt8)(p:PVal)(hpV:pT (aC (scV V sv d))=true){out out':List UInt8}{k k':Int}(M:RunM A 62 [aC (scV V sv d),kS nm,aC (vC u)] e out k (kI 0) out' k') :
  ∃ h',RunAt h' e out' k' (cg e out k).length∧limZ c39 (mkO A) zN (cg e out k).length 0 [kP (.im 0),aC (scV V sv d),aC (pcells (ndG 9 at' [] nm p)),aC (vC u)] ⟨cg e out k,.nil⟩=vfin true (cg e out k).length [.c (.p (.int .i64 0))] h':=by
 obtain⟨h',c1,X1,ow,gn⟩:=qAk M (qAO hpV rfl) rfl ((((qAX e out k).own 5 1 (.cells (scV V sv d) 0)).own 6 1 (.cells (pcells (ndG 9 at' [] nm p)) 0)).own 7 1 (.cells (vC u) 0));refine⟨h',X1,?_⟩;have p0:(pcells (ndG 9 at' [] nm p))[0]?=some (.p (.int .i64 9)):=rfl;have p3:(pcells (ndG 9 at' [] nm p))[3]?=some (.p (.str nm)):=rfl;have n9:∀ m:Int,m=2∨m=4∨m=5∨m=6∨m=7∨m=8→¬ (9:Int)=m:=by omega
 have GO:limZ c39 (mkO A) zN (cg e out k).length 0 [kP (.im 0),aC (scV V sv d),aC (pcells (ndG 9 at' [] nm p)),aC (vC u)] ⟨cg e out k,.nil⟩=limZ c39 (mkO A) zN (cg e out k).length 0 [kP (.im 0),aC (scV V sv d),aC (pcells (ndG 9 at' [] nm p)),aC (vC u)] ⟨cg e out k,.nil⟩:=rfl
 conv at GO=>rhs; rw[qQG,b39_0]
 simp (maxSteps:=9999999) +contextual only[exa,rA,rB,rC,rD,rE,rF,rG,rH,rI,exW,p0,p3] at GO
 replace GO:=GO.trans (c1 _ _)
 simp (maxSteps:=9999999) +contextual only[exa,rA,rB,rC,rD,rE,rF,rG,rH,rI,exW] at GO;exact GO
end
theorem qGs[Sym]{G:Nat→Option (List PVal)}(hm:Tryz.prog.follows .mixedOrders=true)(hT:TabM Tryz.prog G tab.get)(hS:FSound Tryz.prog G S){A:Oracle}(hA:FSound Tryz.prog G A):FSound Tryz.prog G (mkO A):=by
 have hO:FSound Tryz.prog G Om:=qDl hm hT hS;intro f a o v o' e;unfold mkO at e;split at e
 ·exact hA f a o v o' e
 ·exact hO f a o v o' e
theorem lvl[Sym]{G:Nat→Option (List PVal)}(hm:Tryz.prog.follows .mixedOrders=true)(hT:TabM Tryz.prog G tab.get)(hS:FSound Tryz.prog G S){A:Oracle}(hA:FSound Tryz.prog G A){g:FuncId}{F:MFunc}(hF:tab.get g=some F)(hN:labsB F=true){Z:ZapF}(hZ:ZOK Z)
  {ps:List TVal} (hs:spec g (kP (.im 0)::ps)=true) {e:RE} {out out':List UInt8} {k k':Int} {v:Comp} (hv:pComp v=true) (H:∃ h',RunAt h' e out' k' (cg e out k).length∧limZ F (mkO A) Z (cg e out k).length 0 (kP (.im 0)::ps) ⟨cg e out k,.nil⟩=vfin true (cg e out k).length [v] h') :
  ∃ A',FSound Tryz.prog G A'∧RunM A' g ps e out k (oneOf [v]) out' k':=by
 obtain⟨h',X,e1⟩:=H;obtain⟨qs,ρ',f1,f2,f3,f4,f5,f6⟩:=qHH X true [v] (qAO hv rfl);have e2:limZ F (mkO A) Z (lenF (cg e out k)) 0 (kP (.im 0)::ps) { ims:=cg e out k,owns := .nil }=some (oneOf [v],qs):=by rw[qAK]; exact e1.trans f1
 refine⟨addZ g (kP (.im 0)::ps) (cg e out k) (oneOf [v],qs) A,qBg hm hA (qGs hm hT hS hA) hT hF (qCZ hN) hZ e2,qs,ρ',?_,f2,f3,f4,f5,f6⟩;rw[qN9 hs];unfold addZ;rw[if_pos ⟨rfl,rfl,rfl⟩]
abbrev plV(op:List PVal):TVal:=kSl 1 true [[.slice 7 true [op]]]
theorem qG9(V:PVal)(u:VT)(d:Int)(hp:pT (aC (scV V u d))=true)(e:RE)(out:List UInt8)(k:Int)(h0:0≤k)(hk:k<e.steps)(hs:e.steps≤1000000):RunDo 38 [aC (scV V u d),plV (opK 1 [] [] 0 .nilslice)] e out k (tupV u) out (k+1) :=
 qCh _ rfl hp true _ u e out k (k+1) (qB2 _ rfl hp 1 (by decide) [] [] 0 .nilslice true u e out k (k+1) h0 hk hs (qIU V u u d [] (qKS V u d) e out (k+1)))
theorem qKN(t:Bool)(x:List UInt8)(hx:x≠[])(w u:VT)(d:Int)(hp:pT (aC (scV (varsP t x u) w d))=true)(e:RE)(out:List UInt8)(k:Int)(h0:0≤k)(hk:k<e.steps)(hs:e.steps≤1000000):RunDo 38 [aC (scV (varsP t x u) w d),plV (opK 1 x [] 0 .nilslice)] e out k (tupV u) out (k+1) :=
 qCh _ rfl hp true _ u e out k (k+1) (qB2 _ rfl hp 1 (by decide) x [] 0 .nilslice true u e out k (k+1) h0 hk hs (qIU (varsP t x u) w u d x (qOq t x hx u w d) e out (k+1)))
theorem qL8(V:PVal)(w:VT)(d n:Int)(hp:pT (aC (scV V w d))=true)(e:RE)(out:List UInt8)(k:Int)(h0:0≤k)(hk:k<e.steps)(hs:e.steps≤1000000):RunDo 38 [aC (scV V w d),plV (opK 3 [] [] n .nilslice)] e out k (tupV (vI n)) out (k+1) :=
 qCh _ rfl hp true _ (vI n) e out k (k+1) (qB2 _ rfl hp 3 (by decide) [] [] n .nilslice true (vI n) e out k (k+1) h0 hk hs (qPh V w d n e out (k+1)))
abbrev addOp:List PVal:=opK 5 [] [] 0 (.slice 1 true [[addP]])
theorem qMM(n d:Int)(e:RE)(out:List UInt8)(k:Int)(h0:0≤k)(hk:k+1<e.steps)(hs:e.steps≤1000000):RunDo 38 [aC (scV .nilslice (vI n) d),plV addOp] e out k (tupV (vI (IntKind.i64.wrap (n+1)))) out (k+2):=by
 have M:=qHX n d e out (k+1) (by omega) (by omega) hs;rw[show k+1+1=k+2 by omega] at M;exact qCh _ rfl rfl true _ _ e out k (k+2) (qB2 _ rfl rfl 5 (by decide) [] [] 0 (.slice 1 true [[addP]]) true _ e out k (k+2) h0 (by omega) hs (qOH .nilslice (vI n) _ d (.slice 1 true [[addP]]) rfl e out (k+1) (k+2) (qCh _ rfl rfl true addP _ e out (k+1) (k+2) M)))
theorem qEm(V:PVal)(e:RE)(out:List UInt8)(k:Int)(sv v:VT)(d at':Int)(p:PVal)(hpV:pT (aC (scV V sv d))=true)(hv:v.kind=2)(hn:rngI v.n)(hl:((out.length+(Lib.itoa v.n).length:Nat):Int)≤e.write)(hw:e.write≤1000000) :
  RunDo 39 [aC (scV V sv d),aC (pcells (ndG 2 at' [] [] p)),aC (vC v)] e out k (kI 0) (out++Lib.itoa v.n) k:=by
 obtain⟨h',t,c1,c2,X1,ow,gn⟩:=qBT (qNW e out k v hv hn hl hw) rfl rfl ((((qAX e out k).own 5 1 (.cells (scV V sv d) 0)).own 6 1 (.cells (pcells (ndG 2 at' [] [] p)) 0)).own 7 1 (.cells (vC v) 0));have GO:lim tab.get S 39 (cg e out k).length 0 [kP (.im 0),aC (scV V sv d),aC (pcells (ndG 2 at' [] [] p)),aC (vC v)] ⟨cg e out k,.nil⟩=lim tab.get S 39 (cg e out k).length 0 [kP (.im 0),aC (scV V sv d),aC (pcells (ndG 2 at' [] [] p)),aC (vC v)] ⟨cg e out k,.nil⟩:=rfl
 conv at GO=>rhs; rw[w39_0,b39_0]
 have p0:(pcells (ndG 2 at' [] [] p))[0]?=some (.p (.int .i64 2)):=rfl;simp (maxSteps:=9999999) +contextual only[exa,rA,rB,rC,rD,rE,rF,rG,rH,rI,exW,p0] at GO
 replace GO:=GO.trans (c1 _ _)
 simp (maxSteps:=9999999) +contextual only[exa,rA,rB,rC,rD,rE,rF,rG,rH,rI,exW] at GO;exact qBj _ rfl rfl ⟨_,true,[.c (.p (.int .i64 0))],rfl,rfl,X1,GO⟩
section
variable {A:Oracle}
theorem qDq(e:RE)(out:List UInt8)(k:Int)(V:PVal)(sv:VT)(d:Int)(q:Nat)(t:Bool)(rows:List (List PVal)) :
  L17 A q 0 [kP (.im 0),aC (scV V sv d),nlV t rows] ⟨cg e out k,.nil⟩=L17 A q 1 [kP (.im 0),pO 4 1,nlV t rows,kI (rows.length:Int),kI 0] ((⟨cg e out k,.nil⟩:Heap).own 4 1 (.cells (scV V sv d) 0)):=by
 rw[qQL,b17_0];simp (maxSteps:=9999999) +contextual only[exa,rA,rB,rC,rD,rE,rF,rG,rH,rI,exW];rfl
theorem qH1(q:Nat)(t:Bool)(rows:List (List PVal))(L:Int)(x4:TVal)(h:Heap):L17 A q 1 [kP (.im 0),x4,nlV t rows,kI L,kI L] h=vfin true q [.c (.p (.int .i64 0))] h:=by
 rw[qGL,b17_1];simp (maxSteps:=9999999) +contextual only[exa,rA,rB,rC,rD,rE,rF,rG,rH,rI,exW,Int.lt_irrefl]
end
abbrev reN(N:Nat):RE:=⟨5000,12,65536,treeN N⟩
section
variable {A:Oracle}
theorem qH9(e:RE)(hw:e.write≤1000000)(hs:e.steps≤1000000){out:List UInt8}{k:Int}(x:Int)(hx:rngI x)(d a1 a2 a3:Int)(n q:Nat)(t:Bool)(rows:List (List PVal))(i:Nat)(h1:rows[i]?=some (ndG 3 a1 [] [120] (onePipe (opK 1 [] [] 0 .nilslice))))(h2:rows[i+1]?=some (ndG 2 a2 [] [] (onePipe (opK 1 [120] [] 0 .nilslice))))(h3:rows[i+2]?=some (ndG 1 a3 [44] [] .nilslice))
  (hl:rows.length=i+3) (hi:i≤100) (h0:0≤k) (hk:k+5≤e.steps) (ho:((out.length+22:Nat):Int)≤e.write) (h:Heap) (X:RunAt h e out k n) (o4:h.get (.own 4 1)=some (.cells (scV .nilslice (vI x) d) 0)) :
  ∃ h',RunAt h' e (out++Lib.itoa x++[44]) (k+5) n∧L17 A q 1 [kP (.im 0),pO 4 1,nlV t rows,kI (rows.length:Int),kI (i:Int)] h=vfin true q [.c (.p (.int .i64 0))] h':=by
 have il:=qBG x hx.1 hx.2;have hL:(rows.length:Int)≤1000:=by omega
 obtain⟨g1,X1,p1,e1⟩:=qFX (A:=A) e (vI x) d a1 n q t rows (rows.length:Int) i [120] true (.slice 7 true [opK 1 [] [] 0 .nilslice]) (vI x) (k1:=k+1+1) h1 (by omega) hL h0 (by omega) hs rfl rfl (qBO rfl (qG9 .nilslice (vI x) d rfl e out (k+1) (by omega) (by omega) hs)) h X o4;rw[show k+1+1=k+2 by omega] at X1;obtain⟨g2,X2,p2,e2⟩:=qCK (A:=A) (k1:=k+2+1+1) e (varsP false [120] (vI x)) (vI x) d a2 n q t rows (rows.length:Int) (i+1) 2 [] true (.slice 7 true [opK 1 [120] [] 0 .nilslice]) (vI x) (by decide) (by decide) h2 (by omega) hL (by omega) (by omega) hs rfl rfl
  (qBO rfl (qKN false [120] (by decide) (vI x) (vI x) d rfl e out (k+2+1) (by omega) (by omega) hs)) (qBO rfl (qEm (varsP false [120] (vI x)) e out (k+2+1+1) (vI x) (vI x) d a2 _ rfl rfl hx (by show((out.length+(Lib.itoa x).length:Nat):Int)≤_; omega) hw)) g1 X1 p1
 rw[show k+2+1+1=k+4 by omega] at X2;obtain⟨g3,X3,p3,e3⟩:=qI5 (A:=A) e (varsP false [120] (vI x)) (vI x) d a3 n q t rows (rows.length:Int) (i+2) [44] h3 (by omega) hL (by omega) (by omega) hs (by decide) (by rw[List.length_append]; show((out.length+(Lib.itoa x).length+1:Nat):Int)≤_; omega) hw g2 X2 p2;rw[show k+4+1=k+5 by omega] at X3;refine⟨g3,X3,e1.trans (e2.trans (e3.trans ?_))⟩;rw[show((i+2+1:Nat):Int)=(rows.length:Int) by omega];exact qH1 q t rows _ _ g3
end
def outsD:Nat→Int→List UInt8
 |0,x=>Lib.itoa x++[44]
 |m+1,x=>outsD m (IntKind.i64.wrap (x+1))++Lib.itoa x++[44]
theorem qDN(x:Int):rngI (IntKind.i64.wrap x):=by
 unfold rngI IntKind.wrap;simp[IntKind.bits,IntKind.signed];split <;> omega
theorem qB8:∀ (m:Nat) (x:Int),rngI x→(outsD m x).length≤22*(m+1)
 |0,x,hx=>by
  have:=qBG x hx.1 hx.2;show(Lib.itoa x++[44]).length≤_;simp; omega
 |m+1,x,hx=>by
  have:=qBG x hx.1 hx.2;have:=qB8 m _ (qDN (x+1));show(outsD m (IntKind.i64.wrap (x+1))++Lib.itoa x++[44]).length≤_;simp; omega
theorem n17:labsB c17=true:=by kernel_rfl
theorem n39:labsB c39=true:=by kernel_rfl
theorem n62:labsB c62=true:=by kernel_rfl
theorem qMA:((List.range 10).all fun N=>(List.range (N+1)).all fun j=>pT (nlV false (bodyJ N j)))=true:=by kernel_rfl
theorem qIQ(N j:Nat)(hN:N<10)(hj:j≤N):pT (nlV false (bodyJ N j))=true:=List.all_eq_true.1 (List.all_eq_true.1 qMA N (List.mem_range.2 hN)) j (List.mem_range.2 (by omega))
section
variable [Sym] {G:Nat→Option (List PVal)}
theorem qOE(hm:Tryz.prog.follows .mixedOrders=true)(hT:TabM Tryz.prog G tab.get)(hS:FSound Tryz.prog G S)(N:Nat)(hN:N<10):∀ (m j:Nat),j+m=N→∀ (x:Int),rngI x→∀ (out:List UInt8) (k:Int),0≤k→k+(8*m+5:Nat)≤5000→out.length+22*(m+1)≤60000 →
  ∃ A,FSound Tryz.prog G A∧RunM A 17 [aC (scV .nilslice (vI x) ((j+1:Nat):Int)),nlV false (bodyJ N j)] (reN N) out k (kI 0) (out++outsD m x) (k+(8*m+5:Nat)):=by
 intro m
 induction m with
 |zero =>
  intro j hj x hx out k h0 hk ho;obtain rfl:j=N:=by omega
  refine lvl hm hT hS qCJ k17 n17 (Z:=Z17) (zapR_ok _) rfl rfl ?_;have hb:bodyJ j j=[ndG 3 ((51+67*j:Nat):Int) [] [120] (onePipe (opK 1 [] [] 0 .nilslice)),ndG 2 ((62+67*j:Nat):Int) [] [] (onePipe (opK 1 [120] [] 0 .nilslice)),ndG 1 ((68+67*j:Nat):Int) [44] [] .nilslice]:=by unfold bodyJ; rw[if_neg (Nat.lt_irrefl _)]
  have hl:(bodyJ j j).length=0+3:=by rw[hb]; rfl
  obtain⟨h',X',e'⟩:=qH9 (A:=fun _ _ _=>none) (reN j) (by show(65536:Int)≤1000000; decide) (by show(5000:Int)≤1000000; decide) (out:=out) (k:=k) x hx ((j+1:Nat):Int) _ _ _ (cg (reN j) out k).length (cg (reN j) out k).length false (bodyJ j j) 0 (by rw[hb]; rfl) (by rw[hb]; rfl) (by rw[hb]; rfl) hl (by decide) h0 hk (by show((out.length+22:Nat):Int)≤65536; omega) _ ((qAX (reN j) out k).own 4 1 (.cells (scV .nilslice (vI x) ((j+1:Nat):Int)) 0)) (by simp only[exa,rA,rB,rC,rD,rE,rF,rG,rH,rI]);refine⟨h',by rw[show out++outsD 0 x=out++Lib.itoa x++[44] from(List.append_assoc ..).symm]; exact X',?_⟩;exact(qDq (reN j) out k .nilslice (vI x) _ _ false (bodyJ j j)).trans e'
 |succ m ih =>
  intro j hj x hx out k h0 hk ho;have hjN:j<N:=by omega
  have hx':=qDN (x+1);have hol:=qB8 m _ hx';obtain⟨A0,S0,R0⟩:=ih (j+1) (by omega) (IntKind.i64.wrap (x+1)) hx' out (k+3) (by omega) (by omega) (by omega);have hrow:([.str [],.slice 9 false mainR]::defsJ N)[j+1+1]?=some [.str (nmJ (j+1)),.slice 9 false (bodyJ N (j+1))]:=by
   show(defsJ N)[j+1]?=_;unfold defsJ;rw[List.getElem?_map,List.getElem?_range (by omega)]; rfl
  obtain⟨A1,S1,R1⟩:=lvl hm hT hS S0 k62 n62 (Z:=zN) zapN_ok (g:=62) (ps:=[aC (scV .nilslice (vI x) ((j+1:Nat):Int)),kS (nmJ (j+1)),aC (vC (vI (IntKind.i64.wrap (x+1))))]) rfl (v := .c (.p (.int .i64 0))) rfl
   (qIJ (A:=A0) (reN N) N (j+1) hN (by omega) rfl (.slice 9 false (bodyJ N (j+1))) hrow (qIQ N (j+1) hN (by omega)) .nilslice (vI x) (vI (IntKind.i64.wrap (x+1))) ((j+1:Nat):Int) (by omega) (by show((j+1:Nat):Int)<12; omega) (by show(12:Int)≤1000; decide) rfl (by
    rw[show((j+1:Nat):Int)+1=((j+1+1:Nat):Int) by omega]; exact R0))
  have hb:bodyJ N j=[ndG 9 ((51+67*j:Nat):Int) [] (nmJ (j+1)) (onePipe addOp),ndG 3 ((78+67*j:Nat):Int) [] [120] (onePipe (opK 1 [] [] 0 .nilslice)),ndG 2 ((89+67*j:Nat):Int) [] [] (onePipe (opK 1 [120] [] 0 .nilslice)),ndG 1 ((95+67*j:Nat):Int) [44] [] .nilslice]:=by unfold bodyJ; rw[if_pos hjN]
  obtain⟨A2,S2',R2⟩:=lvl hm hT hS S1 k39 n39 (Z:=zN) zapN_ok (g:=39) (ps:=[aC (scV .nilslice (vI x) ((j+1:Nat):Int)),aC (pcells (ndG 9 ((51+67*j:Nat):Int) [] (nmJ (j+1)) (onePipe addOp))),aC (vC (vI (IntKind.i64.wrap (x+1))))]) rfl (v := .c (.p (.int .i64 0))) rfl
   (qEu (A:=A1) (reN N) .nilslice (vI x) (vI (IntKind.i64.wrap (x+1))) ((j+1:Nat):Int) ((51+67*j:Nat):Int) (nmJ (j+1)) (onePipe addOp) rfl R1)
  refine lvl hm hT hS S2' k17 n17 (Z:=Z17) (zapR_ok _) rfl rfl ?_;have hl:(bodyJ N j).length=1+3:=by rw[hb]; rfl
  obtain⟨h1,X1,p1,e1⟩:=qCK (A:=A2) (k1:=k+1+2) (reN N) .nilslice (vI x) ((j+1:Nat):Int) ((51+67*j:Nat):Int) (cg (reN N) out k).length (cg (reN N) out k).length false (bodyJ N j) ((bodyJ N j).length:Int) 0 9 (nmJ (j+1)) true (.slice 7 true [addOp]) (vI (IntKind.i64.wrap (x+1))) (by decide) (by decide) (by rw[hb]; rfl) (by rw[hl]; decide) (by rw[hl]; decide) h0 (by show k<5000; omega) (by show(5000:Int)≤1000000; decide) rfl rfl
   (qBO rfl (qMM x ((j+1:Nat):Int) (reN N) out (k+1) (by omega) (by show k+1+1<5000; omega) (by show(5000:Int)≤1000000; decide))) (by rw[show k+1+2=k+3 by omega]; exact R2) _ ((qAX (reN N) out k).own 4 1 (.cells (scV .nilslice (vI x) ((j+1:Nat):Int)) 0)) (by simp only[exa,rA,rB,rC,rD,rE,rF,rG,rH,rI])
  obtain⟨h',X',e'⟩:=qH9 (A:=A2) (reN N) (by show(65536:Int)≤1000000; decide) (by show(5000:Int)≤1000000; decide) (out:=out++outsD m (IntKind.i64.wrap (x+1))) (k:=k+3+(8*m+5:Nat)) x hx ((j+1:Nat):Int) _ _ _ (cg (reN N) out k).length (cg (reN N) out k).length false (bodyJ N j) 1 (by rw[hb]; rfl) (by rw[hb]; rfl) (by rw[hb]; rfl) hl (by decide) (by omega) (by show k+3+(8*m+5:Nat)+5≤5000; omega) (by rw[List.length_append]; show(((out.length+(outsD m (IntKind.i64.wrap (x+1))).length)+22:Nat):Int)≤65536; omega) h1 X1 p1;refine⟨h',?_,?_⟩
  ·rw[show k+(8*(m+1)+5:Nat)=k+3+(8*m+5:Nat)+5 by omega,show out++outsD (m+1) x=out++outsD m (IntKind.i64.wrap (x+1))++Lib.itoa x++[44] by
    show out++(outsD m (IntKind.i64.wrap (x+1))++Lib.itoa x++[44])=_
    simp[List.append_assoc]]
   exact X'
  ·exact(qDq (reN N) out k .nilslice (vI x) _ _ false (bodyJ N j)).trans (e1.trans e')
end
theorem qNf:Lib.itoa 1=[49]:=by
 rw[Lib.itoa,if_neg (by decide)];show Lib.decDigits 1=_;rw[Lib.decDigits,dif_pos (by decide)]; rfl
section
variable [Sym] {G:Nat→Option (List PVal)}
theorem qOL(hm:Tryz.prog.follows .mixedOrders=true)(hT:TabM Tryz.prog G tab.get)(hS:FSound Tryz.prog G S)(N:Nat)(hN:N<10)(v:Int)(hv:rngI v) :
  ∃ A,FSound Tryz.prog G A∧RunM A 17 [aC (scV .nilslice (vI v) 0),nlV false mainR] (reN N) [] 0 (kI 0) (outsD N v++[49]) ((8*N+11:Nat):Int):=by
 have hs:(reN N).steps≤1000000:=by show(5000:Int)≤1000000; decide
 have hw:(reN N).write≤1000000:=by show(65536:Int)≤1000000; decide
 have hst:(reN N).steps=5000:=rfl;have hol:=qB8 N v hv;obtain⟨A0,S0,R0⟩:=qOE hm hT hS N hN N 0 (by omega) v hv [] 4 (by decide) (by omega) (by show 0+22*(N+1)≤60000; omega);rw[List.nil_append] at R0;have hrow:([.str [],.slice 9 false mainR]::defsJ N)[0+1]?=some [.str (nmJ 0),.slice 9 false (bodyJ N 0)]:=by
  show(defsJ N)[0]?=_;unfold defsJ;rw[List.getElem?_map,List.getElem?_range (by omega)]; rfl
 obtain⟨A1,S1,R1⟩:=lvl hm hT hS S0 k62 n62 (Z:=zN) zapN_ok (g:=62) (ps:=[aC (scV (varsP false [120] (vI 1)) (vI v) 0),kS (nmJ 0),aC (vC (vI v))]) rfl (v := .c (.p (.int .i64 0))) rfl
  (qIJ (A:=A0) (reN N) N 0 hN (by omega) rfl (.slice 9 false (bodyJ N 0)) hrow (qIQ N 0 hN (by omega)) (varsP false [120] (vI 1)) (vI v) (vI v) 0 (by decide) (by show(0:Int)<12; decide) (by show(12:Int)≤1000; decide) rfl R0)
 obtain⟨A2,S2',R2⟩:=lvl hm hT hS S1 k39 n39 (Z:=zN) zapN_ok (g:=39) (ps:=[aC (scV (varsP false [120] (vI 1)) (vI v) 0),aC (pcells (ndG 9 11 [] (nmJ 0) (onePipe (opK 1 [] [] 0 .nilslice)))),aC (vC (vI v))]) rfl (v := .c (.p (.int .i64 0))) rfl
  (qEu (A:=A1) (reN N) (varsP false [120] (vI 1)) (vI v) (vI v) 0 11 (nmJ 0) (onePipe (opK 1 [] [] 0 .nilslice)) rfl R1)
 refine lvl hm hT hS S2' k17 n17 (Z:=Z17) (zapR_ok _) rfl rfl ?_;have X0:=(qAX (reN N) [] 0).own 4 1 (.cells (scV .nilslice (vI v) 0) 0);obtain⟨g1,X1,p1,e1⟩:=qFX (A:=A2) (reN N) (vI v) 0 0 (cg (reN N) [] 0).length (cg (reN N) [] 0).length false mainR 3 0 [120] true (.slice 7 true [opK 3 [] [] 1 .nilslice]) (vI 1) (k1:=0+1+1) rfl (by decide) (by decide) (by decide) (by rw[hst]; decide) hs rfl rfl
  (qBO rfl (qL8 .nilslice (vI v) 0 1 rfl (reN N) [] (0+1) (by decide) (by rw[hst]; decide) hs)) _ X0 (by simp only[exa,rA,rB,rC,rD,rE,rF,rG,rH,rI])
 obtain⟨g2,X2,p2,e2⟩:=qCK (A:=A2) (k1:=4) (reN N) (varsP false [120] (vI 1)) (vI v) 0 11 (cg (reN N) [] 0).length (cg (reN N) [] 0).length false mainR 3 1 9 (nmJ 0) true (.slice 7 true [opK 1 [] [] 0 .nilslice]) (vI v) (by decide) (by decide) rfl (by decide) (by decide) (by decide) (by rw[hst]; decide) hs rfl rfl
  (qBO rfl (qG9 (varsP false [120] (vI 1)) (vI v) 0 rfl (reN N) [] 3 (by decide) (by rw[hst]; decide) hs)) R2 g1 X1 p1
 obtain⟨g3,X3,p3,e3⟩:=qCK (A:=A2) (k1:=4+((8*N+5:Nat):Int)+1+1) (reN N) (varsP false [120] (vI 1)) (vI v) 0 30 (cg (reN N) [] 0).length (cg (reN N) [] 0).length false mainR 3 2 2 [] true (.slice 7 true [opK 1 [120] [] 0 .nilslice]) (vI 1) (by decide) (by decide) rfl (by decide) (by decide) (by omega) (by rw[hst]; omega) hs rfl rfl
  (qBO rfl (qKN false [120] (by decide) (vI v) (vI 1) 0 rfl (reN N) (outsD N v) (4+((8*N+5:Nat):Int)+1) (by omega) (by rw[hst]; omega) hs))
  (qBO rfl (qEm (varsP false [120] (vI 1)) (reN N) (outsD N v) (4+((8*N+5:Nat):Int)+1+1) (vI v) (vI 1) 0 30 _ rfl rfl (by show rngI 1; unfold rngI; decide) (by show(((outsD N v).length+(Lib.itoa 1).length:Nat):Int)≤65536; rw[qNf]; show(((outsD N v).length+1:Nat):Int)≤65536; omega) hw)) g2 X2 p2
 refine⟨g3,?_,?_⟩
 ·rw[show((8*N+11:Nat):Int)=4+((8*N+5:Nat):Int)+1+1 by omega];rw[show(vI 1).n=1 from rfl,qNf] at X3;exact X3
 ·exact(qDq (reN N) [] 0 .nilslice (vI v) 0 _ false mainR).trans (e1.trans (e2.trans (e3.trans (qH1 _ false mainR 3 _ g3))))
end
theorem qPv:Om 16 [kI 5000,kI 5000] []=some (kI 5000,[]):=(qAE rfl).trans (qAc blks_ok 50 16 0 0 _ _ _ (by kernel_rfl))
theorem qO7(v:VT)(sm:smV v):Om 18 [kA v.row] []=some (kA (ownV v).row,[]):=by
 refine(qAE rfl).trans ?_;show lim tab.get S 18 0 0 [kA v.row] Go.AI.h0=_;rw[w18_0,b18_0];have U:CAL 41 [.v (.agg [.p (.int .i64 5),.p (.bool false),.p (.int .i64 0),.p (.str []),.p (.slice 1 true [[.str []]]),.p (.slice 6 true [v.row])]),kS []] (.tup [.agg (pcells (ownV v).row),.c (.p (.bool true))]):=fun{β k h d}=>by
  have e:=u93 (k:=k) (h:=h) (d:=d) (boxT v) [] (qO5 v sm);rw[qMK] at e;exact e
 simp (maxSteps:=9999999) +contextual only[exa,rA,rB,rC,rD,rE,rF,rG,rH,rI,exY,U,qGF _ (VT.row_len v),qBF _ (VT.row_len (ownV v)),qLQ]
abbrev callsQ:AObj := .cells [.mref (.im 1),.mref (.im 2)] 0
abbrev clC:List AObj:=[callsQ,mapO,mapO]
theorem qFg:Rooted clC:=by
 refine⟨fun o ho => ?_,rfl⟩;simp only[List.mem_cons,List.not_mem_nil,or_false] at ho
 rcases ho with rfl|rfl|rfl
 ·exact⟨fun e=>(by cases e),fun r hr=>by
   have:r = .im 1∨r = .im 2:=by simpa [AObj.refs,Cell.refs] using hr
   rcases this with rfl|rfl
   ·exact⟨1,rfl,by simp⟩
   ·exact⟨2,rfl,by simp⟩⟩
 ·exact⟨fun e=>(by cases e),fun r hr=>by simp[AObj.refs] at hr⟩
 ·exact⟨fun e=>(by cases e),fun r hr=>by simp[AObj.refs] at hr⟩
theorem qCA:Om 9 [kNil] []=some (kP (.im 0),clC):=(qAE rfl).trans (qAc blks_ok 500 9 0 0 _ _ _ (by kernel_rfl))
theorem qOC:Om 16 [kI 12,kI 12] []=some (kI 12,[]):=(qAE rfl).trans (qAc blks_ok 50 16 0 0 _ _ _ (by kernel_rfl))
abbrev limN:List Cell:=[.p (.int .i64 5000),.p (.int .i64 12),.p (.int .i64 (-1))]
section
variable {A:Oracle}
theorem v8_0(q:Nat)(x0 x1 x2 x3:TVal)(h:Heap):limZ c8 (mkO A) zN q 0 [x0,x1,x2,x3] h=b8_0 (mkO A) (jumpZ c8 (mkO A) zN q) q x0 x1 x2 x3 h:=(qAU _ _ _).trans (e8_0 ..).symm
theorem v8_1(q:Nat)(x0 x1 x2 x3:TVal)(h:Heap):limZ c8 (mkO A) zN q 1 [x0,x1,x2,x3] h=b8_1 (mkO A) (jumpZ c8 (mkO A) zN q) q x0 x1 x2 x3 h:=(qAU _ _ _).trans (e8_1 ..).symm
theorem v8_2(q:Nat)(x0 x1:TVal)(h:Heap):limZ c8 (mkO A) zN q 2 [x0,x1] h=b8_2 (mkO A) (jumpZ c8 (mkO A) zN q) q x0 x1 h:=(qAU _ _ _).trans (e8_2 ..).symm
theorem j8(q l:Nat)(vs:List TVal)(h:Heap):jumpZ c8 (mkO A) zN q l vs h=limZ c8 (mkO A) zN q l vs h:=rfl
theorem qPm(N:Nat)(v:VT)(sm:smV v)(b:UInt8)(l:List UInt8)(k:Int)(t2:Bool)(rows:List (List PVal))(name:List UInt8)(body:PVal)(hrows:treeN N = .slice 2 t2 rows)(h0r:rows[0]?=some [.str name,body])(hbp:pT (.v (.c (.p body)))=true)(M:RunM A 17 [aC (scV .nilslice (ownV v) 0),.v (.c (.p body))] (reN N) [] 0 (kI 0) (b::l) k) :
  ∃ qs,limZ c8 (mkO A) zN 3 0 [.v (.c (.p (treeN N))),aC (vC v),kP (.im 0),aC limN] ⟨clC,.nil⟩=some (.tup [.c (.p (.slice 1 false ((b::l).map byR))),.c (.p (.int .i64 k)),.c (.p (.int .i64 0))],qs)∧3≤qs.length:=by
 have U1:=fun(β:Type) (kt:TVal→Heap→AI.Touch→Option β) (h:Heap) (d:Nat)=>qBp (O:=mkO A) (kt:=kt) (h:=h) (d:=d) 16 [kI 5000,kI 5000] _ rfl ((qCS rfl).trans qPv) rfl
 have U2:=fun(β:Type) (kt:TVal→Heap→AI.Touch→Option β) (h:Heap) (d:Nat)=>qBp (O:=mkO A) (kt:=kt) (h:=h) (d:=d) 16 [kI 12,kI 12] _ rfl ((qCS rfl).trans qOC) rfl
 have U18:=fun(β:Type) (kt:TVal→Heap→AI.Touch→Option β) (h:Heap) (d:Nat)=>qBp (O:=mkO A) (kt:=kt) (h:=h) (d:=d) 18 [kA v.row] _ (by simp only[exP]) ((qCS rfl).trans (qO7 v sm)) (by simp only[exP])
 have ev:kA v.row=aC (vC v):=by rw[VT.row_eq]; rfl
 have eo:kA (ownV v).row=aC (vC (ownV v)):=by rw[VT.row_eq]; rfl
 rw[ev,eo] at U18;simp only[List.map_cons,List.map_nil] at U1 U2 U18;have hlr:(rows.length:Int)≠0∧(0:Int)<(rows.length:Int):=by
  have:=(List.getElem?_eq_some_iff.1 h0r).1;omega
 rw[v8_0,b8_0];have B1:∀ (β:Type) (kt:TVal→Heap→AI.Touch→Option β) (h:Heap),vtouch (mkO A) (.build [.p (.int .i64 0),.p (.int .i64 0),.p (.int .i64 0)] [(0,1,.k (kI 5000)),(1,1,.k (kI 12)),(2,1,.k (.v (.c (.p (.int .i64 (-1))))))]) h 20 kt=kt (aC [.p (.int .i64 5000),.p (.int .i64 12),.p (.int .i64 (-1))]) h noTouch:=fun _ _ _=>rfl
 have B2:∀ (β:Type) (kt:TVal→Heap→AI.Touch→Option β) (h:Heap),vtouch (mkO A) (.build [.p (.int .i64 0),.p (.int .i64 0),.p (.int .i64 0),.p .nilslice,.p .nilptr,.p .nilslice,.p (.int .i64 0)] [(0,3,.k (aC [.p (.int .i64 5000),.p (.int .i64 12),.p (.int .i64 (-1))])),(3,1,.k (.v (.c (.p (treeN N))))),(4,1,.k (kP (.im 0)))]) h 23 kt =
  kt (aC [.p (.int .i64 5000),.p (.int .i64 12),.p (.int .i64 (-1)),.p (treeN N),.ptr (.im 0) 0,.p .nilslice,.p (.int .i64 0)]) h noTouch:=fun _ _ _=>rfl
 have B3:∀ (β:Type) (kt:TVal→Heap→AI.Touch→Option β) (h:Heap) (cs:List Cell),vtouch (mkO A) (.box (.k (aC cs)) false) h 24 kt=kt (.v (.c (.ptr (.own 24 (h.gen 24+1)) 0))) (h.own 24 (h.gen 24+1) (.cells cs 0)) ⟨[],[.own 24],false⟩:=fun _ _ _ _=>rfl
 simp (maxSteps:=9999999) +contextual only[exa,rA,rB,rC,rD,rE,rF,rG,rH,rI,exW,exY,U1,U2,B1,B2,B3];generalize hH:(((({ ims:=clC,owns:=TM.nil }:Heap).own 5 1 (AObj.cells (vC v) 0)).own 7 1 (AObj.cells limN 0)).own 24 1 (.cells [.p (.int .i64 5000),.p (.int .i64 12),.p (.int .i64 (-1)),.p (treeN N),.ptr (.im 0) 0,.p .nilslice,.p (.int .i64 0)] 0)).own 24 1 (.cells [.p (.int .i64 5000),.p (.int .i64 12),.p (.int .i64 65536),.p (treeN N),.ptr (.im 0) 0,.p .nilslice,.p (.int .i64 0)] 0)=H;have g24:H.get (.own 24 1)=some (.cells [.p (.int .i64 5000),.p (.int .i64 12),.p (.int .i64 65536),.p (treeN N),.ptr (.im 0) 0,.p .nilslice,.p (.int .i64 0)] 0):=by rw[← hH]; simp only[exa,rA,rB,rC,rD,rE,rF,rG,rH,rI]
 have g5:H.get (.own 5 1)=some (.cells (vC v) 0):=by rw[← hH]; simp only[exa,rA,rB,rC,rD,rE,rF,rG,rH,rI]
 have i0:H.get (.im 0)=some callsQ:=by rw[← hH]; rfl
 have i1:H.get (.im 1)=some mapO:=by rw[← hH]; rfl
 have i2:H.get (.im 2)=some mapO:=by rw[← hH]; rfl
 have AA:At H [.own 24 1,.im 0,.im 1,.im 2] (cg (reN N) [] 0):=by
  refine⟨by decide,rfl,fun i r o e1 e2 => ?_⟩
  match i with
  |0=>cases e1; cases e2; exact g24
  |1=>cases e1; cases e2; exact i0
  |2=>cases e1; cases e2; exact i1
  |3=>cases e1; cases e2; exact i2
  |i+4=>simp at e1
 obtain⟨h2,t2',ρ,_,c2,A2,e2,K2,G2,L2⟩:=qHp M (qAP _ _ _) (qAP _ _ _).1 (qA8 _ _ _).1 (qAO rfl (qAO hbp rfl)) (by rfl) AA rfl;have C2:=fun(β:Type) (kt:TVal→Heap→AI.Touch→Option β)=>c2 (β:=β) 48 kt
 simp only[List.map_cons,List.map_nil] at C2;have T1:AI.Touch.apart noTouch noTouch=true:=rfl;have IA:∀ (β:Type) (k:TVal→Heap→Option β) (h:Heap),viaddr 2 (.v (.c (.p (treeN N)))) (kI 0) h k=k (.v (.c (.p (.pptr [.str name,body] 0)))) h:=fun β k h=>by
  rw[hrows];simp (maxSteps:=9999999) +contextual only[exa,rA,rB,rC,rD,rE,rF,rG,rH,rI,h0r,Int.toNat_zero]
 have FA:∀ (β:Type) (kt:TVal→Heap→AI.Touch→Option β) (h:Heap),vtouch (mkO A) (.faddr 1 (.k (.v (.c (.p (.pptr [.str name,body] 0)))))) h 46 kt=kt (.v (.c (.p (.pptr [.str name,body] 1)))) h noTouch:=fun _ _ _=>rfl
 have LA:∀ (β:Type) (kt:TVal→Heap→AI.Touch→Option β) (h:Heap),vtouch (mkO A) (.load false 1 (.k (.v (.c (.p (.pptr [.str name,body] 1)))))) h 47 kt=kt (.v (.c (.p body))) h noTouch:=fun _ _ _=>rfl
 have B4:∀ (β:Type) (kt:TVal→Heap→AI.Touch→Option β) (h:Heap),vtouch (mkO A) (.build [.p (.int .i64 0),.p (.bool false),.p (.int .i64 0),.p (.str []),.p .nilslice,.p .nilslice,.p .nilslice,.p (.int .i64 0)] [(0,6,.k (aC (vC (ownV v))))]) h 43 kt=kt (aC (scV .nilslice (ownV v) 0)) h noTouch:=fun _ _ _=>rfl
 have LN:∀ (β:Type) (k:TVal→Heap→Option β) (h:Heap),vlen (mkO A) 2 (.v (.c (.p (treeN N)))) h 38 k=k (kI (rows.length:Int)) h:=fun β k h=>by rw[hrows]; simp (maxSteps:=9999999) +contextual only[exa,rA,rB,rC,rD,rE,rF,rG,rH,rI]
 rw[j8,v8_1,b8_1];simp (maxSteps:=9999999) +contextual only[exa,rA,rB,rC,rD,rE,rF,rG,rH,rI,exW,exY,LN,hlr.2,g5,U18,B4,IA,FA,LA,C2,T1];rw[j8,v8_2,b8_2];have g24':h2.get (.own 24 1)=some ((runO (reN N) (outT (b::l) (.im 4)) k).ren (outR ρ)):=A2.get 0 _ _ e2 rfl;obtain⟨r4,hr4⟩:∃ r4,outR ρ (.im 4)=some r4:=by
  have:=(qAR (ρ:=ρ) (i:=4) (by rw[A2.len]; exact Nat.lt_succ_self 4)).1;exact⟨_,this⟩
 obtain⟨r1,hr1⟩:∃ r1,outR ρ (.im 1)=some r1:=by
  have:=(qAR (ρ:=ρ) (i:=1) (by rw[A2.len]; show 1<5; decide)).1;exact⟨_,this⟩
 have g24'':h2.get (.own 24 1)=some (.cells [.p (.int .i64 5000),.p (.int .i64 12),.p (.int .i64 65536),.p (treeN N),.ptr r1 0,outT (b::l) r4,.p (.int .i64 k)] 0):=by
  rw[g24'];simp only[AObj.ren,List.map_cons,List.map_nil,Cell.ren,hr1,hr4];rfl
 simp (maxSteps:=9999999) +contextual only[exa,rA,rB,rC,rD,rE,rF,rG,rH,rI,exW,g24''];obtain⟨qs,q1,q2⟩:=qPE (h:=h2) true 3 [.c (outT (b::l) r4),.c (.p (.int .i64 k)),.c (.p (.int .i64 0))] (.tup [.c (.p (.slice 1 false ((b::l).map byR))),.c (.p (.int .i64 k)),.c (.p (.int .i64 0))]) rfl rfl;exact⟨qs,q1,q2⟩
end
open Go Go.AI
def isD(b:UInt8):Bool:=decide (48≤b.toNat)&&decide (b.toNat≤57)
def valD:List UInt8→Nat→Nat
 |[],a=>a
 |b::l,a=>valD l (10*a+(b.toNat - 48))
theorem qG6:∀ (l m:List UInt8) (a:Nat),valD (l++m) a=valD m (valD l a)
 |[],_,_=>rfl
 |b::l,m,a=>by rw[List.cons_append,valD,qG6 l m]; rfl
theorem qCQ:∀ (m u:Nat),u<m→valD (Lib.decDigits u) 0=u∧(∀ b∈Lib.decDigits u,isD b=true)∧Lib.decDigits u≠[]
 |0,_,h=>by omega
 |m+1,u,h=>by
  have one:∀ x,x<10→(UInt8.ofNat (48+x)).toNat=48+x:=fun x hx=>by rw[UInt8.toNat_ofNat',Nat.mod_eq_of_lt (by omega)]
  rw[Lib.decDigits];by_cases h1:u<10
  ·rw[dif_pos h1];refine⟨?_,fun b hb => ?_,by simp⟩
   ·rw[valD,valD,one u h1]; omega
   ·obtain rfl:=List.mem_singleton.1 hb;unfold isD;rw[one u h1];simp; omega
  ·rw[dif_neg h1];obtain⟨i1,i2,i3⟩:=qCQ m (u / 10) (by omega);refine⟨?_,fun b hb => ?_,by simp⟩
   ·rw[qG6,i1,valD,valD,one _ (by omega)]; omega
   ·rcases List.mem_append.1 hb with hb|hb
    ·exact i2 b hb
    ·obtain rfl:=List.mem_singleton.1 hb;unfold isD;rw[one _ (by omega)];simp; omega
theorem qCx:∀ (N u:Nat),u<10 ^ (N+1)→(Lib.decDigits u).length≤N+1
 |0,u,h=>by
  have hu:u<10:=by simpa using h
  rw[Lib.decDigits,dif_pos hu]; simp
 |N+1,u,h=>by
  rw[Lib.decDigits];split
  ·simp
  ·have:=qCx N (u / 10) (by rw[Nat.pow_succ] at h; omega);simp; omega
theorem qET:∀ (m u:Nat),u<m→(Lib.decDigits u).head?=some 48→u=0
 |0,_,h,_=>by omega
 |m+1,u,h,e=>by
  rw[Lib.decDigits] at e;by_cases h1:u<10
  ·rw[dif_pos h1] at e;have e1:UInt8.ofNat (48+u)=48:=by simpa using e
   have:(UInt8.ofNat (48+u)).toNat=48:=by rw[e1]; rfl
   rw[UInt8.toNat_ofNat',Nat.mod_eq_of_lt (by omega)] at this;omega
  ·rw[dif_neg h1] at e;have hne:=(qCQ (u / 10+1) (u / 10) (by omega)).2.2;have e1:(Lib.decDigits (u / 10)).head?=some 48:=by
    cases hd:Lib.decDigits (u / 10) with
    |nil=>exact absurd hd hne
    |cons a l=>rw[hd] at e; simpa using e
   have:=qET m (u / 10) (by omega) e1;omega
theorem num2(x0:TVal)(ds:List UInt8)(hd:∀ b∈ds,isD b=true)(hl:ds.length≤19)(h:Heap) :
  ∀ (i:Nat) (a:Nat),i≤ds.length→a<10 ^ i→lim tab.get S 75 0 2 [x0,kS ds,kN .u64 (a:Int),kI (i:Int)] h=lim tab.get S 75 0 3 [x0,kN .u64 ((valD (ds.drop i) a:Nat):Int)] h:=by
 refine qDw ds.length (fun i hi a hia ha => ?_) (fun i hi ihl a hia ha => ?_) <;> rw[w75_2,b75_2]
 ·have h1:¬ (i:Int)<(ds.length:Int):=by omega
  simp (maxSteps:=9999999) +contextual only[exa,rA,rB,rC,rD,rE,rF,rG,rH,rI,h1,qKP hi,valD]
 ·have h1:(i:Int)<(ds.length:Int):=by omega
  obtain⟨b,hb,hdr,hm⟩:=qCR hi;have hbd:=hd b hm;unfold isD at hbd;simp only[Bool.and_eq_true,decide_eq_true_eq] at hbd;have hp:(10:Nat) ^ i≤10 ^ 18:=Nat.pow_le_pow_right (by decide) (by omega);have hp2:(10:Nat) ^ 18=1000000000000000000:=by decide
  have w1:IntKind.u8.wrap ((b.toNat:Int) - 48)=((b.toNat - 48:Nat):Int):=by
   rw[qAI .u8 _ (by show(0:Int)≤_; omega) (by show _≤(255:Int); omega)]; omega
  have w2:IntKind.u64.wrap ((a:Int)*10)=((a*10:Nat):Int):=by rw[qCg _ (by omega) (by omega)]; omega
  have w3:IntKind.u64.wrap ((b.toNat - 48:Nat):Int)=((b.toNat - 48:Nat):Int):=qCg _ (by omega) (by omega);have w4:IntKind.u64.wrap (((a*10:Nat):Int)+((b.toNat - 48:Nat):Int))=((10*a+(b.toNat - 48):Nat):Int):=by rw[qCg _ (by omega) (by omega)]; omega
  simp (maxSteps:=9999999) +contextual only[exa,rA,rB,rC,rD,rE,rF,rG,rH,rI,h1,hb,w1,w2,w3,w4,qBh i (by omega)];rw[hdr,valD];exact ihl _ (by omega) (by rw[Nat.pow_succ]; omega)
theorem qKl(n:Int)(h1 : -9223372036854775808≤n)(h2:n≤9223372036854775807):Om 75 [kS (Lib.itoa n)] []=some (.tup [.c (.p (.int .i64 n)),.c (.p (.int .i64 0))],[]):=by
 refine(qAE rfl).trans ?_;show lim tab.get S 75 0 0 [kS (Lib.itoa n)] h0=_;have pw:(10:Nat) ^ 19=10000000000000000000:=by decide
 have one:((1:Nat):Int)=1:=rfl;unfold Lib.itoa;by_cases h0:n<0
 ·rw[if_pos h0];obtain⟨v1,v2,v3⟩:=qCQ (n.natAbs+1) n.natAbs (by omega);have ll:=qCx 18 n.natAbs (by omega);have sl:∀ {β:Type}{O:Oracle}{h:Heap}{d:Nat}{k:TVal→Heap→Option β},vop O (.slice 0 true (.k (kS (45::Lib.decDigits n.natAbs))) (some (.k (kI 1))) none none) h d k=k (kS (Lib.decDigits n.natAbs)) h:=fun{β O h d k}=>qME (45::Lib.decDigits n.natAbs) 1 (by simp)
  have h19:¬ (19:Int)<((Lib.decDigits n.natAbs).length:Int):=by omega
  rw[w75_0,b75_0];simp (maxSteps:=9999999) +contextual only[exa,rA,rB,rC,rD,rE,rF,rG,rH,rI,sl,show((45:UInt8).toNat:Int)=45 from rfl,Int.toNat_zero];rw[w75_1,b75_1];simp (maxSteps:=9999999) +contextual only[exa,rA,rB,rC,rD,rE,rF,rG,rH,rI,h19];refine(num2 _ _ v2 (by omega) _ 0 0 (by omega) (by decide)).trans ?_;rw[List.drop_zero,v1,w75_3,b75_3];have w5:¬ (9223372036854775808:Int)<((n.natAbs:Nat):Int):=by omega
  have w6:IntKind.i64.wrap (IntKind.u64.wrap (0 - ((n.natAbs:Nat):Int)))=n:=by
   have e:∀ z:Int,IntKind.u64.wrap z=z % 18446744073709551616:=fun z=>rfl
   rw[e];have e2:(0 - ((n.natAbs:Nat):Int)) % 18446744073709551616=n+18446744073709551616:=by omega
   rw[e2];show(if (true&&decide ((n+18446744073709551616) % 18446744073709551616≥(9223372036854775808:Int)))=true then _ else _)=n;have e3:(n+18446744073709551616) % 18446744073709551616=n+18446744073709551616:=by omega
   rw[e3,if_pos (by simp; omega)];show(n+18446744073709551616) % 18446744073709551616 - 18446744073709551616=n;omega
  simp (maxSteps:=9999999) +contextual only[exa,rA,rB,rC,rD,rE,rF,rG,rH,rI,show((45:UInt8).toNat:Int)=45 from rfl,Int.toNat_zero,w5,w6,oneOf]
 ·rw[if_neg h0];obtain⟨v1,v2,v3⟩:=qCQ (n.toNat+1) n.toNat (by omega);have ll:=qCx 18 n.toNat (by omega);have h19:¬ (19:Int)<((Lib.decDigits n.toNat).length:Int):=by omega
  obtain⟨b,l,hbl⟩:∃ b l,Lib.decDigits n.toNat=b::l:=by
   cases hd:Lib.decDigits n.toNat with
   |nil=>exact absurd hd v3
   |cons b l=>exact⟨b,l,rfl⟩
  have hbd:=v2 b (by rw[hbl]; simp);unfold isD at hbd;simp only[Bool.and_eq_true,decide_eq_true_eq] at hbd;have b45:¬ ((b.toNat:Nat):Int)=45:=by omega
  have hidx:(Lib.decDigits n.toNat)[(0:Nat)]?=some b:=by rw[hbl]; rfl
  rw[w75_0,b75_0];simp (maxSteps:=9999999) +contextual only[exa,rA,rB,rC,rD,rE,rF,rG,rH,rI,hidx,b45,Int.toNat_zero];rw[w75_1,b75_1];simp (maxSteps:=9999999) +contextual only[exa,rA,rB,rC,rD,rE,rF,rG,rH,rI,h19];refine(num2 _ _ v2 (by omega) _ 0 0 (by omega) (by decide)).trans ?_;rw[List.drop_zero,v1,w75_3,b75_3];have w5:¬ (9223372036854775807:Int)<((n.toNat:Nat):Int):=by omega
  have w6:IntKind.i64.wrap ((n.toNat:Nat):Int)=n:=by rw[qAG _ (by omega) (by omega)]; omega
  simp (maxSteps:=9999999) +contextual only[exa,rA,rB,rC,rD,rE,rF,rG,rH,rI,hidx,b45,Int.toNat_zero,w5,w6,oneOf]
open Go Go.AI
abbrev P0:TVal := .v (.c (.ptr (.im 0) 0))
abbrev rdO(s:List UInt8)(p e:Int):AObj := .cells (pcells [.str s,.int .i64 p,.int .i64 e]) 0
theorem qPx(a b c x:PVal):put1 (pcells [a,b,c]) 1 [.p x]=pcells [a,x,c]:=rfl
theorem qKF(a b c:PVal):(pcells [a,b,c]).length=3:=rfl
theorem qAz(s:List UInt8)(p e:Int):plainO (rdO s p e):=qBJ _ 0
def noBl(s:List UInt8)(p:Nat):Prop:=∀ b,s[p]?=some b→b.toNat≠32∧b.toNat≠9∧b.toNat≠10∧b.toNat≠13
theorem qLp(s:List UInt8)(p:Nat)(e:Int)(hb:noBl s p):Om 44 [P0] [rdO s p e]=some (.tup [],[rdO s p e]):=by
 refine(qAE rfl).trans ?_;show lim tab.get S 44 1 0 [P0] { ims:=[rdO s p e],owns := .nil }=_;rw[w44_0,b44_0,w44_1,b44_1];by_cases h:p<s.length
 ·have h1:(p:Int)<(s.length:Int):=by omega
  obtain⟨b,hs,_,_⟩:=qCR h;obtain⟨q1,q2,q3,q4⟩:=hb b hs;have r1:¬ ((b.toNat:Nat):Int)=32:=by omega
  have r2:¬ ((b.toNat:Nat):Int)=9:=by omega
  have r3:¬ ((b.toNat:Nat):Int)=10:=by omega
  have r4:¬ ((b.toNat:Nat):Int)=13:=by omega
  simp (maxSteps:=9999999) +contextual only[exa,rA,rB,rC,rD,rE,rF,rG,rH,rI,h1,hs,r1,r2,r3,r4,oneOf]
 ·have h1:¬ (p:Int)<(s.length:Int):=by omega
  simp (maxSteps:=9999999) +contextual only[exa,rA,rB,rC,rD,rE,rF,rG,rH,rI,h1,oneOf]
theorem u67{β:Type}{k:TVal→Heap→Option β}{h:Heap}{d:Nat}(r:Ref)(s:List UInt8)(p:Nat)(e:Int)(hb:noBl s p)(hg:h.get r=some (rdO s p e)):vcall Om (.v (.c (.func 44 []))) [.v (.c (.ptr r 0))] h d k=k (.tup []) (h.put r (rdO s p e)) :=
 qDv 44 r 0 [] [] _ _ _ rfl rfl hg (qAz _ _ _) (qAz _ _ _) rfl (qLp s p e hb)
theorem qQi(s w:List UInt8)(p n:Nat)(a b:UInt8)(hs:s[p]?=some a)(hw:w[0]?=some b)(hn:0<n)(hab:a≠b):((s.take (p+n)).drop p)≠w:=by
 intro e;have:((s.take (p+n)).drop p)[0]?=some a:=by
  rw[List.getElem?_drop,List.getElem?_take,if_pos (by omega),Nat.add_zero,hs]
 rw[e,hw] at this;exact hab (Option.some.inj this).symm
def nullS:List UInt8:=[110,117,108,108]
theorem qOc(s:List UInt8)(p:Nat)(e:Int)(b:UInt8)(hs:s[p]?=some b)(hl:s.length≤100000)(q1:b≠110)(q2:b≠102)(q3:b≠116):Om 66 [P0] [rdO s p e]=some (.tup [.agg (pcells VT.nul.row),.c (.p (.bool false))],[rdO s p e]):=by
 obtain⟨hp,_⟩:=List.getElem?_eq_some_iff.1 hs;refine(qAE rfl).trans ?_;show lim tab.get S 66 1 0 [P0] { ims:=[rdO s p e],owns := .nil }=_;have step:∀ (w:List UInt8) (c:UInt8) (n:Nat) (hn:w.length=n) (h0:0<n) (hw:w[0]?=some c) (hbc:b≠c) {β:Type} {k:TVal→Heap→Option β} {h:Heap} {d:Nat},(p:Int)+(n:Int)≤(s.length:Int) →
   vop Om (.slice 0 true (.k (kS s)) (some (.k (kI (p:Int)))) (some (.k (kI ((p:Int)+(n:Int))))) none) h d k=k (kS ((s.take (p+n)).drop p)) h:=by
  intro w c n hn h0 hw hbc β k h d hle;exact qFy s p (p+n) (by omega) (by omega)
 rw[w66_0,b66_0];have three:∀ (i:Nat) (w:List UInt8) (c:UInt8) (n:Nat) (h:Heap),(i:Int)<3→([[.str nullS],[.str falseS],[.str trueS]]:List (List PVal))[i]?=some [.str w]→w.length=n→0<n→n≤10→w[0]?=some c→b≠c→h.get (.im 0)=some (rdO s p e)→∀ x2:TVal,
   lim tab.get S 66 1 1 [P0,x2,kSl 1 true [[.str nullS],[.str falseS],[.str trueS]],kI (i:Int)] h=lim tab.get S 66 1 1 [P0,x2,kSl 1 true [[.str nullS],[.str falseS],[.str trueS]],kI ((i+1:Nat):Int)] h:=by
  intro i w c n h hi hw hn h0 h10 hc hbc hg x2;have wa:IntKind.i64.wrap ((p:Int)+(n:Int))=(p:Int)+(n:Int):=qAG _ (by omega) (by omega);have lw:((w.length:Nat):Int)=(n:Int):=by rw[hn]
  conv=>lhs; rw[w66_1,b66_1]
  by_cases hle:(p:Int)+(n:Int)≤(s.length:Int)
  ·have hle':¬ (s.length:Int)<(p:Int)+(n:Int):=by omega
   have st:=fun{β:Type} {k:TVal→Heap→Option β} {h:Heap} {d:Nat}=>step w c n hn h0 hc hbc (k:=k) (h:=h) (d:=d) hle
   have ne:=qQi s w p n b c hs hc h0 hbc;simp (maxSteps:=9999999) +contextual only[exa,rA,rB,rC,rD,rE,rF,rG,rH,rI,hi,hw,lw,hg,wa,hle',st,ne,qBh i (by omega)]
  ·have hle':(s.length:Int)<(p:Int)+(n:Int):=by omega
   simp (maxSteps:=9999999) +contextual only[exa,rA,rB,rC,rD,rE,rF,rG,rH,rI,hi,hw,lw,hg,wa,hle',qBh i (by omega)]
 have B:∀ {β:Type}{O:Oracle}{h:Heap}{d:Nat}{k:TVal→Heap→Option β},vop O (.bslice 1 3 [.p (.str [])] [(0,.k (kS [110,117,108,108])),(1,.k (kS [102,97,108,115,101])),(2,.k (kS [116,114,117,101]))] false) h d k=k (kSl 1 true [[.str nullS],[.str falseS],[.str trueS]]) h:=fun{β O h d k}=>qAb _ _ rfl
 simp (maxSteps:=9999999) +contextual only[exa,rA,rB,rC,rD,rE,rF,rG,rH,rI,B];have g1:∀ o:AObj,((Heap.mk [rdO s p e] .nil).own 2 1 o).get (.im 0)=some (rdO s p e):=fun _=>rfl
 refine(three 0 nullS 110 4 _ (by decide) rfl rfl (by decide) (by decide) rfl q1 (g1 _) _).trans ?_;refine(three 1 falseS 102 5 _ (by decide) rfl rfl (by decide) (by decide) rfl q2 (g1 _) _).trans ?_;refine(three 2 trueS 116 4 _ (by decide) rfl rfl (by decide) (by decide) rfl q3 (g1 _) _).trans ?_;rw[w66_1,b66_1];have h3:((2+1:Nat):Int)=3:=rfl;simp (maxSteps:=9999999) +contextual only[exa,rA,rB,rC,rD,rE,rF,rG,rH,rI,h3];rw[w66_2,b66_2];simp (maxSteps:=9999999) +contextual only[exa,rA,rB,rC,rD,rE,rF,rG,rH,rI,qG5,oneOf];rfl
open Go Go.AI
theorem qMq(b:UInt8):Om 67 [kU b] []=some (kB (isD b),[]):=by
 refine(qAE rfl).trans ?_;show lim tab.get S 67 0 0 [kU b] h0=_;rw[w67_0,b67_0];unfold isD;by_cases h1:(b.toNat:Int)<48
 ·have h2:¬ 48≤b.toNat:=by omega
  simp (maxSteps:=9999999) +contextual only[exa,rA,rB,rC,rD,rE,rF,rG,rH,rI,h1,h2,oneOf]
 ·have h2:48≤b.toNat:=by omega
  by_cases h3:(57:Int)<(b.toNat:Int)
  ·have h4:¬ b.toNat≤57:=by omega
   simp (maxSteps:=9999999) +contextual only[exa,rA,rB,rC,rD,rE,rF,rG,rH,rI,h1,h2,h3,h4,oneOf]
  ·have h4:b.toNat≤57:=by omega
   simp (maxSteps:=9999999) +contextual only[exa,rA,rB,rC,rD,rE,rF,rG,rH,rI,h1,h2,h3,h4,oneOf]
theorem qFK{β:Type}{k:TVal→Heap→Option β}{h:Heap}{d:Nat}(b:UInt8):vcall Om (.v (.c (.func 67 []))) [kU b] h d k=k (kB (isD b)) h:=qAF 67 _ _ rfl (qMq b) rfl
theorem qFz(n:Int)(h1 : -9223372036854775808≤n)(h2:n≤9223372036854775807):∃ (m:Nat) (ds:List UInt8),(m=0∧Lib.itoa n=ds∨m=1∧Lib.itoa n=45::ds)∧(∀ b∈ds,isD b=true)∧ds≠[]∧ds.length≤19∧(ds[0]?=some 48→ds.length=1):=by
 have pw:(10:Nat) ^ 19=10000000000000000000:=by decide
 have z:Lib.decDigits 0=[48]:=by rw[Lib.decDigits,dif_pos (by decide)]; rfl
 have hd:∀ l:List UInt8,l[0]?=some 48→l.head?=some 48:=fun l h=>by cases l with|nil=>cases h|cons a l=>exact h
 unfold Lib.itoa;by_cases h0:n<0
 ·obtain⟨v1,v2,v3⟩:=qCQ (n.natAbs+1) n.natAbs (by omega);refine⟨1,Lib.decDigits n.natAbs,.inr ⟨rfl,by rw[if_pos h0]⟩,v2,v3,qCx 18 _ (by omega),fun e => ?_⟩;have:=qET (n.natAbs+1) n.natAbs (by omega) (hd _ e);rw[this,z]; rfl
 ·obtain⟨v1,v2,v3⟩:=qCQ (n.toNat+1) n.toNat (by omega);refine⟨0,Lib.decDigits n.toNat,.inl ⟨rfl,by rw[if_neg h0]⟩,v2,v3,qCx 18 _ (by omega),fun e => ?_⟩;have:=qET (n.toNat+1) n.toNat (by omega) (hd _ e);rw[this,z]; rfl
abbrev r2:TVal := .v (.c (.ptr (.own 2 1) 0))
theorem qMm(s:List UInt8)(e:Int)(x2:TVal)(h:Heap)(hg:h.get (.im 0)=some (rdO s 0 e))(hl:s.length≤100000) :
  ∀ k:Nat,(∀ i b,k≤i→s[i]?=some b→isD b=true)→k≤s.length→lim tab.get S 71 1 2 [P0,x2,kI (k:Int)] h=lim tab.get S 71 1 3 [P0,x2,kI (s.length:Int)] h:=by
 refine qDw s.length (fun i hi hd hk => ?_) (fun i hi ihl hd hk => ?_) <;> rw[w71_2,b71_2]
 ·have h1:¬ (i:Int)<(s.length:Int):=by omega
  have h2:i=s.length:=by omega
  subst h2;simp (maxSteps:=9999999) +contextual only[exa,rA,rB,rC,rD,rE,rF,rG,rH,rI,hg,h1]
 ·have h1:(i:Int)<(s.length:Int):=by omega
  obtain⟨b,hs,_,_⟩:=qCR hi;have hb:=hd i b (Nat.le_refl _) hs;simp (maxSteps:=9999999) +contextual only[exa,rA,rB,rC,rD,rE,rF,rG,rH,rI,hg,h1,hs,qFK,hb,qBh i (by omega)];exact ihl (fun j c hj hc=>hd j c (by omega) hc) (by omega)
theorem qQB(n:Int)(h1 : -9223372036854775808≤n)(h2:n≤9223372036854775807):Om 71 [P0] [rdO (Lib.itoa n) 0 0]=some (kA (vI n).row,[rdO (Lib.itoa n) ((Lib.itoa n).length:Int) 0]):=by
 have hlen:=qBG n h1 h2;have hn:=qKl n h1 h2;obtain⟨m,ds,hm,hd,hne,hl,hz⟩:=qFz n h1 h2;generalize Lib.itoa n=s at hm hn hlen ⊢;have c165:CAL 75 [kS s] (.tup [.c (.p (.int .i64 n)),.c (.p (.int .i64 0))]):=qAF 75 _ _ rfl hn rfl;have l3:∀ (h:Heap),h.get (.im 0)=some (rdO s 0 0)→h.get (.own 2 1)=some (.cells z6 0)→lim tab.get S 71 1 3 [P0,r2,kI (s.length:Int)] h=some (kA (vI n).row,[rdO s (s.length:Int) 0]):=by
  intro h hg h2';have sl:∀ {β:Type}{O:Oracle}{h:Heap}{d:Nat}{k:TVal→Heap→Option β},vop O (.slice 0 true (.k (kS s)) (some (.k (kI 0))) (some (.k (kI (s.length:Int)))) none) h d k=k (kS s) h:=fun{β O h d k}=>(qFy s 0 s.length (by omega) (by omega)).trans (by rw[List.take_length,List.drop_zero])
  rw[w71_3,b71_3];simp (maxSteps:=9999999) +contextual only[exa,rA,rB,rC,rD,rE,rF,rG,rH,rI,hg,h2',sl,c165,qPx,qKF];exact qEj true [.agg (pcells (vI n).row)] _ (by simp only[exP]) ((Heap.own_get_im _ _ _ _ _).trans (qAN h 0 _ _ (by rw[hg]; rfl))) (qAz s _ 0)
 have k3:∀ (k:Nat) (b:UInt8) (h:Heap),s[k]?=some b→isD b=true→(b=48→k+1=s.length)→(∀ i c,k≤i→s[i]?=some c→isD c=true)→h.get (.im 0)=some (rdO s 0 0)→h.get (.own 2 1)=some (.cells z6 0) →
   lim tab.get S 71 1 1 [P0,r2,kI (k:Int)] h=some (kA (vI n).row,[rdO s (s.length:Int) 0]):=by
  intro k b h hs hb h48 hall hg h2';obtain⟨hk,_⟩:=List.getElem?_eq_some_iff.1 hs;have q1:(k:Int)<(s.length:Int):=by omega
  rw[w71_1,b71_1];by_cases e48:((b.toNat:Nat):Int)=48
  ·have:b=48:=UInt8.toNat_inj.1 (by show b.toNat=48; omega);have hk1:=h48 this;simp (maxSteps:=9999999) +contextual only[exa,rA,rB,rC,rD,rE,rF,rG,rH,rI,hg,q1,hs,qFK,hb,e48,qBh k (by omega)];rw[hk1];exact l3 h hg h2'
  ·simp (maxSteps:=9999999) +contextual only[exa,rA,rB,rC,rD,rE,rF,rG,rH,rI,hg,q1,hs,qFK,hb,e48];exact(qMm s 0 _ h hg (by omega) k hall (by omega)).trans (l3 h hg h2')
 refine(qAE rfl).trans ?_;show lim tab.get S 71 1 0 [P0] { ims:=[rdO s 0 0],owns := .nil }=_;rw[w71_0,b71_0];have i0:((0:Nat):Int)=0:=rfl;have i1:IntKind.i64.wrap (0+1)=((1:Nat):Int):=rfl;have gh:∀ o:AObj,((Heap.mk [rdO s 0 0] .nil).own 2 1 o).get (.im 0)=some (rdO s 0 0):=fun _=>rfl
 obtain⟨b0,l0,hb0⟩:∃ b l,ds=b::l:=by cases ds with|nil=>exact absurd rfl hne|cons b l=>exact⟨b,l,rfl⟩
 rcases hm with ⟨rfl,rfl⟩|⟨rfl,rfl⟩
 ·have hs:s[(0:Nat)]?=some b0:=by rw[hb0]; rfl
  have hb:=hd b0 (by rw[hb0]; simp);have hb':=hb;unfold isD at hb';simp only[Bool.and_eq_true,decide_eq_true_eq] at hb';have b45:¬ ((b0.toNat:Nat):Int)=45:=by omega
  simp (maxSteps:=9999999) +contextual only[exa,rA,rB,rC,rD,rE,rF,rG,rH,rI,Int.toNat_zero,hs,b45];refine k3 0 b0 _ hs hb (fun e=>by rw[hz (by rw[hs,e])]) (fun i c _ hc=>hd c (List.mem_of_getElem? hc)) (gh _) (qBH _ 2 1 _ 0 (by decide))
 ·have b45:((45:UInt8).toNat:Int)=45:=rfl;simp (maxSteps:=9999999) +contextual only[exa,rA,rB,rC,rD,rE,rF,rG,rH,rI,Int.toNat_zero,b45,i1];have hs:(45::ds)[(1:Nat)]?=some b0:=by rw[hb0]; rfl
  refine k3 1 b0 _ hs (hd b0 (by rw[hb0]; simp)) (fun e=>by have:=hz (by rw[hb0,e]; rfl); simp[this]) (fun i c hi hc => ?_) (gh _) (qBH _ 2 1 _ 0 (by decide));obtain⟨j,rfl⟩:∃ j,i=j+1:=⟨i - 1,by omega⟩;exact hd c (List.mem_of_getElem? (by simpa using hc))
open Go Go.AI
theorem qJg(n:Int)(h1 : -9223372036854775808≤n)(h2:n≤9223372036854775807):∃ b,(Lib.itoa n)[0]?=some b∧(b=45∨isD b=true):=by
 obtain⟨m,ds,hm,hd,hne,_,_⟩:=qFz n h1 h2
 rcases hm with ⟨_,e⟩|⟨_,e⟩
 ·rw[e];cases ds with
  |nil=>exact absurd rfl hne
  |cons b l=>exact⟨b,rfl,.inr (hd b (by simp))⟩
 ·rw[e]; exact⟨45,rfl,.inl rfl⟩
theorem qMT(b:UInt8)(h:b=45∨isD b=true):b≠110∧b≠102∧b≠116∧b.toNat≠32∧b.toNat≠9∧b.toNat≠10∧b.toNat≠13∧b.toNat≠34∧b.toNat≠91∧b.toNat≠123:=by
 rcases h with rfl|h
 ·decide
 ·unfold isD at h;simp only[Bool.and_eq_true,decide_eq_true_eq] at h;refine⟨?_,?_,?_,by omega,by omega,by omega,by omega,by omega,by omega,by omega⟩ <;> (intro e; subst e; revert h; decide)
theorem qPA(n:Int)(h1 : -9223372036854775808≤n)(h2:n≤9223372036854775807):Om 43 [P0,kI 1] [rdO (Lib.itoa n) 0 0]=some (kA (vI n).row,[rdO (Lib.itoa n) ((Lib.itoa n).length:Int) 0]):=by
 have hlen:=qBG n h1 h2;obtain⟨b,hs,hb⟩:=qJg n h1 h2;have hn:=qQB n h1 h2;generalize Lib.itoa n=s at hlen hs hn ⊢;obtain⟨q1,q2,q3,q4,q5,q6,q7,q8,q9,q10⟩:=qMT b hb;have nb:noBl s 0:=fun c hc=>by rw[hs] at hc; obtain rfl:=Option.some.inj hc; exact⟨q4,q5,q6,q7⟩
 obtain⟨hp,_⟩:=List.getElem?_eq_some_iff.1 hs;have hp':(0:Int)<(s.length:Int):=by omega
 have r34:¬ ((b.toNat:Nat):Int)=34:=by omega
 have r91:¬ ((b.toNat:Nat):Int)=91:=by omega
 have r123:¬ ((b.toNat:Nat):Int)=123:=by omega
 have i0:((0:Nat):Int)=0:=rfl;refine(qAE rfl).trans ?_;show lim tab.get S 43 1 0 [P0,kI 1] { ims:=[rdO s 0 0],owns := .nil }=_;rw[w43_0,b43_0];have gh:∀ o:AObj,((Heap.mk [rdO s 0 0] .nil).own 4 1 o).get (.im 0)=some (rdO s 0 0):=fun _=>rfl
 have c67:∀ {β:Type}{k:TVal→Heap→Option β}{h:Heap}{d:Nat},h.get (.im 0)=some (rdO s 0 0)→vcall Om (.v (.c (.func 44 []))) [P0] h d k=k (.tup []) h:=fun{β k h d} hg=>(u67 (.im 0) s 0 0 nb hg).trans (by show k _ (h.put (.im 0) (rdO s 0 0))=k _ h; rw[qF2 0 _ hg])
 have c125:∀ {β:Type}{k:TVal→Heap→Option β}{h:Heap}{d:Nat},h.get (.im 0)=some (rdO s 0 0)→vcall Om (.v (.c (.func 66 []))) [P0] h d k=k (.tup [.agg (pcells VT.nul.row),.c (.p (.bool false))]) h:=fun{β k h d} hg =>
  (qDv 66 (.im 0) 0 [] [] _ _ _ rfl rfl hg (qAz _ _ _) (qAz _ _ _) (by simp only[exP]) (qOc s 0 0 b hs (by omega) q1 q2 q3)).trans (by show k _ (h.put (.im 0) (rdO s 0 0))=k _ h; rw[qF2 0 _ hg])
 have c130:∀ {β:Type}{k:TVal→Heap→Option β}{h:Heap}{d:Nat},h.get (.im 0)=some (rdO s 0 0)→vcall Om (.v (.c (.func 71 []))) [P0] h d k=k (kA (vI n).row) (h.put (.im 0) (rdO s (s.length:Int) 0)):=fun{β k h d} hg =>
  qDv 71 (.im 0) 0 [] [] _ _ _ rfl rfl hg (qAz _ _ _) (qAz _ _ _) (by simp only[exP]) hn
 have last:∀ (h:Heap),(h.get (.im 0)).isSome=true→vfin true 1 [.agg (pcells (vI n).row)] ((h.put (.im 0) (rdO s (s.length:Int) 0)).own 4 1 (.cells (pcells (vI n).row) 0))=some (kA (vI n).row,[rdO s (s.length:Int) 0]):=fun h hs =>
  qEj true [.agg (pcells (vI n).row)] _ (by simp only[exP]) ((Heap.own_get_im _ _ _ _ _).trans (qAN h 0 _ _ hs)) (qAz s _ 0)
 rcases hb with rfl|hb
 ·have b45:((45:UInt8).toNat:Int)=45:=rfl;simp (maxSteps:=9999999) +contextual only[exa,rA,rB,rC,rD,rE,rF,rG,rH,rI,c67,c125,c130,hp',Int.toNat_zero,hs,b45,qFK,qBF _ (VT.row_len VT.nul),qBF _ (VT.row_len (vI n)),last]
 ·by_cases e45:((b.toNat:Nat):Int)=45
  ·simp (maxSteps:=9999999) +contextual only[exa,rA,rB,rC,rD,rE,rF,rG,rH,rI,c67,c125,c130,hp',Int.toNat_zero,hs,e45,r34,r91,r123,hb,qFK,qBF _ (VT.row_len VT.nul),qBF _ (VT.row_len (vI n)),last]
  ·simp (maxSteps:=9999999) +contextual only[exa,rA,rB,rC,rD,rE,rF,rG,rH,rI,c67,c125,c130,hp',Int.toNat_zero,hs,e45,r34,r91,r123,hb,qFK,qBF _ (VT.row_len VT.nul),qBF _ (VT.row_len (vI n)),last]
theorem qOj(n:Int):Om 46 [kA (vI n).row] []=some (kI 0,[]):=(qAE rfl).trans (qAc blks_ok 300 46 0 0 _ _ _ (by kernel_rfl))
theorem qOb(n:Int)(h1 : -9223372036854775808≤n)(h2:n≤9223372036854775807):Om 23 [kS (Lib.itoa n)] []=some (.tup [.agg (pcells (vI n).row),.c (.p (.int .i64 0))],[]):=by
 have hlen:=qBG n h1 h2;have hv:=qPA n h1 h2;generalize Lib.itoa n=s at hlen hv ⊢;have q1:¬ (20000:Int)<(s.length:Int):=by omega
 have q2:¬ (s.length:Int)<(s.length:Int):=by omega
 have i0:((0:Nat):Int)=0:=rfl;have nb:noBl s s.length:=fun c hc=>by rw[List.getElem?_eq_none (Nat.le_refl _)] at hc; cases hc
 have c66:∀ {β:Type}{k:TVal→Heap→Option β}{h:Heap}{d:Nat}(g:Nat),h.get (.own 12 g)=some (rdO s 0 0)→vcall Om (.v (.c (.func 43 []))) [.v (.c (.ptr (.own 12 g) 0)),kI 1] h d k=k (kA (vI n).row) (h.own 12 g (rdO s (s.length:Int) 0)):=fun{β k h d} g hg =>
  qDv 43 (.own 12 g) 0 [] [kI 1] _ _ _ rfl rfl hg (qAz _ _ _) (qAz _ _ _) (by simp only[exP]) hv
 have c67:∀ {β:Type}{k:TVal→Heap→Option β}{h:Heap}{d:Nat}(g:Nat),h.get (.own 12 g)=some (rdO s (s.length:Int) 0)→vcall Om (.v (.c (.func 44 []))) [.v (.c (.ptr (.own 12 g) 0))] h d k=k (.tup []) (h.own 12 g (rdO s (s.length:Int) 0)):=fun{β k h d} g hg =>
  u67 (.own 12 g) s s.length 0 nb hg
 have c16:CAL 46 [kA (vI n).row] (kI 0):=fun{β k h d}=>qAF 46 _ _ (by simp only[exP]) (qOj n) rfl
 have rp2:∀ a b c x:PVal,put1 (pcells [a,b,c]) 2 [.p x]=pcells [a,b,x]:=fun _ _ _ _=>rfl
 have rp1:put1 ([.p (.str []),.p (.int .i64 0),.p (.int .i64 0)]:List Cell) 0 [.p (.str s)]=pcells [.str s,.int .i64 0,.int .i64 0]:=rfl;have gg:∀ (h:Heap) (p e:Int),(h.own 12 1 (rdO s p e)).get (.own 12 1)=some (rdO s p e):=fun h p e=>qBH h 12 1 _ 0 (by decide)
 refine(qAE rfl).trans ?_;show lim tab.get S 23 0 0 [kS s] h0=_;rw[w23_0,b23_0];simp (maxSteps:=9999999) +contextual only[exa,rA,rB,rC,rD,rE,rF,rG,rH,rI,q1,q2,rp1,c66 1,c67 1,gg,qBF _ (VT.row_len (vI n))];rw[w23_1,b23_1];simp (maxSteps:=9999999) +contextual only[exa,rA,rB,rC,rD,rE,rF,rG,rH,rI,c16,gg,rp2,qKF];rw[w23_2,b23_2];simp (maxSteps:=9999999) +contextual only[exa,rA,rB,rC,rD,rE,rF,rG,rH,rI,gg,qBF _ (VT.row_len (vI n)),oneOf]
theorem qCu{β:Type}{h:Heap}{k:TVal→Heap→Option β}(a b:List UInt8)(hl:a.length+b.length≤4611686018427387904):vbin .add 0 (kS a) (kS b) h k=k (kS (a++b)) h:=by
 simp (config:={ maxSteps:=10000000 }) only[exa,rA,rB,rC,rD,rE,rF,rG,rH,rI,decide_eq_true hl]
abbrev r6(n:Int):List Cell:=[.p (.int .i64 2),.p (.bool false),.p (.int .i64 n),.p (.str []),.p .nilslice,.p .nilslice]
theorem qNh{β:Type}{O:Oracle}{h:Heap}{d:Nat}{k:TVal→Heap→Option β}(x:Int):vop O (.bslice 1 1 [.p (.int .u8 0)] [(0,.k (kN .u8 x))] false) h d k=k (kSl 1 true [[.int .u8 x]]) h:=qAb _ _ rfl
theorem qKD{β:Type}{O:Oracle}{h:Heap}{d:Nat}{k:TVal→Heap→Option β}(n:Int):vop O (.toStr (.k (kSl 1 true [[.int .u8 n]]))) h d k=k (kS [UInt8.ofNat n.toNat]) h:=qAb _ _ rfl
theorem qEk:∀ s:List UInt8,bytesOfRows (s.map byR)=some s
 |[]=>rfl
 |b::s=>by
  show(bytesOfRows (s.map byR)).map (UInt8.ofNat (b.toNat:Int).toNat::·)=_;rw[qEk s,Int.toNat_natCast];simp
theorem qJD{β:Type}{O:Oracle}{h:Heap}{d:Nat}{k:TVal→Heap→Option β}(s:List UInt8):vop O (.toStr (.k (.v (.c (.p (.slice 1 false (s.map byR))))))) h d k=k (kS s) h:=by
 refine qAb _ _ ?_;show(bytesOfRows (s.map byR)).map _=_;rw[qEk]; rfl
theorem qQF{O:Oracle}(q:Nat)(x0 x1 x2:TVal)(h:Heap):limZ c12 O zN q 0 [x0,x1,x2] h=b12_0 O (jumpZ c12 O zN q) q x0 x1 x2 h:=(qAU _ _ _).trans (e12_0 ..).symm
theorem qQa{O:Oracle}(T S:List UInt8)(tree:PVal)(v:Int)(b:UInt8)(l:List UInt8)(kk:Int)
  (h7:O 7 [kS T] []=some (.tup [.c (.p tree),.c (.p (.int .i64 0)),.c (.p (.int .i64 0))],[]))
  (h23:O 23 [kS S] []=some (.tup [.agg (pcells (vI v).row),.c (.p (.int .i64 0))],[])) (h9:O 9 [kNil] []=some (kP (.im 0),clC)) {qs:List AObj}
  (h8:O 8 [.v (.c (.p tree)),aC (vC (vI v)),kP (.im 0),aC limN] clC=some (.tup [.c (.p (.slice 1 false ((b::l).map byR))),.c (.p (.int .i64 kk)),.c (.p (.int .i64 0))],qs)) (hql:3≤qs.length) :
  limZ c12 O zN 0 0 [kS T,kS S,kNil] h0=some (.tup [.c (.p (.str (b::l))),.c (.p (.int .i64 0))],[]):=by
 have U7:=fun(β:Type) (k:TVal→Heap→Option β) (h:Heap) (d:Nat)=>qAF (O:=O) (k:=k) (h:=h) (d:=d) 7 [kS T] _ rfl h7 rfl
 have U23:=fun(β:Type) (k:TVal→Heap→Option β) (h:Heap) (d:Nat)=>qAF (O:=O) (k:=k) (h:=h) (d:=d) 23 [kS S] _ rfl h23 (by simp only[exP])
 obtain⟨h1,t1,c1,c2,A1,K1,G1,L1,T1,T2⟩:=qKV (O:=O) (pl:=[kNil]) rfl h9 qFg.1 (((h0.own 11 1 (.cells [.p (.int .i64 0),.p (.bool false),.p (.int .i64 0),.p (.str []),.p .nilslice,.p .nilslice] 0))).own 11 1 (.cells (vC (vI v)) 0));generalize hH:(h0.own 11 1 (.cells [.p (.int .i64 0),.p (.bool false),.p (.int .i64 0),.p (.str []),.p .nilslice,.p .nilslice] 0)).own 11 1 (.cells (vC (vI v)) 0)=H at *;have e0:(kP (.im 0)).ren (back [] clC.length (newRef H.ims.length)) = .v (.c (.ptr (.im (H.ims.length+0)) 0)):=rfl;rw[e0] at c1 c2;generalize hρ:((List.range clC.length).map fun i=>Ref.im (H.ims.length+i))=ρ at A1;have r0:ρ[0]?=some (.im (H.ims.length+0)):=by rw[← hρ]; rfl
 generalize hr0:Ref.im (H.ims.length+0)=r at c1 c2 r0;have hin:inn ρ r=some (.im 0):=qA4 A1.nodup r0;obtain⟨h2,t2,d1,d2,_⟩:=qLc (O:=O) (g:=8) (ps:=[]) (qs':=[]) [.v (.c (.p tree)),aC (vC (vI v)),.v (.c (.ptr r 0)),aC limN]
  [.v (.c (.p tree)),aC (vC (vI v)),.v (.c (.ptr r 0)),aC limN] _
  rfl rfl (by
   simp only[List.map_cons,List.map_nil,TVal.ren,Comp.ren,Cell.ren,hin]) h8 qFg (by decide) hql rfl A1 r0
 have C1:=fun(β:Type) (kt:TVal→Heap→AI.Touch→Option β)=>c2 (β:=β) 37 kt
 have D1:=fun(β:Type) (kt:TVal→Heap→AI.Touch→Option β)=>d2 (β:=β) 39 kt
 simp only[List.map_cons,List.map_nil] at C1 D1;have B1:∀ (β:Type) (kt:TVal→Heap→AI.Touch→Option β) (h:Heap),vtouch O (.build [.p (.int .i64 0),.p (.int .i64 0),.p (.int .i64 0)] [(0,1,.k (kI 5000)),(1,1,.k (kI 12)),(2,1,.k (kI (-1)))]) h 38 kt=kt (aC limN) h noTouch:=fun _ _ _=>rfl
 have AL:∀ (β:Type) (k:TVal→Heap→Option β) (h:Heap),vop O (.alloc [.p (.int .i64 0),.p (.bool false),.p (.int .i64 0),.p (.str []),.p .nilslice,.p .nilslice] false) h 11 k=k (.v (.c (.ptr (.own 11 (h.gen 11+1)) 0))) (h.own 11 (h.gen 11+1) (.cells [.p (.int .i64 0),.p (.bool false),.p (.int .i64 0),.p (.str []),.p .nilslice,.p .nilslice] 0)):=fun _ _ _=>rfl
 have P6:put1 [.p (.int .i64 0),.p (.bool false),.p (.int .i64 0),.p (.str []),.p .nilslice,.p .nilslice] 0 (vC (vI v))=vC (vI v):=rfl;have ev:(.agg (pcells (vI v).row):Comp) = .agg (vC (vI v)):=rfl;rw[ev] at U23;have TA:=qKw T1 T2 11 1;have g11:H.get (.own 11 1)=some (.cells (vC (vI v)) 0):=by rw[← hH]; simp only[exa,rA,rB,rC,rD,rE,rF,rG,rH,rI]
 have l6:(vC (vI v)).length=6:=rfl;have t6:(vC (vI v)).take 6=vC (vI v):=rfl;have gg:(Go.AI.h0).gen 11=0:=rfl;rw[qQF,b12_0];generalize vC (vI v)=CV at *;simp (maxSteps:=9999999) +contextual only[exa,rA,rB,rC,rD,rE,rF,rG,rH,rI,exW,exY,U7,U23,AL,gg,Nat.zero_add,P6,l6,t6,hH,g11,C1,B1,D1,TA];rw[show byR b::List.map byR l=(b::l).map byR from rfl,qJD];simp (maxSteps:=9999999) +contextual only[exa,rA,rB,rC,rD,rE,rF,rG,rH,rI]
def wiM(a n:Int):Int:=if a.tmod n<0 then a.tmod n+n else a.tmod n
theorem qK2(a n:Int)(hn:0<n):0≤wiM a n∧wiM a n<n:=by
 have h1:=Int.tmod_lt_of_pos a hn;have h3 : -n<a.tmod n:=by
  have:=Int.tmod_lt_of_pos (-a) hn;rw[Int.neg_tmod] at this; omega
 unfold wiM;split <;> omega
theorem qMI(a:Int):Om 10 [kI a,kI 10] []=some (kI (wiM a 10),[]):=by
 refine(qAE rfl).trans ?_;show lim tab.get S 10 0 0 [kI a,kI 10] h0=_;have hb:=qK2 a 10 (by decide);rw[w10_0,b10_0];unfold wiM at hb ⊢;by_cases h:a.tmod 10<0
 ·rw[if_pos h] at hb ⊢;have hw:IntKind.i64.wrap (a.tmod 10+10)=a.tmod 10+10:=qAG _ (by omega) (by omega);simp (maxSteps:=9999999) +contextual only[exa,rA,rB,rC,rD,rE,rF,rG,rH,rI,qAx 0 .i64 a 10 (by omega),h,hw,oneOf]
 ·rw[if_neg h];simp (maxSteps:=9999999) +contextual only[exa,rA,rB,rC,rD,rE,rF,rG,rH,rI,qAx 0 .i64 a 10 (by omega),h,oneOf]
section
variable {O:Oracle}
noncomputable abbrev L4(O:Oracle):Jump:=limZ c4 O zN 0
theorem v4_0(x0 x1:TVal)(h:Heap):L4 O 0 [x0,x1] h=b4_0 O (jumpZ c4 O zN 0) 0 x0 x1 h:=(qAU _ _ _).trans (e4_0 ..).symm
theorem v4_1(x0 x1 x5 x6 x7:TVal)(h:Heap):L4 O 1 [x0,x1,x5,x6,x7] h=b4_1 O (jumpZ c4 O zN 0) 0 x0 x1 x5 x6 x7 h:=(qAU _ _ _).trans (e4_1 ..).symm
theorem v4_2(x0 x1 x5 x6 x7:TVal)(h:Heap):L4 O 2 [x0,x1,x5,x6,x7] h=b4_2 O (jumpZ c4 O zN 0) 0 x0 x1 x5 x6 x7 h:=(qAU _ _ _).trans (e4_2 ..).symm
theorem v4_3(x0 x1 x5 x6:TVal)(h:Heap):L4 O 3 [x0,x1,x5,x6] h=b4_3 O (jumpZ c4 O zN 0) 0 x0 x1 x5 x6 h:=(qAU _ _ _).trans (e4_3 ..).symm
theorem v4_4(x1 x5 x6 x9:TVal)(h:Heap):L4 O 4 [x1,x5,x6,x9] h=b4_4 O (jumpZ c4 O zN 0) 0 x1 x5 x6 x9 h:=(qAU _ _ _).trans (e4_4 ..).symm
theorem v4_5(x1 x5 x6:TVal)(h:Heap):L4 O 5 [x1,x5,x6] h=b4_5 O (jumpZ c4 O zN 0) 0 x1 x5 x6 h:=(qAU _ _ _).trans (e4_5 ..).symm
theorem j4(l:Nat)(vs:List TVal)(h:Heap):jumpZ c4 O zN 0 l vs h=L4 O l vs h:=rfl
def nextT(N k:Nat)(t:List UInt8):List UInt8:=(if k<N then (t++defA++chN 97 k++defB)++calA++chN 98 k++calB else t++defA++chN 97 k++defB)++bodB
theorem qEl(N k:Nat):textK N (k+1)=nextT N k (textK N k):=rfl
theorem qF6(N:Nat):∀ k,(textK N k).length≤36+100*k
 |0=>Nat.le_refl _
 |k+1=>by
  have:=qF6 N k;rw[qEl];unfold nextT;split <;> simp[chN] <;> omega
theorem chW(c k:Nat)(hc:c≤98)(hk:k≤10):IntKind.u8.wrap (IntKind.i64.wrap ((c:Int)+(k:Int)))=((c+k:Nat):Int):=by
 rw[qAG _ (by omega) (by omega)];have:=qAI .u8 (((c+k:Nat):Int)) (by show(0:Int)≤_; omega) (by show _≤(255:Int); omega);rw[show(c:Int)+(k:Int)=((c+k:Nat):Int) by omega];exact this
theorem qLB(N k:Nat)(hN:N<10)(hk:k≤N)(t:List UInt8)(ht:t.length≤4000)(x1 x6:TVal)(h:Heap):L4 O 1 [kI (N:Int),x1,kS t,x6,kI (k:Int)] h=L4 O 1 [kI (N:Int),x1,kS (nextT N k t),x6,kI ((k+1:Nat):Int)] h:=by
 have a1:¬ (N:Int)<(k:Int):=by omega
 have c1:=chW 97 k (by decide) (by omega);have c2:=chW 98 k (by decide) (by omega);rw[show((97:Nat):Int)=97 from rfl] at c1;rw[show((98:Nat):Int)=98 from rfl] at c2;have V1:∀ (β:Type) (kk:TVal→Heap→Option β) (h:Heap),vbin .add 0 (kS t) (kS defA) h kk=kk (kS (t++defA)) h:=fun β kk h=>qCu _ _ (by simp; omega)
 have V2:∀ (β:Type) (kk:TVal→Heap→Option β) (h:Heap),vbin .add 0 (kS (t++defA)) (kS (chN 97 k)) h kk=kk (kS (t++defA++chN 97 k)) h:=fun β kk h=>qCu _ _ (by simp[chN]; omega)
 have V3:∀ (β:Type) (kk:TVal→Heap→Option β) (h:Heap),vbin .add 0 (kS (t++defA++chN 97 k)) (kS defB) h kk=kk (kS (t++defA++chN 97 k++defB)) h:=fun β kk h=>qCu _ _ (by simp[chN]; omega)
 have V4:∀ (β:Type) (kk:TVal→Heap→Option β) (h:Heap),vbin .add 0 (kS (t++defA++chN 97 k++defB)) (kS calA) h kk=kk (kS (t++defA++chN 97 k++defB++calA)) h:=fun β kk h=>qCu _ _ (by simp[chN]; omega)
 have V5:∀ (β:Type) (kk:TVal→Heap→Option β) (h:Heap),vbin .add 0 (kS (t++defA++chN 97 k++defB++calA)) (kS (chN 98 k)) h kk=kk (kS (t++defA++chN 97 k++defB++calA++chN 98 k)) h:=fun β kk h=>qCu _ _ (by simp[chN]; omega)
 have V6:∀ (β:Type) (kk:TVal→Heap→Option β) (h:Heap),vbin .add 0 (kS (t++defA++chN 97 k++defB++calA++chN 98 k)) (kS calB) h kk=kk (kS (t++defA++chN 97 k++defB++calA++chN 98 k++calB)) h:=fun β kk h=>qCu _ _ (by simp[chN]; omega)
 have S1:∀ (β:Type) (kk:TVal→Heap→Option β) (h:Heap) (d:Nat),vop O (.toStr (.k (kSl 1 true [[.int .u8 ((97+k:Nat):Int)]]))) h d kk=kk (kS (chN 97 k)) h:=fun β kk h d=>qKD _
 have S2:∀ (β:Type) (kk:TVal→Heap→Option β) (h:Heap) (d:Nat),vop O (.toStr (.k (kSl 1 true [[.int .u8 ((98+k:Nat):Int)]]))) h d kk=kk (kS (chN 98 k)) h:=fun β kk h d=>qKD _
 have wi:=qBh k (by omega);have V7:∀ (β:Type) (kk:TVal→Heap→Option β) (h:Heap) (u:List UInt8),u.length≤5000→vbin .add 0 (kS u) (kS bodB) h kk=kk (kS (u++bodB)) h:=fun β kk h u hu=>qCu _ _ (by simp; omega)
 have nx:∀ u:List UInt8,u.length≤5000→L4 O 2 [kI (N:Int),x1,kS u,x6,kI (k:Int)] h=L4 O 1 [kI (N:Int),x1,kS (u++bodB),x6,kI ((k+1:Nat):Int)] h:=fun u hu=>by
  have V:=fun(β:Type) (kk:TVal→Heap→Option β) (h:Heap)=>V7 β kk h u hu
  rw[v4_2,b4_2];simp (maxSteps:=9999999) +contextual only[V,exa,rA,rB,rC,rD,rE,rF,rG,rH,rI,wi]
 refine Eq.trans ?_ ((nx (if k<N then (t++defA++chN 97 k++defB)++calA++chN 98 k++calB else t++defA++chN 97 k++defB) (by split <;> simp[chN] <;> omega)).trans rfl);rw[v4_1,b4_1];by_cases hkN:k<N
 ·have a2:(k:Int)<(N:Int):=by omega
  rw[if_pos hkN];simp (maxSteps:=9999999) +contextual only[V1,V2,V3,V4,V5,V6,S1,S2,qNh,exa,rA,rB,rC,rD,rE,rF,rG,rH,rI,a1,a2,c1,c2]
 ·have a2:¬ (k:Int)<(N:Int):=by omega
  rw[if_neg hkN];simp (maxSteps:=9999999) +contextual only[V1,V2,V3,V4,V5,V6,S1,S2,qNh,exa,rA,rB,rC,rD,rE,rF,rG,rH,rI,a1,a2,c1,c2]
theorem qFW(N:Nat)(hN:N<10)(x1 x6:TVal)(h:Heap):∀ (m k:Nat),k+m=N+1→L4 O 1 [kI (N:Int),x1,kS (textK N k),x6,kI (k:Int)] h=L4 O 4 [x1,kS (textN N),x6,kI (N:Int)] h
 |0,k,e=>by
  obtain rfl:k=N+1:=by omega
  have a1:(N:Int)<((N+1:Nat):Int):=by omega
  rw[v4_1,b4_1];rw[show textN N=textK N (N+1) from rfl];generalize textK N (N+1)=t;simp (maxSteps:=9999999) +contextual only[exa,rA,rB,rC,rD,rE,rF,rG,rH,rI,a1];rw[j4,v4_3,b4_3,j4]
 |m+1,k,e=>by
  have hl:=qF6 N k;rw[qLB N k hN (by omega) _ (by omega),← qEl];exact qFW N hN x1 x6 h m (k+1) (by omega)
theorem qF9(h11:∀ n,rngI n→O 11 [kA (vI n).row] []=some (kS (Lib.itoa n),[]))(j:Nat)(hj:j≤10)(w:List UInt8)(hw:w.length≤5000)(v:Int)(x5:TVal)(h:Heap) :
  L4 O 4 [kI v,x5,kS w,kI (j:Int)] h=L4 O 4 [kI v,x5,kS (w++Lib.itoa (IntKind.i64.wrap (v+(j:Int)))++[44]),kI ((j:Int) - 1)] h:=by
 have rx:=qDN (v+(j:Int));have il:=qBG _ rx.1 rx.2;have a1:¬ (j:Int)<0:=by omega
 have w1:IntKind.i64.wrap ((j:Int) - 1)=(j:Int) - 1:=qAG _ (by omega) (by omega);rw[v4_4,b4_4];generalize hx:IntKind.i64.wrap (v+(j:Int))=x at *;have U11:=fun(β:Type) (k:TVal→Heap→Option β) (h:Heap) (d:Nat)=>qAF (O:=O) (k:=k) (h:=h) (d:=d) 11 [kA (vI x).row] _ (by simp only[exP]) (h11 x rx) (by simp only[exP])
 have e6:kA (vI x).row=aC (r6 x):=rfl;rw[e6] at U11;have BB:∀ (β:Type) (k:TVal→Heap→Option β) (h:Heap),vop O (.build [.p (.int .i64 0),.p (.bool false),.p (.int .i64 0),.p (.str []),.p .nilslice,.p .nilslice] [(0,1,.k (kI 2)),(2,1,.k (kI x))]) h 56 k=k (aC (r6 x)) h:=fun _ _ _=>rfl
 have V1:∀ (β:Type) (k:TVal→Heap→Option β) (h:Heap),vbin .add 0 (kS w) (kS (Lib.itoa x)) h k=k (kS (w++Lib.itoa x)) h:=fun β k h=>qCu _ _ (by omega)
 have V2:∀ (β:Type) (k:TVal→Heap→Option β) (h:Heap),vbin .add 0 (kS (w++Lib.itoa x)) (kS [44]) h k=k (kS (w++Lib.itoa x++[44])) h:=fun β k h=>qCu _ _ (by simp; omega)
 simp (maxSteps:=9999999) +contextual only[V1,V2,BB,U11,exa,rA,rB,rC,rD,rE,rF,rG,rH,rI,a1,hx,w1]
theorem qQX(z:Int):IntKind.i64.wrap (IntKind.i64.wrap z+1)=IntKind.i64.wrap (z+1):=by
 unfold IntKind.wrap;simp[IntKind.bits,IntKind.signed];split <;> split <;> omega
theorem qFo(h11:∀ n,rngI n→O 11 [kA (vI n).row] []=some (kS (Lib.itoa n),[]))(N:Nat)(hN:N<10)(v:Int)(hv:rngI v)(x5:TVal)(h:Heap):∀ j,j≤N→L4 O 4 [kI v,x5,kS (outsD (N - j) (IntKind.i64.wrap (v+(j:Int)))),kI ((j:Int) - 1)] h=L4 O 5 [kI v,x5,kS (outsD N v)] h
 |0,_=>by
  have e:IntKind.i64.wrap (v+((0:Nat):Int))=v:=by rw[qAG _ (by have:=hv.1; omega) (by have:=hv.2; omega)]; omega
  have a1:((0:Nat):Int) - 1<0:=by decide
  rw[e,Nat.sub_zero,v4_4,b4_4];generalize outsD N v=w;simp (maxSteps:=9999999) +contextual only[exa,rA,rB,rC,rD,rE,rF,rG,rH,rI,a1]
 |j+1,hj=>by
  have hl:=qB8 (N - (j+1)) _ (qDN (v+((j+1:Nat):Int)));rw[show((j+1:Nat):Int) - 1=(j:Int) by omega,qF9 h11 j (by omega) _ (by omega)];have e:outsD (N - (j+1)) (IntKind.i64.wrap (v+((j+1:Nat):Int)))++Lib.itoa (IntKind.i64.wrap (v+(j:Int)))++[44]=outsD (N - j) (IntKind.i64.wrap (v+(j:Int))):=by
   rw[show N - j=(N - (j+1))+1 by omega];show _=outsD (N - (j+1)) (IntKind.i64.wrap (IntKind.i64.wrap (v+(j:Int))+1))++_++[44];rw[qQX,show v+((j+1:Nat):Int)=v+(j:Int)+1 by omega]
  rw[e];exact qFo h11 N hN v hv x5 h j (by omega)
theorem qMk(h11:∀ n,rngI n→O 11 [kA (vI n).row] []=some (kS (Lib.itoa n),[]))(N:Nat)(hN:N<10)(v:Int)(hv:rngI v)(x5:TVal)(h:Heap):L4 O 4 [kI v,x5,kS [],kI (N:Int)] h=L4 O 5 [kI v,x5,kS (outsD N v)] h:=by
 rw[qF9 h11 N (by omega) [] (by decide),← qFo h11 N hN v hv x5 h N (Nat.le_refl _),Nat.sub_self];rfl
theorem qPH(h5:O 5 [] []=some (kB true,[]))(a v:Int)(h10:O 10 [kI a,kI 10] []=some (kI (wiM a 10),[]))(h11:∀ n,rngI n→O 11 [kA (vI n).row] []=some (kS (Lib.itoa n),[]))(N:Nat)(hN:wiM a 10=(N:Int))(hN':N<10)(hv:rngI v)
  (h12:O 12 [kS (textN N),kS (Lib.itoa v),kNil] []=some (.tup [.c (.p (.str (outsD N v++[49]))),.c (.p (.int .i64 0))],[])) {s2:List UInt8} (h12':O 12 [kS zfa8d5996,kS [49],kNil] []=some (.tup [.c (.p (.str s2)),.c (.p (.int .i64 15))],[])) :
  L4 O 0 [kI a,kI v] h0=some (kB true,[]):=by
 have U5:=fun(β:Type) (k:TVal→Heap→Option β) (h:Heap) (d:Nat)=>qAF (O:=O) (k:=k) (h:=h) (d:=d) 5 [] _ rfl h5 rfl
 have U10:=fun(β:Type) (k:TVal→Heap→Option β) (h:Heap) (d:Nat)=>qAF (O:=O) (k:=k) (h:=h) (d:=d) 10 [kI a,kI 10] _ rfl h10 rfl
 have U11:=fun(β:Type) (k:TVal→Heap→Option β) (h:Heap) (d:Nat)=>qAF (O:=O) (k:=k) (h:=h) (d:=d) 11 [kA (vI v).row] _ (by simp only[exP]) (h11 v hv) (by simp only[exP])
 have U12:=fun(β:Type) (k:TVal→Heap→Option β) (h:Heap) (d:Nat)=>qAF (O:=O) (k:=k) (h:=h) (d:=d) 12 [kS (textN N),kS (Lib.itoa v),kNil] _ rfl h12 rfl
 have U12':=fun(β:Type) (k:TVal→Heap→Option β) (h:Heap) (d:Nat)=>qAF (O:=O) (k:=k) (h:=h) (d:=d) 12 [kS zfa8d5996,kS [49],kNil] _ rfl h12' rfl
 have e6:kA (vI v).row=aC (r6 v):=rfl;rw[e6] at U11;have TL:=qFW (O:=O) N hN' (kI v) (kS []) h0 (N+1) 0 (by omega);have WL:=qMk (O:=O) h11 N hN' v hv (kS (textN N)) h0;have hol:=qB8 N v hv;rw[hN] at U10;rw[v4_0,b4_0];simp (maxSteps:=9999999) +contextual only[exa,rA,rB,rC,rD,rE,rF,rG,rH,rI,U5,U10];rw[j4];refine Eq.trans TL (Eq.trans WL ?_);generalize outsD N v=w at *;generalize textN N=T at *;have BB:∀ (β:Type) (k:TVal→Heap→Option β) (h:Heap),vop O (.build [.p (.int .i64 0),.p (.bool false),.p (.int .i64 0),.p (.str []),.p .nilslice,.p .nilslice] [(0,1,.k (kI 2)),(2,1,.k (kI v))]) h 63 k=k (aC (r6 v)) h:=fun _ _ _=>rfl
 have V1:∀ (β:Type) (k:TVal→Heap→Option β) (h:Heap),vbin .add 0 (kS w) (kS [49]) h k=k (kS (w++[49])) h:=fun β k h=>qCu _ _ (by simp; omega)
 rw[v4_5,b4_5];simp (maxSteps:=9999999) +contextual only[V1,BB,U11,U12,U12',exa,rA,rB,rC,rD,rE,rF,rG,rH,rI,BEq.rfl,decide_true]
end
end Go.Proofs.YtlkejchbcchecaaGreatDoor.Ab
