/- The rules,the contracts,the plain laws that lead to the statement. Own work. Condition: what each theorem names. -/
import Derived.Test.YtnlmlcfipbnpgaaGreatDoorG0
import Derived.RangeFuncBox
import Derived.RangeFuncLeaves
import Derived.Shelf.Abstract
import Derived.WalkKit
import Derived.OwnWalkIn
import Derived.TacticsInMore
import Derived.LoopNIn
import Derived.LoopIn
import Derived.RegionIn
import Derived.RangeFuncCalls
import Derived.Lib.Bytealg
import Derived.Shelf.RegionOpen
set_option linter.all false
set_option linter.unusedVariables false
set_option linter.unusedSimpArgs false
set_option linter.unusedSectionVars false
set_option maxRecDepth 100000
set_option maxHeartbeats 4000000
open Nat renaming reduceAdd->rA,reduceMul->rB,reduceLT->rC,reduceLeDiff->rD,reduceEqDiff->rE
open Int renaming reduceLT->rF,reduceLE->rG,reduceEq->rH,reduceToNat->rI
namespace Go.Proofs.YtnlmlcfipbnpgaaGreatDoor.Ab
open Go Go.AI
theorem qLR{g:FuncId}{ps:List TVal}{e:RE}{out out':List UInt8}{k k':Int}{v:TVal}(M:RunDo g ps e out k v out' k')(hp:allB pT ps=true)(hv:pT v=true){h:Heap}{n:Nat}(X:RunAt h e out k n) :
  ∃ h' t,(∀ {β:Type}(d:Nat)(kt:TVal->Heap->AI.Touch->Option β),vtouch Om (.call (.k (.v (.c (.func g [])))) (.k (kP (.im 0))::ps.map .k)) h d kt=kt v h' t) /\
   RunAt h' e out' k' n/\(∀ d g o,h.get (.own d g)=some o->h'.get (.own d g)=some o)/\(∀ d,h'.gen d=h.gen d)/\TouchI t:=by
 obtain⟨h',t,_,c2,X',K,G⟩:=qDD M (qAW e out k) (qAW e out' k').1 (qBP e out k).1 hp hv X;exact⟨h',t,c2,X',K,G,qHq M (qAW e out k) (qBP e out k).1 hp hv X (d:=0) (c2 0 _)⟩
theorem qH5(sc:List Cell)(hsc:sc.length=8)(hp:pT (aC sc)=true)(K:Int)(hK:K≠6)(x s:List UInt8)(n:Int)(p:PVal)(t:Bool)(v:VT)(e:RE)(out:List UInt8)(k k':Int)(h0:0<=k)(hk:k<e.steps)(hs:e.steps<=1000000)(M:OpDo sc (opK K x s n p) e out (k+1) v k') :
  RunDo 196 [aC sc,aC [.p (.slice 7 t [opK K x s n p])],kNil] e out k (tupV v) out k':=by
 obtain⟨h1,t1,c1,_,X1,ow1,gn1⟩:=qDV (qAx e out k h0 hk hs) rfl rfl ((((qBo e out k).own 5 1 (.cells sc 0)).own 6 1 (.cells [.p (.slice 7 t [opK K x s n p])] 0)).own 8 1 (.cells z6 0));have o5:=ow1 5 1 (.cells sc 0) (by simp only[exa,rA,rB,rC,rD,rE,rF,rG,rH,rI]);have o6:=ow1 6 1 (.cells [.p (.slice 7 t [opK K x s n p])] 0) (by simp only[exa,rA,rB,rC,rD,rE,rF,rG,rH,rI]);have o8:=ow1 8 1 (.cells z6 0) (by simp only[exa,rA,rB,rC,rD,rE,rF,rG,rH,rI]);obtain⟨h2,t2,c2,X2,ow2,gn2,T2⟩:=qLR M (by simp[allB,hp]; rfl) rfl X1;have p5:=ow2 5 1 _ o5;have p6:=ow2 6 1 _ o6;have p8:=ow2 8 1 _ o8;have GO:lim tab.get S 196 (cg e out k).length 0 [kP (.im 0),aC sc,aC [.p (.slice 7 t [opK K x s n p])],kNil] ⟨cg e out k,.nil⟩=lim tab.get S 196 (cg e out k).length 0 [kP (.im 0),aC sc,aC [.p (.slice 7 t [opK K x s n p])],kNil] ⟨cg e out k,.nil⟩:=rfl;have row0:∀ r:List PVal,[r][(0:Int).toNat]?=some r:=λ_=>rfl
 have rl:∀ {β:Type}{h:Heap}{k:TVal->Heap->Option β},vload true 7 (.v (.c (.p (.pptr (opK K x s n p) 0)))) h k=k (aC (pcells (opK K x s n p))) h:=qAm 7 _ rfl;have c10:((1:Nat):Int)=1:=rfl;have P6:∀ a b c d e f:Cell,put1 z6 0 [a,b,c,d,e,f]=[a,b,c,d,e,f]:=λ_ _ _ _ _ _=>rfl
 have ts:sc.take 8=sc:=List.take_of_length_le (by omega);have C2:=λ(β:Type) (kt:TVal->Heap->AI.Touch->Option β)=>c2 44 kt
 simp only[List.map_cons,List.map_nil] at C2
 conv at GO=>rhs; rw[w196_0,b196_0]
 simp (maxSteps:=9999999) +contextual only[exa,rA,rB,rC,rD,rE,rF,rG,rH,rI,exW] at GO
 replace GO:=GO.trans (c1 _ _)
 simp (maxSteps:=9999999) +contextual only[exa,rA,rB,rC,rD,rE,rF,rG,rH,rI,exW,exY,o5,o6,o8,p5,p6,p8,row0,rl,c10,C2,qC6,qOG,P6,ts,hsc,hK] at GO;have A1:AI.Touch.apart t2 ⟨[],[.own 11],false⟩=true:=T2.own_r [] [.own 11] (λs hs=>by cases hs) (λs hs=>⟨11,List.mem_singleton.1 hs⟩);rw[A1,show AI.Touch.apart ⟨[(Ref.own 5 1).site],[],false⟩ ⟨[],[.own 11],false⟩=true from rfl,show AI.Touch.apart ⟨[(Ref.own 6 1).site],[],false⟩ ⟨[],[.own 11],false⟩=true from rfl] at GO;exact qC3 _ rfl rfl ⟨_,true,[.agg (vC v),.c (.p (.int .i64 0))],rfl,rfl,((X2.own _ _ _).own _ _ _).own _ _ _,GO⟩
theorem qAj{α:Type}{p:α->Bool}{a:α}{l:List α}(h:p a=true)(hl:allB p l=true):allB p (a::l)=true:=by
 show(bif p a then allB p l else false)=true;rw[h]; exact hl
theorem qNB(sc:List Cell)(hsc:sc.length=8)(hp:pT (aC sc)=true)(t:Bool)(cm:PVal)(v:VT)(e:RE)(out:List UInt8)(k k':Int)(M:RunDo 196 [aC sc,aC [.p cm],kNil] e out k (tupV v) out k') :
  RunDo 136 [aC sc,kSl 1 t [[cm]]] e out k (tupV v) out k':=by
 obtain⟨h1,t1,c1,_,X1,ow1,gn1⟩:=qDV M (qAj hp rfl) rfl (((((qBo e out k).own 4 1 (.cells sc 0)).own 6 1 (.cells z6 0)).own 10 1 (.cells [.p .nilslice] 0)).own 10 1 (.cells [.p cm] 0));have o6:=ow1 6 1 (.cells z6 0) (by simp only[exa,rA,rB,rC,rD,rE,rF,rG,rH,rI]);have row0:∀ r:List PVal,[r][(0:Int).toNat]?=some r:=λ_=>rfl
 have rl:∀ {β:Type}{h:Heap}{k:TVal->Heap->Option β},vload true 1 (.v (.c (.p (.pptr [cm] 0)))) h k=k (aC [.p cm]) h:=qAm 1 _ rfl;have c10:((1:Nat):Int)=1:=rfl;have P6:∀ a b c d e f:Cell,put1 z6 0 [a,b,c,d,e,f]=[a,b,c,d,e,f]:=λ_ _ _ _ _ _=>rfl
 have P1:∀ c:Cell,put1 [.p .nilslice] 0 [c]=[c]:=λ_=>rfl
 have ts:sc.take 8=sc:=List.take_of_length_le (by omega);have GO:lim tab.get S 136 (cg e out k).length 0 [kP (.im 0),aC sc,kSl 1 t [[cm]]] ⟨cg e out k,.nil⟩=lim tab.get S 136 (cg e out k).length 0 [kP (.im 0),aC sc,kSl 1 t [[cm]]] ⟨cg e out k,.nil⟩:=rfl
 conv at GO=>rhs; rw[w136_0,b136_0]
 simp (maxSteps:=9999999) +contextual only[exa,rA,rB,rC,rD,rE,rF,rG,rH,rI,exW] at GO;rw[w136_1,b136_1] at GO;simp (maxSteps:=9999999) +contextual only[exa,rA,rB,rC,rD,rE,rF,rG,rH,rI,exW,row0,rl,c10,P1,ts,hsc] at GO
 replace GO:=GO.trans (c1 _ _)
 have BS:∀ {β:Type}{O:Oracle}{h:Heap}{d:Nat}{k:TVal->Heap->Option β},vop O (.bslice 6 1 z6 [(0,.k (aC (vC v)))] false) h d k=k (kSl 6 true [vP v]) h:=qF3 (vP v) rfl;have rl6:∀ {β:Type}{h:Heap}{k:TVal->Heap->Option β},vload true 6 (.v (.c (.p (.pptr (vP v) 0)))) h k=k (aC (vC v)) h:=qAm 6 _ rfl;have w01:IntKind.i64.wrap (0+1)=1:=rfl;simp (maxSteps:=9999999) +contextual only[exa,rA,rB,rC,rD,rE,rF,rG,rH,rI,exW,P6,BS,w01] at GO;rw[w136_1,b136_1] at GO;simp (maxSteps:=9999999) +contextual only[exa,rA,rB,rC,rD,rE,rF,rG,rH,rI,exW,Int.lt_irrefl] at GO;rw[w136_2,b136_2] at GO;simp (maxSteps:=9999999) +contextual only[exa,rA,rB,rC,rD,rE,rF,rG,rH,rI,exW,c10,row0,rl6,P6,o6] at GO;exact qC3 _ rfl rfl ⟨_,true,[.agg (vC v),.c (.p (.int .i64 0))],rfl,rfl,((X1.own _ _ _).own _ _ _).own _ _ _,GO⟩
abbrev addS:PVal := .slice 7 false [opK 6 [] [97,100,100] 0 .nilslice,opK 1 [115] [] 0 .nilslice,opK 1 [] [] 0 .nilslice]
abbrev bodyV(b1 b2 b3:Int):PVal := .slice 9 false [ndG 4 b1 [] [115] (.slice 1 true [[addS]]),ndG 3 b2 [] [115] (onePipe (opK 3 [] [] 0 .nilslice)),ndG 4 b3 [] [115] (onePipe (opK 3 [] [] 1 .nilslice))]
abbrev rangeV(a:Int)(body:PVal):List PVal:=[.int .i64 7,.int .i64 a,.str [],.str [],onePipe (opK 1 [] [] 0 .nilslice),body,.nilslice,.bool false,.nilslice]
abbrev mainV(n a c:Int)(body:PVal):List (List PVal):=[ndG 3 0 [] [115] (onePipe (opK 3 [] [] n .nilslice)),rangeV a body,ndG 2 c [] [] (onePipe (opK 1 [115] [] 0 .nilslice))]
abbrev treeV(n a c:Int)(body:PVal):PVal := .slice 2 true [[.str [],.slice 9 false (mainV n a c body)]]
noncomputable def isN(n:Nat)(vs:List TVal):Bool:=match (vs[4]?:Option TVal) with
 |some (.v (.c (.p (.int .i64 m))))=>Int.rec (motive:=λ_=>Bool) (λk=>Nat.beq k n) (λ_=>false) m
 |_=>false
noncomputable def Zv:ZapF:=λl vs h=>bif Nat.beq l 6&&isN 1 vs then zapR (λl=>if l=6 then some (1,6) else none) l vs h else (vs,h)
theorem qQQ[Sym]:ZOK Zv:=by
 intro G nt ρ0 I0 h0 w0 l live vs h ρ I a w nd hb X;have e:Zv l vs h=zapR (λl=>if l=6 then some (1,6) else none) l vs h\/Zv l vs h=(vs,h):=by
  unfold Zv;cases Nat.beq l 6&&isN 1 vs with
  |true=>exact .inl rfl
  |false=>exact .inr rfl
 rcases e with e|e
 ·rw[e]; exact zapR_ok _ G nt ρ0 I0 h0 w0 l live vs h ρ I a w nd hb X
 ·rw[e]; exact⟨I,X⟩
noncomputable def stopV(l:Nat)(vs:List TVal):Bool:=Nat.beq l 1&&isN 2 vs
abbrev lstV(l:Sl VT):VT := .mk 4 false 0 [] .nil l
noncomputable def OA:Oracle:=orc S (machU blks.get S 400)
abbrev reV(n a c:Int)(body:PVal):RE:=⟨5000,0,65536,treeV n a c body⟩
noncomputable def runT(l:Sl VT)(n a c:Int)(body:PVal)(K:Jump):Res1:=machK d68 OA Zv 4 stopV K 60 0 [kP (.im 0),aC (scV .nilslice (lstV l) 0),nlV false (mainV n a c body)] ⟨cg (reV n a c body) [] 0,.nil⟩
noncomputable def hV(l:Sl VT)(n a c:Int)(body:PVal)(k s:Int):Heap:=((((((⟨[runO (reV n a c body) (.p .nilslice) k,callsO,mapO,mapO,.cells [.ptr (.own 80 1) 0] 1],.nil⟩:Heap).own 4 1 (.cells (scV (varsP false [115] (vI s)) (lstV l) 0) 0)).own 8 2 (.cells (pcells (rangeV a body)) 0)).own 10 2 (.cells (vC (lstV l)) 0)).own 80 1 (.cells (pcells (varR [115] (vI s))) 7)).own 81 1 (.cells [.ptr (.own 80 1) 0] 0))
noncomputable def sumF(n:Int)(l:List Int):Int:=l.foldl (λs x=>wrapF .i64 (s+x)) n
noncomputable abbrev atV(l:Sl VT)(n a c:Int)(body:PVal)(k s:Int)(K:Jump):Res1:=K 1 [kP (.im 0),pO 4 1,nlV false (mainV n a c body),kI 3,kI 2] (hV l n a c body k s)
def kind9(a:List TVal):Bool:=match a with
 |[_,_,.v (.agg (.p (.int .i64 9)::_)),_]=>true
 |_=>false
def spec(f:FuncId)(a:List TVal):Bool:=Nat.beq f 68||Nat.beq f 202||(Nat.beq f 137&&kind9 a)
noncomputable def mkO(A:Oracle):Oracle:=λf a o=>if spec f a=true then A f a o else Om f a o
theorem qEF{A:Oracle}{f:FuncId}{a:List TVal}{o:List AObj}(h:spec f a=false):mkO A f a o=Om f a o:=by unfold mkO; rw[h]; rfl
theorem qOc{A:Oracle}{f:FuncId}{a:List TVal}{o:List AObj}(h:spec f a=true):mkO A f a o=A f a o:=by unfold mkO; rw[h]; rfl
def RunM(A:Oracle)(g:FuncId)(ps:List TVal)(e:RE)(out:List UInt8)(k:Int)(v:TVal)(out':List UInt8)(k':Int):Prop:=GraphDo (mkO A) g ps (cg e out k) v (cg e out' k')
theorem qJ1{A:Oracle}{g:FuncId}{ps:List TVal}{e:RE}{out out':List UInt8}{k k':Int}{v:TVal}(h:spec g (kP (.im 0)::ps)=false)(M:RunDo g ps e out k v out' k'):RunM A g ps e out k v out' k':=by
 obtain⟨qs,ρ',h1,h2⟩:=M;exact⟨qs,ρ',(qEF h).trans h1,h2⟩
theorem qDx{A:Oracle}{g:FuncId}{ps:List TVal}{e:RE}{out out':List UInt8}{k k':Int}{v:TVal}(M:RunM A g ps e out k v out' k')(hp:allB pT ps=true)(hv:pT v=true){h:Heap}{n:Nat}(X:RunAt h e out k n) :
  ∃ h',(∀ {β:Type}(d:Nat)(kk:TVal->Heap->Option β),vcall (mkO A) (.v (.c (.func g []))) (kP (.im 0)::ps) h d kk=kk v h') /\
   RunAt h' e out' k' n/\(∀ d g o,h.get (.own d g)=some o->h'.get (.own d g)=some o)/\(∀ d,h'.gen d=h.gen d):=by
 obtain⟨h',t,c1,_,X',K,G⟩:=qDD M (qAW e out k) (qAW e out' k').1 (qBP e out k).1 hp hv X;exact⟨h',c1,X',K,G⟩
noncomputable abbrev Z17:ZapF:=Zv
section
variable (A:Oracle)
noncomputable abbrev L17(q:Nat):Jump:=limZ c68 (mkO A) Z17 q
theorem qNn(q:Nat)(x0 x4 x12 x13 x14:TVal)(h:Heap):L17 A q 1 [x0,x4,x12,x13,x14] h=b68_1 (mkO A) (jumpZ c68 (mkO A) Z17 q) q x0 x4 x12 x13 x14 h:=(qAs _ _ _).trans (e68_1 ..).symm
theorem qQX(q:Nat)(x0 x4 x8 x10 x11 x12 x13 x14:TVal)(h:Heap):L17 A q 2 [x0,x4,x8,x10,x11,x12,x13,x14] h=b68_2 (mkO A) (jumpZ c68 (mkO A) Z17 q) q x0 x4 x8 x10 x11 x12 x13 x14 h:=(qAs _ _ _).trans (e68_2 ..).symm
theorem qQT(q:Nat)(x0 x4 x8 x10 x11 x12 x13 x14:TVal)(h:Heap):L17 A q 3 [x0,x4,x8,x10,x11,x12,x13,x14] h=b68_3 (mkO A) (jumpZ c68 (mkO A) Z17 q) q x0 x4 x8 x10 x11 x12 x13 x14 h:=(qAs _ _ _).trans (e68_3 ..).symm
theorem qQN(q:Nat)(x0 x4 x8 x10 x11 x12 x13 x14:TVal)(h:Heap):L17 A q 4 [x0,x4,x8,x10,x11,x12,x13,x14] h=b68_4 (mkO A) (jumpZ c68 (mkO A) Z17 q) q x0 x4 x8 x10 x11 x12 x13 x14 h:=(qAs _ _ _).trans (e68_4 ..).symm
theorem qQE(q:Nat)(x0 x4 x8 x10 x11 x12 x13 x14:TVal)(h:Heap):L17 A q 5 [x0,x4,x8,x10,x11,x12,x13,x14] h=b68_5 (mkO A) (jumpZ c68 (mkO A) Z17 q) q x0 x4 x8 x10 x11 x12 x13 x14 h:=(qAs _ _ _).trans (e68_5 ..).symm
theorem qQe(q:Nat)(x0 x4 x12 x13 x14:TVal)(h:Heap):L17 A q 6 [x0,x4,x12,x13,x14] h=b68_6 (mkO A) (jumpZ c68 (mkO A) Z17 q) q x0 x4 x12 x13 x14 h:=(qAs _ _ _).trans (e68_6 ..).symm
theorem qNv(q:Nat)(vs:List TVal)(h:Heap):jumpZ c68 (mkO A) Z17 q 2 vs h=L17 A q 2 vs h:=rfl
theorem qNs(q:Nat)(vs:List TVal)(h:Heap):jumpZ c68 (mkO A) Z17 q 3 vs h=L17 A q 3 vs h:=rfl
theorem qQW(q:Nat)(vs:List TVal)(h:Heap):jumpZ c68 (mkO A) Z17 q 4 vs h=L17 A q 4 vs h:=rfl
theorem qQf(q:Nat)(vs:List TVal)(h:Heap):jumpZ c68 (mkO A) Z17 q 5 vs h=L17 A q 5 vs h:=rfl
theorem qQZ(q:Nat)(x0 x12 x13 x14:TVal)(h:Heap)(cs:List Cell)(V:PVal)(hg:h.get (.own 4 1)=some (.cells cs 0))(hV:cs[6]?=some (.p V)):jumpZ c68 (mkO A) Z17 q 6 [x0,pO 4 1,x12,x13,x14] h=L17 A q 6 [x0,pO 4 1,x12,x13,x14] h:=by
 have:Z17 6 [x0,pO 4 1,x12,x13,x14] h=([x0,pO 4 1,x12,x13,x14],h):=by
  show(bif true&&isN 1 [x0,pO 4 1,x12,x13,x14] then zapR (λl=>if l=6 then some (1,6) else none) 6 [x0,pO 4 1,x12,x13,x14] h else ([x0,pO 4 1,x12,x13,x14],h))=_;cases isN 1 [x0,pO 4 1,x12,x13,x14] with
  |false=>rfl
  |true =>
  show(match h.get (.own 4 1) with|some (.cells cs _)=>_|_=>_)=_;rw[hg];show(match cs[6]? with|some (.sref _ _ _ _ _)=>_|_=>_)=_;rw[hV]
 show limZ c68 (mkO A) Z17 q 6 (Z17 6 [x0,pO 4 1,x12,x13,x14] h).1 (Z17 6 [x0,pO 4 1,x12,x13,x14] h).2=_;rw[this]
end
section
variable {A:Oracle} (e:RE) {out out':List UInt8} {k k':Int} (V:PVal) (sv:VT) (d at':Int) (n q:Nat) (t:Bool) (rows:List (List PVal)) (L:Int) (i:Nat)
theorem qJd(K:Int)(nm:List UInt8)(t2:Bool)(cm:PVal)(u:VT)(h1':K≠1)(h3':K≠3){k1:Int}(hr:rows[i]?=some (ndG K at' [] nm (.slice 1 t2 [[cm]])))(hi:(i:Int)<L)(hL:L<=1000)(h0:0<=k)(hk:k<e.steps)(hs':e.steps<=1000000)
  (hpV:pT (aC (scV V sv d))=true) (hpR:pT (aC (pcells (ndG K at' [] nm (.slice 1 t2 [[cm]]))))=true) (M1:RunM A 136 [aC (scV V sv d),kSl 1 t2 [[cm]]] e out (k+1) (tupV u) out k1) (M2:RunM A 137 [aC (scV V sv d),aC (pcells (ndG K at' [] nm (.slice 1 t2 [[cm]]))),aC (vC u)] e out k1 (kI 0) out' k')
  (h:Heap) (X:RunAt h e out k n) (o4:h.get (.own 4 1)=some (.cells (scV V sv d) 0)) :
  ∃ h',RunAt h' e out' k' n/\h'.get (.own 4 1)=some (.cells (scV V sv d) 0) /\
   L17 A q 1 [kP (.im 0),pO 4 1,nlV t rows,kI L,kI (i:Int)] h=L17 A q 1 [kP (.im 0),pO 4 1,nlV t rows,kI L,kI ((i+1:Nat):Int)] h':=by
 generalize hR:ndG K at' [] nm (.slice 1 t2 [[cm]])=R at *;have R0:(pcells R)[0]?=some (.p (.int .i64 K)):=by rw[<- hR]; rfl
 have R4:(pcells R)[4]?=some (.p (.slice 1 t2 [[cm]])):=by rw[<- hR]; rfl
 have RL:(pcells R).length=9:=by rw[<- hR]; rfl
 have T9:(pcells R).take 9=pcells R:=by rw[<- hR]; rfl
 have P9:put1 z9 0 (pcells R)=pcells R:=by rw[<- hR]; rfl
 have rl:∀ {β:Type}{h:Heap}{k:TVal->Heap->Option β},vload true 9 (.v (.c (.p (.pptr R 0)))) h k=k (aC (pcells R)) h:=by rw[<- hR]; exact qAm 9 _ rfl
 obtain⟨h1,c1,X1,ow1,gn1⟩:=qDx (A:=A) (qJ1 rfl (qAx e out k h0 hk hs')) rfl rfl ((X.own 8 (h.gen 8+1) (.cells z9 0)).own 8 (h.gen 8+1) (.cells (pcells R) 0));have p4:=ow1 4 1 _ ((Heap.own_get_ne _ 8 _ _ 4 1 (by decide)).trans ((Heap.own_get_ne _ 8 _ _ 4 1 (by decide)).trans o4));have p8:=ow1 8 (h.gen 8+1) (.cells (pcells R) 0) (by simp only[exa,rA,rB,rC,rD,rE,rF,rG,rH,rI]);obtain⟨h2,c2,X2,ow2,gn2⟩:=qDx M1 (qAj hpV rfl) rfl ((X1.own 10 (h1.gen 10+1) (.cells z6 0)).own 10 (h1.gen 10+1) (.cells (vC sv) 0));have q4:=ow2 4 1 _ ((Heap.own_get_ne _ 10 _ _ 4 1 (by decide)).trans ((Heap.own_get_ne _ 10 _ _ 4 1 (by decide)).trans p4));have q8:=ow2 8 (h.gen 8+1) _ ((Heap.own_get_ne _ 10 _ _ 8 _ (by decide)).trans ((Heap.own_get_ne _ 10 _ _ 8 _ (by decide)).trans p8));have q10:=ow2 10 (h1.gen 10+1) (.cells (vC sv) 0) (by simp only[exa,rA,rB,rC,rD,rE,rF,rG,rH,rI]);obtain⟨h3,c3,X3,ow3,gn3⟩:=qDx M2 (qAj hpV (qAj hpR rfl)) rfl (X2.own 10 (h1.gen 10+1) (.cells (vC u) 0));have r4:=ow3 4 1 _ ((Heap.own_get_ne _ 10 _ _ 4 1 (by decide)).trans q4);have r8:=ow3 8 (h.gen 8+1) _ ((Heap.own_get_ne _ 10 _ _ 8 _ (by decide)).trans q8);refine⟨h3,X3,r4,?_⟩;have P6:∀ a b c d e f:Cell,put1 z6 0 [a,b,c,d,e,f]=[a,b,c,d,e,f]:=λ_ _ _ _ _ _=>rfl
 have P6':put1 (vC sv) 0 (vC u)=vC u:=rfl;have c10:((1:Nat):Int)=1:=rfl;have wi:=qDY i (by omega);have J6:=λ(x14:TVal)=>qQZ A q (kP (.im 0)) (nlV t rows) (kI L) x14 h3 _ V r4 rfl
 have GO:L17 A q 1 [kP (.im 0),pO 4 1,nlV t rows,kI L,kI (i:Int)] h=L17 A q 1 [kP (.im 0),pO 4 1,nlV t rows,kI L,kI (i:Int)] h:=rfl
 conv at GO=>rhs; rw[qNn,b68_1]
 simp (maxSteps:=9999999) +contextual only[exa,rA,rB,rC,rD,rE,rF,rG,rH,rI,exW,hi,hr,rl,Int.toNat_natCast,P9,RL] at GO
 replace GO:=GO.trans (c1 _ _)
 have GO2:L17 A q 1 [kP (.im 0),pO 4 1,nlV t rows,kI L,kI (i:Int)] h=L17 A q 2 [kP (.im 0),pO 4 1,.v (.c (.ptr (.own 8 (h.gen 8+1)) 0)),.v (.c (.ptr (.own 10 (h1.gen 10+1)) 0)),kI 0,nlV t rows,kI L,kI (i:Int)] ((h1.own 10 (h1.gen 10+1) (.cells z6 0)).own 10 (h1.gen 10+1) (.cells (vC sv) 0)):=by
  by_cases h9:K=9
  ·subst h9;simp (maxSteps:=9999999) +contextual only[exa,rA,rB,rC,rD,rE,rF,rG,rH,rI,exW,p4,p8,R0,R4,P6,h1',c10] at GO;rw[qNv] at GO;exact GO
  ·simp (maxSteps:=9999999) +contextual only[exa,rA,rB,rC,rD,rE,rF,rG,rH,rI,exW,p4,p8,R0,P6,h1',h9] at GO;rw[qNv] at GO;exact GO
 clear GO;have GO:=GO2;rw[qQX,b68_2] at GO
 replace GO:L17 A q 1 [kP (.im 0),pO 4 1,nlV t rows,kI L,kI (i:Int)] h=L17 A q 3 [kP (.im 0),pO 4 1,.v (.c (.ptr (.own 8 (h.gen 8+1)) 0)),.v (.c (.ptr (.own 10 (h1.gen 10+1)) 0)),kI 0,nlV t rows,kI L,kI (i:Int)] (h2.own 10 (h1.gen 10+1) (.cells (vC u) 0)):=by
  have zl:∀ β (k:TVal->Heap->Option β) h,vbin .gtr 0 (kI 1) (kI 0) h k=k (kB true) h:=λ_ _ _=>rfl
  by_cases h9:K=9
  ·subst h9;simp (maxSteps:=9999999) +contextual only[exa,rA,rB,rC,rD,rE,rF,rG,rH,rI,exW,p4,p8,R0,R4,P6,c10] at GO
   replace GO:=GO.trans (c2 _ _)
   simp (maxSteps:=9999999) +contextual only[exa,rA,rB,rC,rD,rE,rF,rG,rH,rI,exW,q4,q8,q10,P6'] at GO;rw[qNs] at GO;exact GO
  ·simp (maxSteps:=9999999) +contextual only[exa,rA,rB,rC,rD,rE,rF,rG,rH,rI,exW,p4,p8,R0,R4,P6,h9] at GO
   replace GO:=GO.trans (c2 _ _)
   simp (maxSteps:=9999999) +contextual only[exa,rA,rB,rC,rD,rE,rF,rG,rH,rI,exW,q4,q8,q10,P6'] at GO;rw[qNs] at GO;exact GO
 rw[qQT,b68_3] at GO;simp (maxSteps:=9999999) +contextual only[exa,rA,rB,rC,rD,rE,rF,rG,rH,rI,exW,q4,q8,q10,T9,RL] at GO
 replace GO:=GO.trans (c3 _ _)
 rw[qQW,qQN,b68_4,qQf,qQE,b68_5] at GO;simp (maxSteps:=9999999) +contextual only[exa,rA,rB,rC,rD,rE,rF,rG,rH,rI,exW,r8,R0,h3'] at GO;rw[J6,qQe,b68_6] at GO;simp (maxSteps:=9999999) +contextual only[exa,rA,rB,rC,rD,rE,rF,rG,rH,rI,exW,wi] at GO;exact GO
end
theorem qPN:Om 67 [kI 5000,kI 5000] []=some (kI 5000,[]):=(qAG rfl).trans (qBC blks_ok 50 67 0 0 _ _ _ (by kernel_rfl))
theorem qPM:Om 67 [kI 0,kI 12] []=some (kI 0,[]):=(qAG rfl).trans (qBC blks_ok 50 67 0 0 _ _ _ (by kernel_rfl))
theorem qO0(v:VT)(sm:smV v):Om 69 [kA v.row] []=some (kA (ownV v).row,[]):=by
 refine(qAG rfl).trans ?_;show lim tab.get S 69 0 0 [kA v.row] Go.AI.h0=_;rw[w69_0,b69_0];have U:CAL 95 [.v (.agg [.p (.int .i64 5),.p (.bool false),.p (.int .i64 0),.p (.str []),.p (.slice 1 true [[.str []]]),.p (.slice 6 true [v.row])]),kS []] (.tup [.agg (pcells (ownV v).row),.c (.p (.bool true))]):=λ{β k h d}=>by
  have e:=u93 (k:=k) (h:=h) (d:=d) (boxT v) [] (qOU v sm);rw[qMW] at e;exact e
 simp (maxSteps:=9999999) +contextual only[exa,rA,rB,rC,rD,rE,rF,rG,rH,rI,exY,U,qF3 _ (VT.row_len v),qIP _ (VT.row_len (ownV v)),qKw]
abbrev callsQ:AObj := .cells [.mref (.im 1),.mref (.im 2)] 0
abbrev reT(tree:PVal):RE:=⟨5000,0,65536,tree⟩
abbrev limC:List Cell:=[.p (.int .i64 5000),.p (.int .i64 0),.p (.int .i64 (-1))]
abbrev clC:List AObj:=[callsQ,mapO,mapO]
theorem qFk:Rooted clC:=by
 refine⟨λo ho => ?_,rfl⟩;simp only[List.mem_cons,List.not_mem_nil,or_false] at ho
 rcases ho with rfl|rfl|rfl
 ·exact⟨λe=>(by cases e),λr hr=>by
   have:r = .im 1\/r = .im 2:=by simpa [AObj.refs,Cell.refs] using hr
   rcases this with rfl|rfl
   ·exact⟨1,rfl,by simp⟩
   ·exact⟨2,rfl,by simp⟩⟩
 ·exact⟨λe=>(by cases e),λr hr=>by simp[AObj.refs] at hr⟩
 ·exact⟨λe=>(by cases e),λr hr=>by simp[AObj.refs] at hr⟩
theorem qCF:Om 22 [kNil] []=some (kP (.im 0),clC):=(qAG rfl).trans (qBC blks_ok 500 22 0 0 _ _ _ (by kernel_rfl))
theorem qN1(n:Int)(hn:rngI n):Om 19 [kA (vI n).row] []=some (.tup [.c (.p (.str (Lib.itoa n))),.c (.p (.bool true))],[]):=by
 refine(qAG rfl).trans ?_;show lim tab.get S 19 0 0 [kA (vI n).row] Go.AI.h0=_;have U:=λ(β:Type) (k:TVal->Heap->Option β) (h:Heap) (d:Nat)=>qAE (k:=k) (h:=h) (d:=d) 63 [kA (vI n).row] _ rfl (qMH (vI n) rfl hn.1 hn.2) rfl
 have e:(vI n).row=[.int .i64 2,.bool false,.int .i64 n,.str [],.nilslice,.nilslice]:=rfl;rw[e] at U ⊢;rw[w19_0,b19_0];simp (maxSteps:=9999999) +contextual only[exa,rA,rB,rC,rD,rE,rF,rG,rH,rI,exW];rw[w19_1,b19_1];simp (maxSteps:=9999999) +contextual only[exa,rA,rB,rC,rD,rE,rF,rG,rH,rI,exW,U];rfl
end Go.Proofs.YtnlmlcfipbnpgaaGreatDoor.Ab
namespace Go.AI
noncomputable def labsB(F:MFunc):Bool:=F.labs.all λe=>nodupB e.2.1&&e.2.1.all λx=>Nat.blt (x+1) 1048576
theorem qDK{F:MFunc}(h:labsB F=true):∀ e∈F.labs,nodupB e.2.1=true/\∀ x∈e.2.1,x+1<1048576:=by
 intro e he;have:=List.all_eq_true.1 h e he;rw[Bool.and_eq_true] at this;refine⟨this.1,λx hx => ?_⟩;have:=List.all_eq_true.1 this.2 x hx
 rwa [Nat.blt_eq] at this
noncomputable abbrev zN:ZapF:=λ_ vs h=>(vs,h)
end Go.AI
namespace Go.Proofs.YtnlmlcfipbnpgaaGreatDoor.Ab
open Go Go.AI
theorem qGc[Sym]{G:Nat->Option (List PVal)}(hm:Tryz.prog.follows .mixedOrders=true)(hT:TabM Tryz.prog G tab.get)(hS:FSound Tryz.prog G S){A:Oracle}(hA:FSound Tryz.prog G A):FSound Tryz.prog G (mkO A):=by
 have hO:FSound Tryz.prog G Om:=qCH hm hT hS;intro f a o v o' e;unfold mkO at e;split at e
 ·exact hA f a o v o' e
 ·exact hO f a o v o' e
theorem lvl[Sym]{G:Nat->Option (List PVal)}(hm:Tryz.prog.follows .mixedOrders=true)(hT:TabM Tryz.prog G tab.get)(hS:FSound Tryz.prog G S){A:Oracle}(hA:FSound Tryz.prog G A){g:FuncId}{F:MFunc}(hF:tab.get g=some F)(hN:labsB F=true){Z:ZapF}(hZ:ZOK Z)
  {ps:List TVal} (hs:spec g (kP (.im 0)::ps)=true) {e:RE} {out out':List UInt8} {k k':Int} {v:Comp} (hv:pComp v=true) (H:∃ h',RunAt h' e out' k' (cg e out k).length/\limZ F (mkO A) Z (cg e out k).length 0 (kP (.im 0)::ps) ⟨cg e out k,.nil⟩=vfin true (cg e out k).length [v] h') :
  ∃ A',FSound Tryz.prog G A'/\RunM A' g ps e out k (oneOf [v]) out' k':=by
 obtain⟨h',X,e1⟩:=H;obtain⟨qs,ρ',f1,f2,f3,f4,f5,f6⟩:=qEk X true [v] (qAj hv rfl);have e2:limZ F (mkO A) Z (lenF (cg e out k)) 0 (kP (.im 0)::ps) { ims:=cg e out k,owns := .nil }=some (oneOf [v],qs):=by rw[qAI]; exact e1.trans f1
 refine⟨addZ g (kP (.im 0)::ps) (cg e out k) (oneOf [v],qs) A,qCS hm hA (qGc hm hT hS hA) hT hF (qDK hN) hZ e2,qs,ρ',?_,f2,f3,f4,f5,f6⟩;rw[qOc hs];unfold addZ;rw[if_pos ⟨rfl,rfl,rfl⟩]
abbrev plV(op:List PVal):TVal:=kSl 1 true [[.slice 7 true [op]]]
theorem qPW(t:Bool)(x:List UInt8)(hx:x≠[])(w u:VT)(d:Int)(hp:pT (aC (scV (varsP t x u) w d))=true)(e:RE)(out:List UInt8)(k:Int)(h0:0<=k)(hk:k<e.steps)(hs:e.steps<=1000000):RunDo 136 [aC (scV (varsP t x u) w d),plV (opK 1 x [] 0 .nilslice)] e out k (tupV u) out (k+1) :=
 qNB _ rfl hp true _ u e out k (k+1) (qH5 _ rfl hp 1 (by decide) x [] 0 .nilslice true u e out k (k+1) h0 hk hs (qOy (varsP t x u) w u d x (qOD t x hx u w d) e out (k+1)))
theorem qKH(V:PVal)(e:RE)(out:List UInt8)(k:Int)(sv v:VT)(d at':Int)(p:PVal)(hpV:pT (aC (scV V sv d))=true)(hv:v.kind=2)(hn:rngI v.n)(hl:((out.length+(Lib.itoa v.n).length:Nat):Int)<=e.write)(hw:e.write<=1000000) :
  RunDo 137 [aC (scV V sv d),aC (pcells (ndG 2 at' [] [] p)),aC (vC v)] e out k (kI 0) (out++Lib.itoa v.n) k:=by
 obtain⟨h',t,c1,c2,X1,ow,gn⟩:=qDV (qNP e out k v hv hn hl hw) rfl rfl ((((qBo e out k).own 5 1 (.cells (scV V sv d) 0)).own 6 1 (.cells (pcells (ndG 2 at' [] [] p)) 0)).own 7 1 (.cells (vC v) 0));have GO:lim tab.get S 137 (cg e out k).length 0 [kP (.im 0),aC (scV V sv d),aC (pcells (ndG 2 at' [] [] p)),aC (vC v)] ⟨cg e out k,.nil⟩=lim tab.get S 137 (cg e out k).length 0 [kP (.im 0),aC (scV V sv d),aC (pcells (ndG 2 at' [] [] p)),aC (vC v)] ⟨cg e out k,.nil⟩:=rfl
 conv at GO=>rhs; rw[w137_0,b137_0]
 have p0:(pcells (ndG 2 at' [] [] p))[0]?=some (.p (.int .i64 2)):=rfl;simp (maxSteps:=9999999) +contextual only[exa,rA,rB,rC,rD,rE,rF,rG,rH,rI,exW,p0] at GO
 replace GO:=GO.trans (c1 _ _)
 simp (maxSteps:=9999999) +contextual only[exa,rA,rB,rC,rD,rE,rF,rG,rH,rI,exW] at GO;exact qC3 _ rfl rfl ⟨_,true,[.c (.p (.int .i64 0))],rfl,rfl,X1,GO⟩
section
variable {A:Oracle}
theorem qO3(q:Nat)(t:Bool)(rows:List (List PVal))(L:Int)(x4:TVal)(h:Heap):L17 A q 1 [kP (.im 0),x4,nlV t rows,kI L,kI L] h=vfin true q [.c (.p (.int .i64 0))] h:=by
 rw[qNn,b68_1];simp (maxSteps:=9999999) +contextual only[exa,rA,rB,rC,rD,rE,rF,rG,rH,rI,exW,Int.lt_irrefl]
end
theorem qM5(x:Int):rngI (IntKind.i64.wrap x):=by
 unfold rngI IntKind.wrap;simp[IntKind.bits,IntKind.signed];split <;> omega
theorem n17:labsB c68=true:=by kernel_rfl
section
variable {A:Oracle}
theorem v8_0(q:Nat)(x0 x1 x2 x3:TVal)(h:Heap):limZ c21 (mkO A) zN q 0 [x0,x1,x2,x3] h=b21_0 (mkO A) (jumpZ c21 (mkO A) zN q) q x0 x1 x2 x3 h:=(qAs _ _ _).trans (e21_0 ..).symm
theorem v8_1(q:Nat)(x0 x1 x2 x3:TVal)(h:Heap):limZ c21 (mkO A) zN q 1 [x0,x1,x2,x3] h=b21_1 (mkO A) (jumpZ c21 (mkO A) zN q) q x0 x1 x2 x3 h:=(qAs _ _ _).trans (e21_1 ..).symm
theorem v8_2(q:Nat)(x0 x1:TVal)(h:Heap):limZ c21 (mkO A) zN q 2 [x0,x1] h=b21_2 (mkO A) (jumpZ c21 (mkO A) zN q) q x0 x1 h:=(qAs _ _ _).trans (e21_2 ..).symm
theorem j8(q l:Nat)(vs:List TVal)(h:Heap):jumpZ c21 (mkO A) zN q l vs h=limZ c21 (mkO A) zN q l vs h:=rfl
theorem qPw(tree:PVal)(v:VT)(sm:smV v)(b:UInt8)(l:List UInt8)(k:Int)(t2:Bool)(rows:List (List PVal))(name:List UInt8)(body:PVal)(hrows:tree = .slice 2 t2 rows)(h0r:rows[0]?=some [.str name,body])(hbp:pT (.v (.c (.p body)))=true)(M:RunM A 68 [aC (scV .nilslice (ownV v) 0),.v (.c (.p body))] (reT tree) [] 0 (kI 0) (b::l) k) :
  ∃ qs,limZ c21 (mkO A) zN 3 0 [.v (.c (.p (tree))),aC (vC v),kP (.im 0),aC limC] ⟨clC,.nil⟩=some (.tup [.c (.p (.slice 1 false ((b::l).map byR))),.c (.p (.int .i64 k)),.c (.p (.int .i64 0))],qs)/\3<=qs.length:=by
 have U1:=λ(β:Type) (kt:TVal->Heap->AI.Touch->Option β) (h:Heap) (d:Nat)=>qCU (O:=mkO A) (kt:=kt) (h:=h) (d:=d) 67 [kI 5000,kI 5000] _ rfl ((qEF rfl).trans qPN) rfl
 have U2:=λ(β:Type) (kt:TVal->Heap->AI.Touch->Option β) (h:Heap) (d:Nat)=>qCU (O:=mkO A) (kt:=kt) (h:=h) (d:=d) 67 [kI 0,kI 12] _ rfl ((qEF rfl).trans qPM) rfl
 have U18:=λ(β:Type) (kt:TVal->Heap->AI.Touch->Option β) (h:Heap) (d:Nat)=>qCU (O:=mkO A) (kt:=kt) (h:=h) (d:=d) 69 [kA v.row] _ (by simp only[exP]) ((qEF rfl).trans (qO0 v sm)) (by simp only[exP])
 have ev:kA v.row=aC (vC v):=by rw[VT.row_eq]; rfl
 have eo:kA (ownV v).row=aC (vC (ownV v)):=by rw[VT.row_eq]; rfl
 rw[ev,eo] at U18;simp only[List.map_cons,List.map_nil] at U1 U2 U18;have hlr:(rows.length:Int)≠0/\(0:Int)<(rows.length:Int):=by
  have:=(List.getElem?_eq_some_iff.1 h0r).1;omega
 rw[v8_0,b21_0];have B1:∀ (β:Type) (kt:TVal->Heap->AI.Touch->Option β) (h:Heap),vtouch (mkO A) (.build [.p (.int .i64 0),.p (.int .i64 0),.p (.int .i64 0)] [(0,1,.k (kI 5000)),(1,1,.k (kI 0)),(2,1,.k (.v (.c (.p (.int .i64 (-1))))))]) h 20 kt=kt (aC [.p (.int .i64 5000),.p (.int .i64 0),.p (.int .i64 (-1))]) h noTouch:=λ_ _ _=>rfl
 have B2:∀ (β:Type) (kt:TVal->Heap->AI.Touch->Option β) (h:Heap),vtouch (mkO A) (.build [.p (.int .i64 0),.p (.int .i64 0),.p (.int .i64 0),.p .nilslice,.p .nilptr,.p .nilslice,.p (.int .i64 0)] [(0,3,.k (aC [.p (.int .i64 5000),.p (.int .i64 0),.p (.int .i64 (-1))])),(3,1,.k (.v (.c (.p (tree))))),(4,1,.k (kP (.im 0)))]) h 23 kt =
  kt (aC [.p (.int .i64 5000),.p (.int .i64 0),.p (.int .i64 (-1)),.p (tree),.ptr (.im 0) 0,.p .nilslice,.p (.int .i64 0)]) h noTouch:=λ_ _ _=>rfl
 have B3:∀ (β:Type) (kt:TVal->Heap->AI.Touch->Option β) (h:Heap) (cs:List Cell),vtouch (mkO A) (.box (.k (aC cs)) false) h 24 kt=kt (.v (.c (.ptr (.own 24 (h.gen 24+1)) 0))) (h.own 24 (h.gen 24+1) (.cells cs 0)) ⟨[],[.own 24],false⟩:=λ_ _ _ _=>rfl
 simp (maxSteps:=9999999) +contextual only[exa,rA,rB,rC,rD,rE,rF,rG,rH,rI,exW,exY,U1,U2,B1,B2,B3];generalize hH:(((({ ims:=clC,owns:=TM.nil }:Heap).own 5 1 (AObj.cells (vC v) 0)).own 7 1 (AObj.cells limC 0)).own 24 1 (.cells [.p (.int .i64 5000),.p (.int .i64 0),.p (.int .i64 (-1)),.p (tree),.ptr (.im 0) 0,.p .nilslice,.p (.int .i64 0)] 0)).own 24 1 (.cells [.p (.int .i64 5000),.p (.int .i64 0),.p (.int .i64 65536),.p (tree),.ptr (.im 0) 0,.p .nilslice,.p (.int .i64 0)] 0)=H;have g24:H.get (.own 24 1)=some (.cells [.p (.int .i64 5000),.p (.int .i64 0),.p (.int .i64 65536),.p (tree),.ptr (.im 0) 0,.p .nilslice,.p (.int .i64 0)] 0):=by rw[<- hH]; simp only[exa,rA,rB,rC,rD,rE,rF,rG,rH,rI]
 have g5:H.get (.own 5 1)=some (.cells (vC v) 0):=by rw[<- hH]; simp only[exa,rA,rB,rC,rD,rE,rF,rG,rH,rI]
 have i0:H.get (.im 0)=some callsQ:=by rw[<- hH]; rfl
 have i1:H.get (.im 1)=some mapO:=by rw[<- hH]; rfl
 have i2:H.get (.im 2)=some mapO:=by rw[<- hH]; rfl
 have AA:At H [.own 24 1,.im 0,.im 1,.im 2] (cg (reT tree) [] 0):=by
  refine⟨by decide,rfl,λi r o e1 e2 => ?_⟩
  match i with
  |0=>cases e1; cases e2; exact g24
  |1=>cases e1; cases e2; exact i0
  |2=>cases e1; cases e2; exact i1
  |3=>cases e1; cases e2; exact i2
  |i+4=>simp at e1
 obtain⟨h2,t2',ρ,_,c2,A2,e2,K2,G2,L2⟩:=qII M (qAW _ _ _) (qAW _ _ _).1 (qBP _ _ _).1 (qAj rfl (qAj hbp rfl)) (by rfl) AA rfl;have C2:=λ(β:Type) (kt:TVal->Heap->AI.Touch->Option β)=>c2 (β:=β) 48 kt
 simp only[List.map_cons,List.map_nil] at C2;have T1:AI.Touch.apart noTouch noTouch=true:=rfl;have IA:∀ (β:Type) (k:TVal->Heap->Option β) (h:Heap),viaddr 2 (.v (.c (.p (tree)))) (kI 0) h k=k (.v (.c (.p (.pptr [.str name,body] 0)))) h:=λβ k h=>by
  rw[hrows];simp (maxSteps:=9999999) +contextual only[exa,rA,rB,rC,rD,rE,rF,rG,rH,rI,h0r,Int.toNat_zero]
 have FA:∀ (β:Type) (kt:TVal->Heap->AI.Touch->Option β) (h:Heap),vtouch (mkO A) (.faddr 1 (.k (.v (.c (.p (.pptr [.str name,body] 0)))))) h 46 kt=kt (.v (.c (.p (.pptr [.str name,body] 1)))) h noTouch:=λ_ _ _=>rfl
 have LA:∀ (β:Type) (kt:TVal->Heap->AI.Touch->Option β) (h:Heap),vtouch (mkO A) (.load false 1 (.k (.v (.c (.p (.pptr [.str name,body] 1)))))) h 47 kt=kt (.v (.c (.p body))) h noTouch:=λ_ _ _=>rfl
 have B4:∀ (β:Type) (kt:TVal->Heap->AI.Touch->Option β) (h:Heap),vtouch (mkO A) (.build [.p (.int .i64 0),.p (.bool false),.p (.int .i64 0),.p (.str []),.p .nilslice,.p .nilslice,.p .nilslice,.p (.int .i64 0)] [(0,6,.k (aC (vC (ownV v))))]) h 43 kt=kt (aC (scV .nilslice (ownV v) 0)) h noTouch:=λ_ _ _=>rfl
 have LN:∀ (β:Type) (k:TVal->Heap->Option β) (h:Heap),vlen (mkO A) 2 (.v (.c (.p (tree)))) h 38 k=k (kI (rows.length:Int)) h:=λβ k h=>by rw[hrows]; simp (maxSteps:=9999999) +contextual only[exa,rA,rB,rC,rD,rE,rF,rG,rH,rI]
 rw[j8,v8_1,b21_1];simp (maxSteps:=9999999) +contextual only[exa,rA,rB,rC,rD,rE,rF,rG,rH,rI,exW,exY,LN,hlr.2,g5,U18,B4,IA,FA,LA,C2,T1];rw[j8,v8_2,b21_2];have g24':h2.get (.own 24 1)=some ((runO (reT tree) (outT (b::l) (.im 4)) k).ren (outR ρ)):=A2.get 0 _ _ e2 rfl;obtain⟨r4,hr4⟩:∃ r4,outR ρ (.im 4)=some r4:=by
  have:=(qAT (ρ:=ρ) (i:=4) (by rw[A2.len]; exact Nat.lt_succ_self 4)).1;exact⟨_,this⟩
 obtain⟨r1,hr1⟩:∃ r1,outR ρ (.im 1)=some r1:=by
  have:=(qAT (ρ:=ρ) (i:=1) (by rw[A2.len]; show 1<5; decide)).1;exact⟨_,this⟩
 have g24'':h2.get (.own 24 1)=some (.cells [.p (.int .i64 5000),.p (.int .i64 0),.p (.int .i64 65536),.p (tree),.ptr r1 0,outT (b::l) r4,.p (.int .i64 k)] 0):=by
  rw[g24'];simp only[AObj.ren,List.map_cons,List.map_nil,Cell.ren,hr1,hr4];rfl
 simp (maxSteps:=9999999) +contextual only[exa,rA,rB,rC,rD,rE,rF,rG,rH,rI,exW,g24''];obtain⟨qs,q1,q2⟩:=qOK (h:=h2) true 3 [.c (outT (b::l) r4),.c (.p (.int .i64 k)),.c (.p (.int .i64 0))] (.tup [.c (.p (.slice 1 false ((b::l).map byR))),.c (.p (.int .i64 k)),.c (.p (.int .i64 0))]) rfl rfl;exact⟨qs,q1,q2⟩
end
theorem kerN(n a c b1 b2 b3:Int)(K:Jump):runT .nil n a c (bodyV b1 b2 b3) K=atV .nil n a c (bodyV b1 b2 b3) (.ofNat 4) (sumF n []) K:=by kernel_rfl
theorem ker0(t:Bool)(n a c b1 b2 b3:Int)(K:Jump):runT (.mk t []) n a c (bodyV b1 b2 b3) K=atV (.mk t []) n a c (bodyV b1 b2 b3) (.ofNat 4) (sumF n []) K:=by kernel_rfl
theorem ker1(t:Bool)(x0:Int)(n a c b1 b2 b3:Int)(K:Jump):runT (.mk t [vI x0]) n a c (bodyV b1 b2 b3) K=atV (.mk t [vI x0]) n a c (bodyV b1 b2 b3) (.ofNat 11) (sumF n [x0]) K:=by kernel_rfl
theorem ker2(t:Bool)(x0 x1:Int)(n a c b1 b2 b3:Int)(K:Jump):runT (.mk t [vI x0,vI x1]) n a c (bodyV b1 b2 b3) K=atV (.mk t [vI x0,vI x1]) n a c (bodyV b1 b2 b3) (.ofNat 18) (sumF n [x0,x1]) K:=by kernel_rfl
theorem ker3(t:Bool)(x0 x1 x2:Int)(n a c b1 b2 b3:Int)(K:Jump):runT (.mk t [vI x0,vI x1,vI x2]) n a c (bodyV b1 b2 b3) K=atV (.mk t [vI x0,vI x1,vI x2]) n a c (bodyV b1 b2 b3) (.ofNat 25) (sumF n [x0,x1,x2]) K:=by kernel_rfl
theorem ker4(t:Bool)(x0 x1 x2 x3:Int)(n a c b1 b2 b3:Int)(K:Jump):runT (.mk t [vI x0,vI x1,vI x2,vI x3]) n a c (bodyV b1 b2 b3) K=atV (.mk t [vI x0,vI x1,vI x2,vI x3]) n a c (bodyV b1 b2 b3) (.ofNat 32) (sumF n [x0,x1,x2,x3]) K:=by kernel_rfl
theorem ker5(t:Bool)(x0 x1 x2 x3 x4:Int)(n a c b1 b2 b3:Int)(K:Jump):runT (.mk t [vI x0,vI x1,vI x2,vI x3,vI x4]) n a c (bodyV b1 b2 b3) K=atV (.mk t [vI x0,vI x1,vI x2,vI x3,vI x4]) n a c (bodyV b1 b2 b3) (.ofNat 39) (sumF n [x0,x1,x2,x3,x4]) K:=by kernel_rfl
theorem ker6(t:Bool)(x0 x1 x2 x3 x4 x5:Int)(n a c b1 b2 b3:Int)(K:Jump):runT (.mk t [vI x0,vI x1,vI x2,vI x3,vI x4,vI x5]) n a c (bodyV b1 b2 b3) K=atV (.mk t [vI x0,vI x1,vI x2,vI x3,vI x4,vI x5]) n a c (bodyV b1 b2 b3) (.ofNat 46) (sumF n [x0,x1,x2,x3,x4,x5]) K:=by kernel_rfl
theorem ker7(t:Bool)(x0 x1 x2 x3 x4 x5 x6:Int)(n a c b1 b2 b3:Int)(K:Jump):runT (.mk t [vI x0,vI x1,vI x2,vI x3,vI x4,vI x5,vI x6]) n a c (bodyV b1 b2 b3) K=atV (.mk t [vI x0,vI x1,vI x2,vI x3,vI x4,vI x5,vI x6]) n a c (bodyV b1 b2 b3) (.ofNat 53) (sumF n [x0,x1,x2,x3,x4,x5,x6]) K:=by kernel_rfl
theorem ker8(t:Bool)(x0 x1 x2 x3 x4 x5 x6 x7:Int)(n a c b1 b2 b3:Int)(K:Jump):runT (.mk t [vI x0,vI x1,vI x2,vI x3,vI x4,vI x5,vI x6,vI x7]) n a c (bodyV b1 b2 b3) K=atV (.mk t [vI x0,vI x1,vI x2,vI x3,vI x4,vI x5,vI x6,vI x7]) n a c (bodyV b1 b2 b3) (.ofNat 60) (sumF n [x0,x1,x2,x3,x4,x5,x6,x7]) K:=by kernel_rfl
theorem ker9(t:Bool)(x0 x1 x2 x3 x4 x5 x6 x7 x8:Int)(n a c b1 b2 b3:Int)(K:Jump):runT (.mk t [vI x0,vI x1,vI x2,vI x3,vI x4,vI x5,vI x6,vI x7,vI x8]) n a c (bodyV b1 b2 b3) K=atV (.mk t [vI x0,vI x1,vI x2,vI x3,vI x4,vI x5,vI x6,vI x7,vI x8]) n a c (bodyV b1 b2 b3) (.ofNat 67) (sumF n [x0,x1,x2,x3,x4,x5,x6,x7,x8]) K:=by kernel_rfl
theorem qQF(t:Bool)(x0 x1 x2 x3 x4 x5 x6 x7 x8 x9:Int)(n a c b1 b2 b3:Int)(K:Jump):runT (.mk t [vI x0,vI x1,vI x2,vI x3,vI x4,vI x5,vI x6,vI x7,vI x8,vI x9]) n a c (bodyV b1 b2 b3) K=atV (.mk t [vI x0,vI x1,vI x2,vI x3,vI x4,vI x5,vI x6,vI x7,vI x8,vI x9]) n a c (bodyV b1 b2 b3) (.ofNat 74) (sumF n [x0,x1,x2,x3,x4,x5,x6,x7,x8,x9]) K:=by kernel_rfl
theorem qPb:mkO Om=Om:=by
 funext f a o
 unfold mkO;split <;> rfl
theorem qNo(f:FuncId)(a:List TVal)(o:List AObj)(r:TVal×List AObj)(e:OA f a o=some r):Om f a o=some r:=(Known.refl _ _).orc blks_ok e
theorem qEC:∀ (xs:List Int) (n:Int),rngI n->rngI (sumF n xs)
 |[],n,h=>h
 |x::xs,n,h=>by
  show rngI (sumF (wrapF .i64 (n+x)) xs);exact qEC xs _ (by rw[qAk]; exact qM5 _)
def IsL(l:Sl VT)(xs:List Int):Prop:=(l = .nil/\xs=[])\/∃ t,l = .mk t (xs.map vI)
theorem qOQ(l:Sl VT)(xs:List Int)(hl:IsL l xs)(hx:xs.length<=10)(n a c b1 b2 b3:Int)(K:Jump):runT l n a c (bodyV b1 b2 b3) K=atV l n a c (bodyV b1 b2 b3) ((4+7*xs.length:Nat):Int) (sumF n xs) K:=by
 rcases hl with ⟨rfl,rfl⟩|⟨t,rfl⟩
 ·exact kerN n a c b1 b2 b3 K
 ·match xs,hx with
  |[],_=>exact ker0 t n a c b1 b2 b3 K
  |[x0],_=>exact ker1 t x0 n a c b1 b2 b3 K
  |[x0,x1],_=>exact ker2 t x0 x1 n a c b1 b2 b3 K
  |[x0,x1,x2],_=>exact ker3 t x0 x1 x2 n a c b1 b2 b3 K
  |[x0,x1,x2,x3],_=>exact ker4 t x0 x1 x2 x3 n a c b1 b2 b3 K
  |[x0,x1,x2,x3,x4],_=>exact ker5 t x0 x1 x2 x3 x4 n a c b1 b2 b3 K
  |[x0,x1,x2,x3,x4,x5],_=>exact ker6 t x0 x1 x2 x3 x4 x5 n a c b1 b2 b3 K
  |[x0,x1,x2,x3,x4,x5,x6],_=>exact ker7 t x0 x1 x2 x3 x4 x5 x6 n a c b1 b2 b3 K
  |[x0,x1,x2,x3,x4,x5,x6,x7],_=>exact ker8 t x0 x1 x2 x3 x4 x5 x6 x7 n a c b1 b2 b3 K
  |[x0,x1,x2,x3,x4,x5,x6,x7,x8],_=>exact ker9 t x0 x1 x2 x3 x4 x5 x6 x7 x8 n a c b1 b2 b3 K
  |[x0,x1,x2,x3,x4,x5,x6,x7,x8,x9],_=>exact qQF t x0 x1 x2 x3 x4 x5 x6 x7 x8 x9 n a c b1 b2 b3 K
  |_::_::_::_::_::_::_::_::_::_::_::_,h=>simp at h
theorem qPi(l:Sl VT)(n a c:Int)(body:PVal)(k s:Int):RunAt (hV l n a c body k s) (reV n a c body) [] k 4:=by
 refine⟨⟨[.im 0,.im 1,.im 2,.im 3],⟨by decide,rfl,λi r o e1 e2 => ?_⟩,rfl,λx hx => ?_,λ_ j hj => .inl ?_⟩,by show 4<=5; decide⟩
 ·match i with
  |0=>cases e1; cases e2; rfl
  |1=>cases e1; cases e2; rfl
  |2=>cases e1; cases e2; rfl
  |3=>cases e1; cases e2; rfl
  |i+4=>simp at e1
 ·simp at hx
  rcases hx with rfl|rfl|rfl|rfl <;> exact⟨_,rfl⟩
 ·have:j=0\/j=1\/j=2\/j=3:=by omega
  rcases this with rfl|rfl|rfl|rfl <;> simp
theorem qNO(l:Sl VT)(n a c:Int)(body:PVal)(k s:Int):(hV l n a c body k s).get (.own 4 1)=some (.cells (scV (varsP false [115] (vI s)) (lstV l) 0) 0):=by kernel_rfl
section
variable [Sym] {G:Nat->Option (List PVal)}
theorem qMy(hm:Tryz.prog.follows .mixedOrders=true)(hT:TabM Tryz.prog G tab.get)(hS:FSound Tryz.prog G S)(l:Sl VT)(xs:List Int)(hl:IsL l xs)(hx:xs.length<=10)(n a c b1 b2 b3:Int)(hn:rngI n) :
  ∃ A,FSound Tryz.prog G A/\RunM A 68 [aC (scV .nilslice (lstV l) 0),nlV false (mainV n a c (bodyV b1 b2 b3))] (reV n a c (bodyV b1 b2 b3)) [] 0 (kI 0) (Lib.itoa (sumF n xs)) ((6+7*xs.length:Nat):Int):=by
 have hO:FSound Tryz.prog G Om:=qCH hm hT hS;have hr:=qEC xs n hn;have il:=qCW (sumF n xs) hr.1 hr.2;generalize hs:sumF n xs=s at *;generalize hB:bodyV b1 b2 b3=body;have K:=λK=>qOQ l xs hl hx n a c b1 b2 b3 K
 rw[hB,hs] at K;have hst:(reV n a c body).steps<=1000000:=by show(5000:Int)<=1000000; decide
 have hw:(reV n a c body).write<=1000000:=by show(65536:Int)<=1000000; decide
 have hp:pT (aC (scV (varsP false [115] (vI s)) (lstV l) 0))=true:=rfl;generalize hk:((4+7*xs.length:Nat):Int)=k at K;obtain⟨g3,X3,p3,e3⟩:=qJd (A:=Om) (k1:=k+1+1) (reV n a c body) (varsP false [115] (vI s)) (lstV l) 0 c 4 4 false (mainV n a c body) 3 2 2 [] true (.slice 7 true [opK 1 [115] [] 0 .nilslice]) (vI s) (by decide) (by decide) rfl (by decide) (by decide) (by omega) (by show k<5000; omega) hst hp rfl
  (qJ1 rfl (qPW false [115] (by decide) (lstV l) (vI s) 0 hp (reV n a c body) [] (k+1) (by omega) (by show k+1<5000; omega) hst))
  (qJ1 rfl (qKH (varsP false [115] (vI s)) (reV n a c body) [] (k+1+1) (lstV l) (vI s) 0 c _ hp rfl hr (by show((0+(Lib.itoa s).length:Nat):Int)<=65536; omega) hw)) (hV l n a c body k s) (qPi l n a c body k s) (qNO l n a c body k s)
 refine lvl hm hT hS hO (A:=Om) k68 n17 (Z:=Z17) qQQ rfl rfl ⟨g3,?_,?_⟩
 ·rw[show((6+7*xs.length:Nat):Int)=k+1+1 by omega];exact X3
 ·have e4:=e3.trans (qO3 (A:=Om) 4 false (mainV n a c body) 3 _ g3);have X3':RunAt g3 (reV n a c body) (Lib.itoa s) (k+1+1) 4:=X3;obtain⟨qs,ρ',f1,_⟩:=qEk (out:=[]) (k:=0) X3' true [.c (.p (.int .i64 0))] rfl;have f1':vfin true 4 [.c (.p (.int .i64 0))] g3=some (oneOf [.c (.p (.int .i64 0))],qs):=f1;unfold L17 at e4;rw[qPb] at e4 ⊢;have e5:=qOL (F:=c68) (B:=d68) (O:=Om) (O':=OA) (Z:=Zv) (q:=4) (stop:=stopV) (n:=60) (λO R q=>o68 O R q) qNo K (e4.trans f1');exact e5.trans f1'.symm
end
end Go.Proofs.YtnlmlcfipbnpgaaGreatDoor.Ab
namespace Go.AI
theorem qOF{S1 S2:Oracle}{f:FuncId}{a:List TVal}{o:List AObj}{r:TVal×List AObj}(h:S1 f a o=some r):orS S1 S2 f a o=some r:=by
 unfold orS; rw[h]
theorem qMV{S1 S2:Oracle}{f:FuncId}{a:List TVal}{o:List AObj}(h:S1 f a o=none):orS S1 S2 f a o=S2 f a o:=by
 unfold orS; rw[h]
noncomputable abbrev oneZ(f:FuncId)(args:List TVal)(objs:List AObj)(r:TVal×List AObj):Oracle:=addZ f args objs r λ_ _ _=>none
theorem qM8{f:FuncId}{args:List TVal}{objs:List AObj}{r:TVal×List AObj}:oneZ f args objs r f args objs=some r:=by
 show addZ f args objs r _ f args objs=_;unfold addZ; rw[if_pos ⟨rfl,rfl,rfl⟩]
theorem qKg{f:FuncId}{args:List TVal}{objs:List AObj}{r:TVal×List AObj}{g:FuncId}{a:List TVal}{o:List AObj}(h:¬ (g=f/\a=args/\o=objs)):oneZ f args objs r g a o=none:=by
 show addZ f args objs r _ g a o=_;unfold addZ; rw[if_neg h]
theorem qNN{f:FuncId}{args:List TVal}{objs:List AObj}{r:TVal×List AObj}{S:Oracle}{W:Mach}:orc (addZ f args objs r S) W f args objs=some r:=by
 have:addZ f args objs r S f args objs=some r:=by unfold addZ; rw[if_pos ⟨rfl,rfl,rfl⟩]
 show Option.rec (motive:=λ_=>Res1) _ some (addZ f args objs r S f args objs)=some r;rw[this]
end Go.AI
namespace Go.Proofs.YtnlmlcfipbnpgaaGreatDoor.Ab
open Go Go.AI
theorem vadd{β:Type}{h:Heap}{k:TVal->Heap->Option β}(a b:List UInt8)(hl:a.length+b.length<=4611686018427387904):vbin .add 0 (kS a) (kS b) h k=k (kS (a++b)) h:=by
 simp (config:={ maxSteps:=10000000 }) only[exa,rA,rB,rC,rD,rE,rF,rG,rH,rI,decide_eq_true hl]
def fargI(o:Option (List Int)):Sl Int:=match o with
 |none => .nil
 |some l => .mk false l
theorem qMJ(o:Option (List Int)):intsP .i64 o=slP 1 iRow (fargI o):=by cases o <;> rfl
abbrev FS4(s:Sl Int):TVal := .v (.c (.p (slP 1 iRow s)))
theorem smI(n:Int):smV (vI n):=(qDj _).2 ⟨by show 0<=100000; decide,by show 0<=1000; decide,by show 0<=1000; decide,λx hx=>by cases hx⟩
theorem qNQ(l:List Int):(l.map vI).map ownV=l.map vI:=by
 rw[List.map_map]; exact List.map_congr_left λn _=>by show ownV (vI n)=vI n; rw[qEE]; rfl
def lOf(xs:List Int):Sl VT:=match xs with
 |[] => .nil
 |x::l => .mk false ((x::l).map vI)
theorem qGl(xs:List Int):(lOf xs).list=xs.map vI:=by cases xs <;> rfl
theorem qO2(xs:List Int):∃ l,ownV (lstV (lOf xs))=lstV l/\IsL l xs:=by
 cases xs with
 |nil=>exact⟨.nil,by rw[qEE]; rfl,.inl ⟨rfl,rfl⟩⟩
 |cons x l =>
  refine⟨.mk (capO ((x::l).map vI)==some ((x::l).map vI).length) ((x::l).map vI),?_,.inr ⟨_,rfl⟩⟩;rw[qEE];show VT.mk 4 false 0 [] _ (ownS (.mk false ((x::l).map vI)))=_;rw[qIg,qNQ]; rfl
theorem qPz{ns:List Int}{L:Cell}(B:Bears 6 L (ns.map λn=>(vI n).row)):L.strip = .p (slP 6 VT.row (lOf ns)):=by
 rcases B with ⟨h1,rfl⟩|⟨h1,r,rfl⟩
 ·have:ns=[]:=by simpa using h1
  rw[this]; rfl
 ·cases ns with
  |nil=>exact absurd rfl h1
  |cons x l=>show Cell.p (.slice 6 false ((x::l).map λn=>(vI n).row)) = .p (.slice 6 false (((x::l).map vI).map VT.row)); rw[List.map_map]; rfl
section
variable [Sym] {G:Nat->Option (List PVal)}
theorem qLL(hm:Tryz.prog.follows .mixedOrders=true)(hT:TabM Tryz.prog G tab.get)(hS:FSound Tryz.prog G S)(xs:List Int)(hx:xs.length<=10)(n a c b1 b2 b3:Int)(hn:rngI n) :
  ∃ qs,3<=qs.length/\FSound Tryz.prog G (oneZ 21 [.v (.c (.p (treeV n a c (bodyV b1 b2 b3)))),aC (vC (lstV (lOf xs))),kP (.im 0),aC limC] clC (.tup [.c (.p (.slice 1 false ((Lib.itoa (sumF n xs)).map byR))),.c (.p (.int .i64 ((6+7*xs.length:Nat):Int))),.c (.p (.int .i64 0))],qs)):=by
 have hO:FSound Tryz.prog G Om:=qCH hm hT hS;obtain⟨l,el,hl⟩:=qO2 xs;obtain⟨A,SA,RA⟩:=qMy hm hT hS l xs hl hx n a c b1 b2 b3 hn
 have sm:smV (lstV (lOf xs)):=(qDj _).2 ⟨by show 0<=100000; decide,by show 0<=1000; decide,by
  show(lOf xs).list.length<=1000;rw[qGl,List.length_map]; omega,λx hx'=>by
  have:x∈(lOf xs).list:=hx';rw[qGl] at this;obtain⟨m,_,rfl⟩:=List.mem_map.1 this
  exact smI m⟩
 obtain⟨b,t,hbt⟩:∃ b t,Lib.itoa (sumF n xs)=b::t:=by
  cases ho:Lib.itoa (sumF n xs) with
  |nil=>exact absurd ho (qIa _ (qEC xs n hn))
  |cons b t=>exact⟨_,_,rfl⟩
 rw[hbt] at RA ⊢;obtain⟨qs,hq,hql⟩:=qPw (A:=A) (treeV n a c (bodyV b1 b2 b3)) (lstV (lOf xs)) sm b t _ true _ [] (.slice 9 false (mainV n a c (bodyV b1 b2 b3))) rfl rfl rfl (by rw[el]; exact RA);exact⟨qs,hql,qCS hm qJa (qGc hm hT hS SA) hT k21 (qDK (by kernel_rfl:labsB c21=true)) zapN_ok hq⟩
end
structure VHv (acc:List Int) (L:Cell) (h:Heap):Prop where
 v5:h.get (.own 5 1)=some (.cells [.p (.int .i64 4),.p (.bool false),.p (.int .i64 0),.p (.str []),.p .nilslice,L] 0)
 bl:Bears 6 L (acc.map λn=>(vI n).row)
 gl:GS [39] 6 L (acc.map λn=>(vI n).row) h
section
variable {O:Oracle}
noncomputable abbrev L4(O:Oracle):Jump:=limZ c4 O zN 0
theorem v4_0(x0 x1:TVal)(h:Heap):L4 O 0 [x0,x1] h=b4_0 O (jumpZ c4 O zN 0) 0 x0 x1 h:=(qAs _ _ _).trans (e4_0 ..).symm
theorem v4_1(x0 x1 x5 x6 x7:TVal)(h:Heap):L4 O 1 [x0,x1,x5,x6,x7] h=b4_1 O (jumpZ c4 O zN 0) 0 x0 x1 x5 x6 x7 h:=(qAs _ _ _).trans (e4_1 ..).symm
theorem v4_2(x1 x5 x6:TVal)(h:Heap):L4 O 2 [x1,x5,x6] h=b4_2 O (jumpZ c4 O zN 0) 0 x1 x5 x6 h:=(qAs _ _ _).trans (e4_2 ..).symm
theorem j4(l:Nat)(vs:List TVal)(h:Heap):jumpZ c4 O zN 0 l vs h=L4 O l vs h:=rfl
abbrev r6(n:Int):List Cell:=[.p (.int .i64 2),.p (.bool false),.p (.int .i64 n),.p (.str []),.p .nilslice,.p .nilslice]
theorem qKl(s:Sl Int)(hs:s.len<=10)(f:Int) :
  ∀ (i:Nat) (h:Heap) (acc:List Int) (L:Cell) (z:Int),acc.length=i->VHv acc L h ->
   ∃ h' L',VHv (acc++s.list.drop i) L' h'/\L4 O 1 [FS4 s,kI f,pO 5 1,kI z,kI (i:Int)] h=L4 O 2 [kI f,pO 5 1,kI (sumF z (s.list.drop i))] h':=by
 refine qFb s.len (λi hi h acc L z ha H => ?_) (λi hi ih h acc L z ha H => ?_)
 ·have h1:¬ (i:Int)<(s.len:Int):=by omega
  refine⟨h,L,by rw[qG8 hi,List.append_nil]; exact H,?_⟩;rw[qG8 hi,v4_1,b4_1];simp (maxSteps:=9999999) +contextual only[exa,rA,rB,rC,rD,rE,rF,rG,rH,rI,h1];rfl
 ·have h1:(i:Int)<(s.len:Int):=by omega
  obtain⟨x,hx,h2,hm⟩:=qD9 hi;obtain⟨L1,h2',u1,G2,e1,T1,K1,I1,X1⟩:=qNr (d:=39) (by':=88) (new:=[(vI x).row]) (b := .slice 6 true [(vI x).row]) (.inr ⟨_,rfl⟩) H.gl (by decide) (λr hr=>by simp at hr; rw[hr]; rfl) (by simp; omega) (by decide);have A1:=λ(kt:TVal->Heap->AI.Touch->Res1)=>e1 (TVal×List AObj) O kt
  obtain⟨ra,ea⟩:=X1 (.inl (by simp));have v5:=H.v5;have v5':=K1 5 1 _ (by decide) v5;have BB:∀ (kt:TVal->Heap->AI.Touch->Res1) (h:Heap),vtouch O (.build [.p (.int .i64 0),.p (.bool false),.p (.int .i64 0),.p (.str []),.p .nilslice,.p .nilslice] [(0,1,.k (kI 2)),(2,1,.k (kI x))]) h 37 kt=kt (aC (r6 x)) h noTouch:=λ_ _=>rfl
  have B6:∀ (kt:TVal->Heap->AI.Touch->Res1) (h:Heap),vtouch O (.bslice 6 1 [.p (.int .i64 0),.p (.bool false),.p (.int .i64 0),.p (.str []),.p .nilslice,.p .nilslice] [(0,.k (aC (r6 x)))] false) h 38 kt=kt (kSl 6 true [(vI x).row]) h noTouch:=λ_ _=>rfl
  have P5:put1 [.p (.int .i64 4),.p (.bool false),.p (.int .i64 0),.p (.str []),.p .nilslice,L] 5 [L1]=[.p (.int .i64 4),.p (.bool false),.p (.int .i64 0),.p (.str []),.p .nilslice,L1]:=rfl;have H2:VHv (acc++[x]) L1 (h2'.own 5 1 (.cells [.p (.int .i64 4),.p (.bool false),.p (.int .i64 0),.p (.str []),.p .nilslice,L1] 0)):=by
   refine⟨by simp only[exa,rA,rB,rC,rD,rE,rF,rG,rH,rI],.inr ⟨by simp,ra,by rw[ea]; simp⟩,?_⟩;rw[List.map_append]; exact G2.own _ _ (by decide)
  obtain⟨h',L',q1,q2⟩:=ih _ (acc++[x]) L1 (wrapF .i64 (z+x)) (by simp; omega) H2;refine⟨h',L',by rw[h2]; simpa using q1,?_⟩;rw[h2];refine Eq.trans ?_ q2;rw[v4_1,b4_1];simp (maxSteps:=9999999) +contextual only[exa,rA,rB,rC,rD,rE,rF,rG,rH,rI,exW,exY,qC6,h1,hx,BB,B6,v5,v5',A1,T1,P5];rw[j4,qAk];simp (maxSteps:=9999999) +contextual only[exa,rA,rB,rC,rD,rE,rF,rG,rH,rI,qDY i (by omega)]
end
theorem qFT:∀ s:List UInt8,bytesOfRows (s.map byR)=some s
 |[]=>rfl
 |b::s=>by
  show(bytesOfRows (s.map byR)).map (UInt8.ofNat (b.toNat:Int).toNat::·)=_;rw[qFT s,Int.toNat_natCast];simp
theorem qI2{β:Type}{O:Oracle}{h:Heap}{d:Nat}{k:TVal->Heap->Option β}(s:List UInt8):vop O (.toStr (.k (.v (.c (.p (.slice 1 false (s.map byR))))))) h d k=k (kS s) h:=by
 refine qAe _ _ ?_;show(bytesOfRows (s.map byR)).map _=_;rw[qFT]; rfl
abbrev headV:List UInt8:=[123,123,36,115,32,58,61,32]
abbrev textF(f:Int):List UInt8:=headV++Lib.itoa f++zd825df27
section
variable {O:Oracle}
theorem qML(f s:Int)(rf:rngI f)(rs:rngI s)(xs:List Int)(L:Cell)(h:Heap)(H:VHv xs L h)(tree:PVal)(kk:Int)
  (h19:∀ n,rngI n->O 19 [kA (vI n).row] []=some (.tup [.c (.p (.str (Lib.itoa n))),.c (.p (.bool true))],[]))
  (h20:O 20 [kS (textF f)] []=some (.tup [.c (.p tree),.c (.p (.int .i64 0)),.c (.p (.int .i64 0))],[])) (h22:O 22 [kNil] []=some (kP (.im 0),clC)) {qs:List AObj}
  (h21:O 21 [.v (.c (.p tree)),aC (vC (lstV (lOf xs))),kP (.im 0),aC limC] clC=some (.tup [.c (.p (.slice 1 false ((Lib.itoa s).map byR))),.c (.p (.int .i64 kk)),.c (.p (.int .i64 0))],qs)) (hql:3<=qs.length) :
  L4 O 2 [kI f,pO 5 1,kI s] h=some (kB true,[]):=by
 have lf:(Lib.itoa f).length<=21:=qCW f rf.1 rf.2;have U19:=λ(n:Int) (rn:rngI n) (β:Type) (k:TVal->Heap->Option β) (h:Heap) (d:Nat)=>qAE (O:=O) (k:=k) (h:=h) (d:=d) 19 [kA (vI n).row] _ (by simp only[exP]) (h19 n rn) (by simp only[exP])
 have e6:∀ n,kA (vI n).row=aC (r6 n):=λ_=>rfl
 simp only[e6] at U19;have Uf:=U19 f rf;have Us:=U19 s rs;have U20:=λ(β:Type) (k:TVal->Heap->Option β) (h:Heap) (d:Nat)=>qAE (O:=O) (k:=k) (h:=h) (d:=d) 20 [kS (textF f)] _ rfl h20 rfl
 have V1:∀ (β:Type) (k:TVal->Heap->Option β) (h:Heap),vbin .add 0 (kS headV) (kS (Lib.itoa f)) h k=k (kS (headV++Lib.itoa f)) h:=λβ k h=>vadd _ _ (by show 8+_<=_; omega)
 have V2:∀ (β:Type) (k:TVal->Heap->Option β) (h:Heap),vbin .add 0 (kS (headV++Lib.itoa f)) (kS zd825df27) h k=k (kS (textF f)) h:=λβ k h=>vadd _ _ (by
  rw[List.length_append];show 8+_+64<=_
  omega)
 have BB:∀ (n:Int) (β:Type) (k:TVal->Heap->Option β) (h:Heap) (d:Nat),vop O (.build [.p (.int .i64 0),.p (.bool false),.p (.int .i64 0),.p (.str []),.p .nilslice,.p .nilslice] [(0,1,.k (kI 2)),(2,1,.k (kI n))]) h d k=k (aC (r6 n)) h:=λ_ _ _ _ _=>rfl
 obtain⟨h1,t1,c1,c2,A1,K1,G1,L1,T1,T2⟩:=qKU (O:=O) (pl:=[kNil]) rfl h22 qFk.1 h;have e0:(kP (.im 0)).ren (back [] clC.length (newRef h.ims.length)) = .v (.c (.ptr (.im (h.ims.length+0)) 0)):=rfl;rw[e0] at c1 c2;generalize hρ:((List.range clC.length).map λi=>Ref.im (h.ims.length+i))=ρ at A1;have r0:ρ[0]?=some (.im (h.ims.length+0)):=by rw[<- hρ]; rfl
 generalize hr0:Ref.im (h.ims.length+0)=r at c1 c2 r0;have v5:=H.v5;have hin:inn ρ r=some (.im 0):=qBE A1.nodup r0;obtain⟨h2,t2,d1,d2,_⟩:=qKo (O:=O) (g:=21) (ps:=[]) (qs':=[]) [.v (.c (.p tree)),aC [.p (.int .i64 4),.p (.bool false),.p (.int .i64 0),.p (.str []),.p .nilslice,L],.v (.c (.ptr r 0)),aC limC]
  [.v (.c (.p tree)),aC [.p (.int .i64 4),.p (.bool false),.p (.int .i64 0),.p (.str []),.p .nilslice,.p (slP 6 VT.row (lOf xs))],.v (.c (.ptr r 0)),aC limC] _
  (by
   show [_,TVal.v (.agg [.p (.int .i64 4),.p (.bool false),.p (.int .i64 0),.p (.str []),.p .nilslice,L.strip]),_,_]=_
   rw[qPz H.bl]; rfl) rfl (by
   simp only[List.map_cons,List.map_nil,TVal.ren,Comp.ren,Cell.ren,hin]
   rfl) h21 qFk (by decide) hql rfl A1 r0
 have C1:=λ(β:Type) (kt:TVal->Heap->AI.Touch->Option β)=>c2 (β:=β) 64 kt
 have D1:=λ(β:Type) (kt:TVal->Heap->AI.Touch->Option β)=>d2 (β:=β) 66 kt
 simp only[List.map_cons,List.map_nil] at C1 D1;have B1:∀ (β:Type) (kt:TVal->Heap->AI.Touch->Option β) (h:Heap),vtouch O (.build [.p (.int .i64 0),.p (.int .i64 0),.p (.int .i64 0)] [(0,1,.k (kI 5000)),(2,1,.k (kI (-1)))]) h 65 kt=kt (aC limC) h noTouch:=λ_ _ _=>rfl
 have TA:=qKx T1 T2 5 1;rw[v4_2,b4_2];simp (maxSteps:=9999999) +contextual only[exa,rA,rB,rC,rD,rE,rF,rG,rH,rI,exW,exY,BB,Uf,V1,V2,U20,v5,C1,D1,B1,TA];simp (maxSteps:=9999999) +contextual only[exa,rA,rB,rC,rD,rE,rF,rG,rH,rI,exW,exY,BB,Us,qI2,BEq.rfl]
end
section
variable {O:Oracle}
theorem qMQ(s:Sl Int)(f:Int)(h10:10<s.len)(h18:O 18 [] []=some (kB true,[])):L4 O 0 [FS4 s,kI f] h0=some (kB true,[]):=by
 have U:=λ(β:Type) (k:TVal->Heap->Option β) (h:Heap) (d:Nat)=>qAE (O:=O) (k:=k) (h:=h) (d:=d) 18 [] _ rfl h18 rfl
 have h1:(10:Int)<(s.len:Int):=by omega
 rw[v4_0,b4_0];simp (maxSteps:=9999999) +contextual only[exa,rA,rB,rC,rD,rE,rF,rG,rH,rI,U,h1]
theorem qPt(s:Sl Int)(f:Int)(rf:rngI f)(h10:s.len<=10)(tree:PVal)(kk:Int)(h18:O 18 [] []=some (kB true,[]))
  (h19:∀ n,rngI n->O 19 [kA (vI n).row] []=some (.tup [.c (.p (.str (Lib.itoa n))),.c (.p (.bool true))],[]))
  (h20:O 20 [kS (textF f)] []=some (.tup [.c (.p tree),.c (.p (.int .i64 0)),.c (.p (.int .i64 0))],[])) (h22:O 22 [kNil] []=some (kP (.im 0),clC)) {qs:List AObj}
  (h21:O 21 [.v (.c (.p tree)),aC (vC (lstV (lOf s.list))),kP (.im 0),aC limC] clC=some (.tup [.c (.p (.slice 1 false ((Lib.itoa (sumF f s.list)).map byR))),.c (.p (.int .i64 kk)),.c (.p (.int .i64 0))],qs)) (hql:3<=qs.length) :
  L4 O 0 [FS4 s,kI f] h0=some (kB true,[]):=by
 have U:=λ(β:Type) (k:TVal->Heap->Option β) (h:Heap) (d:Nat)=>qAE (O:=O) (k:=k) (h:=h) (d:=d) 18 [] _ rfl h18 rfl
 have h1:¬ (10:Int)<(s.len:Int):=by omega
 have BB:∀ (β:Type) (k:TVal->Heap->Option β) (h:Heap),vop O (.build [.p (.int .i64 0),.p (.bool false),.p (.int .i64 0),.p (.str []),.p .nilslice,.p .nilslice] [(0,1,.k (kI 4))]) h 23 k=k (aC [.p (.int .i64 4),.p (.bool false),.p (.int .i64 0),.p (.str []),.p .nilslice,.p .nilslice]) h:=λ_ _ _=>rfl
 have P6:∀ a b c d e f:Cell,put1 [.p (.int .i64 0),.p (.bool false),.p (.int .i64 0),.p (.str []),.p .nilslice,.p .nilslice] 0 [a,b,c,d,e,f]=[a,b,c,d,e,f]:=λ_ _ _ _ _ _=>rfl
 rw[v4_0,b4_0];simp (maxSteps:=9999999) +contextual only[exa,rA,rB,rC,rD,rE,rF,rG,rH,rI,U,h1,BB,P6];generalize hh:((Go.AI.h0.own 5 1 _).own 5 1 _)=h1;have H:VHv [] (.p .nilslice) h1:=⟨by rw[<- hh]; simp only[exa,rA,rB,rC,rD,rE,rF,rG,rH,rI],.inl ⟨rfl,rfl⟩,.inl ⟨rfl,rfl⟩⟩;obtain⟨h2,L,H2,e2⟩:=qKl (O:=O) s h10 f 0 h1 [] _ f rfl H;rw[List.drop_zero,List.nil_append] at H2;rw[List.drop_zero] at e2;rw[j4];exact e2.trans (qML f (sumF f s.list) rf (qEC _ _ rf) s.list L h2 H2 tree kk h19 h20 h22 h21 hql)
end
abbrev treeF(f:Int):PVal:=treeV f (((Lib.itoa f).length+10:Nat):Int) (((Lib.itoa f).length+66:Nat):Int) (bodyV (((Lib.itoa f).length+21:Nat):Int) (((Lib.itoa f).length+38:Nat):Int) (((Lib.itoa f).length+49:Nat):Int))
section
variable [Sym] {G:Nat->Option (List PVal)}
theorem qOM(hm:Tryz.prog.follows .mixedOrders=true)(hT:TabM Tryz.prog G tab.get)(hS:FSound Tryz.prog G S)(o:Option (List Int))(f:Int)(hf : -9223372036854775808<=f/\f<=9223372036854775807)
  (h20:Om 20 [kS (textF f)] []=some (.tup [.c (.p (treeF f)),.c (.p (.int .i64 0)),.c (.p (.int .i64 0))],[])):FSound Tryz.prog G (addZ 4 [.pv (intsP .i64 o),.pv (.int .i64 f)] [] (kB true,[]) S):=by
 have hO:FSound Tryz.prog G Om:=qCH hm hT hS;have n4:labsB c4=true:=by kernel_rfl
 rw[qMJ];generalize fargI o=s;by_cases h10:10<s.len
 ·exact qCS hm hS hO hT k4 (qDK n4) zapN_ok (qMQ (O:=Om) s f h10 qLJ)
 ·have hl:s.list.length<=10:=by unfold Sl.len at h10; omega
  obtain⟨qs,hql,S21⟩:=qLL hm hT hS s.list hl f (((Lib.itoa f).length+10:Nat):Int) (((Lib.itoa f).length+66:Nat):Int) (((Lib.itoa f).length+21:Nat):Int) (((Lib.itoa f).length+38:Nat):Int) (((Lib.itoa f).length+49:Nat):Int) hf;generalize hB:oneZ 21 _ _ _=B at S21;have far:∀ g xs os,g≠21->orS B Om g xs os=Om g xs os:=λg xs os h=>qMV (by rw[<- hB]; exact qKg λe=>h e.1)
  have e4:=qPt (O:=orS B Om) s f hf (by omega) (treeF f) _ ((far 18 _ _ (by decide)).trans qLJ) (λn hn=>(far 19 _ _ (by decide)).trans (qN1 n hn)) ((far 20 _ _ (by decide)).trans h20) ((far 22 _ _ (by decide)).trans qCF) (qOF (by rw[<- hB]; exact qM8)) hql;exact qCS hm hS (qCw S21 hO) hT k4 (qDK n4) zapN_ok e4
end
theorem qDp:∀ (m n:Nat),n<m->(∀ b∈Lib.decDigits n,isDigit b.toNat=true)/\numVal (Lib.decDigits n)=n/\Lib.decDigits n≠[]
 |0,n,h=>absurd h (Nat.not_lt_zero n)
 |m+1,n,h=>by
  have one:∀ k:Nat,k<10->isDigit (UInt8.ofNat (48+k)).toNat=true/\(UInt8.ofNat (48+k)).toNat - 48=k:=λk hk=>by
   have e:(UInt8.ofNat (48+k)).toNat=48+k:=by rw[UInt8.toNat_ofNat']; exact Nat.mod_eq_of_lt (by omega)
   rw[e];refine⟨?_,by omega⟩;simp only[isDigit,Bool.and_eq_true,Nat.ble_eq]; omega
  rw[Lib.decDigits];by_cases h10:n<10
  ·rw[dif_pos h10];refine⟨λb hb => ?_,?_,by simp⟩
   ·rw[List.mem_singleton.1 hb]; exact(one n h10).1
   ·show 10*0+((UInt8.ofNat (48+n)).toNat - 48)=n;rw[(one n h10).2]; omega
  ·rw[dif_neg h10];obtain⟨i1,i2,i3⟩:=qDp m (n / 10) (by omega);refine⟨λb hb => ?_,?_,by simp⟩
   ·rcases List.mem_append.1 hb with hb|hb
    ·exact i1 b hb
    ·rw[List.mem_singleton.1 hb]; exact(one _ (Nat.mod_lt _ (by decide))).1
   ·rw[qEK,i2,(one _ (Nat.mod_lt _ (by decide))).2]; omega
theorem qCO(p:Nat->Bool):∀ s:List UInt8,(∀ b∈s,p b.toNat=true)->runLen p s=s.length
 |[],_=>rfl
 |b::s,h=>by
  show(if p b.toNat then runLen p s+1 else 0)=_;rw[if_pos (h b (List.mem_cons_self ..)),qCO p s λc hc=>h c (List.mem_cons_of_mem _ hc)]; rfl
theorem qIc(n:Nat)(hn:n<=9223372036854775808):(Lib.decDigits n).length<=19:=by
 have h:n<10 ^ (18+1):=by
  have:(10:Nat) ^ (18+1)=10000000000000000000:=by decide
  omega
 rw[qCD 18 n h];exact qDH _ _ h
theorem qGD(f:Int)(rf:rngI f):∃ c r,Lib.itoa f=c::r/\isBlank c.toNat=false/\oneM (c::r)=⟨⟨3,[],f,0⟩,((c::r).length:Nat),0⟩/\(∀ b∈c::r,isDigit b.toNat=true\/b=45):=by
 obtain⟨r1,r2⟩:=rf;unfold Lib.itoa;by_cases h0:f<0
 ·rw[if_pos h0];obtain⟨d1,d2,d3⟩:=qDp (f.natAbs+1) f.natAbs (by omega);have dl:=qIc f.natAbs (by omega);generalize Lib.decDigits f.natAbs=D at *;refine⟨45,D,rfl,rfl,?_,λb hb => ?_⟩
  ·have hh:numHead (45::D)=true:=by
    cases D with
    |nil=>exact absurd rfl d3
    |cons a l =>
     show(isDigit 45||(decide ((45:UInt8).toNat=45)&&isDigit a.toNat))=true;rw[d1 a (List.mem_cons_self ..)]; rfl
   show(if isLetter (45:UInt8).toNat then wrdM (45::D) else if numHead (45::D) then numberM (45::D) else _)=_;rw[if_neg (by decide),hh,if_pos rfl];have hn:neg (45::D)=1:=rfl;unfold numberM;rw[hn];show(if 19<runLen isDigit D then _ else if 9223372036854775807+1<numVal (D.take (runLen isDigit D)) then _ else _)=_;rw[qCO _ D d1,List.take_length,d2,if_neg (by omega),if_neg (by omega)];show One.mk ⟨3,[],(if 0<1 then -(numVal (D.take (runLen isDigit D)):Int) else _),0⟩ ((1+runLen isDigit D:Nat):Int) 0=_;rw[qCO _ D d1,List.take_length,d2,if_pos (by decide)];have e1 : -(f.natAbs:Int)=f:=by omega
   rw[e1,show 1+D.length=(45::D).length by simp; omega]
  ·rcases List.mem_cons.1 hb with rfl|hb
   ·exact .inr rfl
   ·exact .inl (d1 b hb)
 ·rw[if_neg h0];obtain⟨d1,d2,d3⟩:=qDp (f.toNat+1) f.toNat (by omega);have dl:=qIc f.toNat (by omega);generalize Lib.decDigits f.toNat=D at *;cases D with
  |nil=>exact absurd rfl d3
  |cons a l =>
   have ha:=d1 a (List.mem_cons_self ..);have ha':=ha;simp only[isDigit,Bool.and_eq_true,Nat.ble_eq] at ha';refine⟨a,l,rfl,?_,?_,λb hb => .inl (d1 b hb)⟩
   ·have h1:¬ a.toNat=32:=by omega
    have h2:¬ a.toNat=9:=by omega
    have h3:¬ a.toNat=10:=by omega
    have h4:¬ a.toNat=13:=by omega
    simp only[isBlank,Nat.beq_eq,h1,h2,h3,h4,Bool.or_eq_false_iff];simp only[<- Bool.not_eq_true,Nat.beq_eq,h1,h2,h3,h4,not_false_eq_true,and_self]
   ·have hl:isLetter a.toNat=false:=by
     rw[<- Bool.not_eq_true];simp only[isLetter,Bool.or_eq_true,Bool.and_eq_true,Nat.ble_eq,Nat.beq_eq]; omega
    have hn:neg (a::l)=0:=by
     unfold neg;rw[if_neg];intro e;have:a=45:=by simpa using e
     rw[this] at ha';exact absurd ha'.1 (by decide)
    show(if isLetter a.toNat then wrdM (a::l) else if numHead (a::l) then numberM (a::l) else _)=_;have hh:numHead (a::l)=true:=by
     show(isDigit a.toNat||_)=true;rw[ha]; rfl
    rw[hl,if_neg (by decide),hh,if_pos rfl];unfold numberM;rw[hn,List.drop_zero,qCO _ (a::l) d1,List.take_length,d2,if_neg (by omega),if_neg (by omega),if_neg (by decide)];have e1:(f.toNat:Int)=f:=by omega
    rw[e1,Nat.zero_add]
theorem qKh(f:Int)(rf:rngI f):tokensM ([36,115,32,58,61,32]++Lib.itoa f) = .ok [⟨4,[36],0,0⟩,⟨1,[115],0,1⟩,⟨4,[58,61],0,3⟩,⟨3,[],f,6⟩]:=by
 obtain⟨c,r,e,hb,ho,_⟩:=qGD f rf;have il:=qCW f rf.1 rf.2;rw[e] at il ⊢;have hl:([36,115,32,58,61,32]++(c::r)).length+1=(r.length+3)+1+1+3:=by simp
 unfold tokensM
 rw[if_neg (by
  rw[List.length_append];show ¬ 1500<6+(c::r).length
  omega),hl]
 have e1:toksGo ((r.length+3)+1+1+3) ([36,115,32,58,61,32]++(c::r)) 0 []=toksGo ((r.length+3)+1+1) (32::c::r) 5 [⟨4,[36],0,0⟩,⟨1,[115],0,1⟩,⟨4,[58,61],0,3⟩]:=rfl;rw[e1];have k1:runLen isBlank (32::c::r)=1:=by
  show(if isBlank (32:UInt8).toNat then (if isBlank c.toNat then runLen isBlank r+1 else 0)+1 else 0)=1;rw[hb]; rfl
 rw[toksGo];simp only[k1];show toksFin (if (oneM (c::r)).e=0 then toksGo _ ((c::r).drop (oneM (c::r)).n.toNat) _ _ else _)=_;rw[ho,if_pos rfl];have d0:(c::r).drop ((((c::r).length:Nat):Int)).toNat=[]:=by rw[Int.toNat_natCast,List.drop_length]
 show toksFin (toksGo ((r.length+3)+1) ((c::r).drop ((((c::r).length:Nat):Int)).toNat) _ _)=_;rw[d0,qGI];rfl
theorem qNJ(f:Int)(rf:rngI f):Om 56 [kS ([36,115,32,58,61,32]++Lib.itoa f)] []=some (.tup [.c (.p (.slice 4 false [[.int .i64 4,.str [36],.int .i64 0,.int .i64 0],[.int .i64 1,.str [115],.int .i64 0,.int .i64 1],[.int .i64 4,.str [58,61],.int .i64 0,.int .i64 3],[.int .i64 3,.str [],.int .i64 f,.int .i64 6]])),.c (.p (.int .i64 0))],[]):=by
 rw[qJK,qKh f rf]; rfl
theorem u_ne{b:UInt8}{n:Nat}(hn:n<256)(h:b≠UInt8.ofNat n):¬ (b.toNat:Int)=(n:Int):=λe=>h (UInt8.toNat_inj.1 (by rw[UInt8.toNat_ofNat',Nat.mod_eq_of_lt hn]; omega))
theorem qHI(s:List UInt8)(hs:s.length<=1500):∀ (X P R:List UInt8),s=P++X++R->(∀ b∈X,b≠125/\b≠34)->∀ h:Heap,lim tab.get S 123 0 1 [kS s,kI (P.length:Int),kB false,kI 0] h=lim tab.get S 123 0 1 [kS s,kI ((P.length+X.length:Nat):Int),kB false,kI 0] h
 |[],P,R,e,hX,h=>rfl
 |b::X,P,R,e,hX,h=>by
  obtain⟨b1,b2⟩:=hX b (List.mem_cons_self ..);have n1:¬ (b.toNat:Int)=125:=u_ne (n:=125) (by decide) b1;have n2:¬ (b.toNat:Int)=34:=u_ne (n:=34) (by decide) b2;have hl:P.length<s.length:=by rw[e]; simp
  have hi:(P.length:Int)<(s.length:Int):=by omega
  have hc:s[P.length]?=some b:=by rw[e]; simp
  have ih:=qHI s hs X (P++[b]) R (by rw[e]; simp) (λc hc=>hX c (List.mem_cons_of_mem _ hc)) h;rw[show(P++[b]).length=P.length+1 by simp,show P.length+1+X.length=P.length+(b::X).length by simp; omega] at ih;refine Eq.trans ?_ ih;rw[w123_1,b123_1];simp (maxSteps:=9999999) +contextual only[exa,rA,rB,rC,rD,rE,rF,rG,rH,rI,hi,hc,n1,n2];rw[w123_2,b123_2];simp (maxSteps:=9999999) +contextual only[exa,rA,rB,rC,rD,rE,rF,rG,rH,rI,qDY P.length (by omega)]
theorem qPc(s P X R:List UInt8)(e:s=P++X++125::125::R)(hs:s.length<=1500)(hX:∀ b∈X,b≠125/\b≠34):Om 123 [kS s,kI (P.length:Int)] []=some (kI ((P.length+X.length:Nat):Int),[]):=by
 refine(qAG rfl).trans ?_;show lim tab.get S 123 0 0 [kS s,kI (P.length:Int)] h0=_;rw[w123_0,b123_0];refine(qHI s hs X P (125::125::R) e hX _).trans ?_;generalize hk:P.length+X.length=k;have hl:k+1<s.length:=by rw[e]; simp; omega
 have h1:(k:Int)<(s.length:Int):=by omega
 have h2:((k+1:Nat):Int)<(s.length:Int):=by omega
 have c1:s[k]?=some 125:=by rw[e,<- hk]; simp[List.getElem?_append_right]
 have c2:s[k+1]?=some 125:=by
  rw[e,<- hk,List.getElem?_append_right (by simp),List.length_append,show P.length+X.length+1 - (P.length+X.length)=1 by omega]; rfl
 have e1:((125:UInt8).toNat:Int)=125:=rfl;rw[w123_1,b123_1];simp (maxSteps:=9999999) +contextual only[exa,rA,rB,rC,rD,rE,rF,rG,rH,rI,h1,h2,c1,c2,e1,qDY k (by omega)]
abbrev partR(X:List UInt8)(at':Nat):List PVal:=[.bool true,.str X,.int .i64 (at':Int)]
theorem qFu(s P X R:List UInt8)(e:s=P++123::123::X++125::125::R)(hs:s.length<=1500)(hX:∀ b∈X,b≠125/\b≠34)(acc:List (List PVal))(v:Cell)(h:Heap)(G:Grow [62] 3 v acc h)(ha:acc.length<=100) :
  ∃ v' h',Grow [62] 3 v' (acc++[partR X P.length]) h'/\lim tab.get S 64 0 1 [kS s,.v (.c v),kI (P.length:Int),kI (P.length:Int)] h=lim tab.get S 64 0 1 [kS s,.v (.c v'),kI ((P.length+X.length+4:Nat):Int),kI ((P.length+X.length+4:Nat):Int)] h':=by
 obtain⟨v',h',G',e',_⟩:=qD3 (d:=62) (by':=32) (new:=[partR X P.length]) true G (by decide) (by simp) (by simp) (by simp; omega) (by decide);refine⟨v',h',G',?_⟩;generalize hp:P.length=p at *;have hl:p+X.length+4<=s.length:=by rw[e,<- hp]; simp; omega
 have h1:(p:Int)<(s.length:Int):=by omega
 have h2:((p+1:Nat):Int)<(s.length:Int):=by omega
 have c1:s[p]?=some 123:=by rw[e,<- hp]; simp
 have c2:s[p+1]?=some 123:=by rw[e,<- hp]; simp[List.getElem?_append_right]
 have e1:((123:UInt8).toNat:Int)=123:=rfl;have w2:∀ m:Nat,m<=2000->IntKind.i64.wrap ((m:Int)+2)=((m+2:Nat):Int):=λm hm=>by rw[qAF _ (by omega) (by omega)]; omega
 have e2:s=(P++[123,123])++X++125::125::R:=by rw[e]; simp
 have EO:=qPc s (P++[123,123]) X R e2 hs hX;have lp:(P++[123,123]).length=p+2:=by rw[List.length_append,hp]; rfl
 rw[lp] at EO;have U:=λ(β:Type) (k:TVal->Heap->Option β) (h:Heap) (d:Nat)=>qAE (k:=k) (h:=h) (d:=d) 123 [kS s,kI ((p+2:Nat):Int)] _ rfl EO rfl
 have SL:∀ (β:Type) (k:TVal->Heap->Option β) (h:Heap) (d:Nat),vop Om (.slice 0 true (.k (kS s)) (some (.k (kI ((p+2:Nat):Int)))) (some (.k (kI ((p+2+X.length:Nat):Int)))) none) h d k=k (kS X) h:=λβ k h d=>by
  rw[qAo s (p+2) (p+2+X.length) (by omega) (by omega)];have:(s.take (p+2+X.length)).drop (p+2)=X:=by
   rw[e2,List.take_append_of_le_length (by rw[List.length_append,lp]; omega),<- lp,<- List.length_append,List.take_length,List.drop_left]
  rw[this]
 have nn:¬ ((p+2+X.length:Nat):Int)<0:=by omega
 have BD:∀ (β:Type) (k:TVal->Heap->Option β) (h:Heap),vop Om (.build [.p (.bool false),.p (.str []),.p (.int .i64 0)] [(0,1,.k (kB true)),(1,1,.k (kS X)),(2,1,.k (kI (p:Int)))]) h 60 k=k (aC [.p (.bool true),.p (.str X),.p (.int .i64 (p:Int))]) h:=λ_ _ _=>rfl
 have BS:∀ (β:Type) (k:TVal->Heap->Option β) (h:Heap),vop Om (.bslice 3 1 [.p (.bool false),.p (.str []),.p (.int .i64 0)] [(0,.k (aC [.p (.bool true),.p (.str X),.p (.int .i64 (p:Int))]))] false) h 61 k=k (kSl 3 true [partR X p]) h:=λ_ _ _=>rfl
 rw[w64_1,b64_1];simp (maxSteps:=9999999) +contextual only[exa,rA,rB,rC,rD,rE,rF,rG,rH,rI,h1,h2,c1,c2,e1,qDY p (by omega),Int.lt_irrefl];rw[w64_2,b64_2];simp (maxSteps:=9999999) +contextual only[exa,rA,rB,rC,rD,rE,rF,rG,rH,rI,w2 p (by omega),U,nn,SL,BD,BS,e'];rw[w2 (p+2+X.length) (by omega),show p+2+X.length+2=p+X.length+4 by omega]
theorem qGu(f:Int)(rf:rngI f):(textF f).length<=1500/\(textF f).length=(Lib.itoa f).length+72:=by
 have il:=qCW f rf.1 rf.2;have:(textF f).length=(Lib.itoa f).length+72:=by
  rw[List.length_append,List.length_append];show 8+(Lib.itoa f).length+64=_;omega
 omega
theorem qDB(f:Int)(rf:rngI f)(A X R:List UInt8)(hz:zd825df27=A++(123::123::X++125::125::R))(hX:∀ b∈X,b≠125/\b≠34)(k k':Nat)(hk:8+A.length=k)(hk':k+X.length+4=k')(acc:List (List PVal))(v:Cell)(h:Heap)(G:Grow [62] 3 v acc h)(ha:acc.length<=100) :
  ∃ v' h',Grow [62] 3 v' (acc++[partR X ((Lib.itoa f).length+k)]) h'/\lim tab.get S 64 0 1 [kS (textF f),.v (.c v),kI (((Lib.itoa f).length+k:Nat):Int),kI (((Lib.itoa f).length+k:Nat):Int)] h=lim tab.get S 64 0 1 [kS (textF f),.v (.c v'),kI (((Lib.itoa f).length+k':Nat):Int),kI (((Lib.itoa f).length+k':Nat):Int)] h':=by
 have e:textF f=(headV++Lib.itoa f++A)++123::123::X++125::125::R:=by
  show headV++Lib.itoa f++zd825df27=_;rw[hz]; simp
 have lp:(headV++Lib.itoa f++A).length=(Lib.itoa f).length+k:=by
  rw[List.length_append,List.length_append,<- hk];show 8+(Lib.itoa f).length+A.length=_;omega
 obtain⟨v',h',g1,g2⟩:=qFu (textF f) (headV++Lib.itoa f++A) X R e (qGu f rf).1 hX acc v h G ha;rw[lp] at g1 g2;refine⟨v',h',g1,?_⟩;rw[g2,show(Lib.itoa f).length+k+X.length+4=(Lib.itoa f).length+k' by omega]
abbrev X1:List UInt8:=[114,97,110,103,101,32,46]
abbrev X2:List UInt8:=[36,115,32,61,32,97,100,100,32,36,115,32,46]
abbrev X3:List UInt8:=[36,115,32,58,61,32,48]
abbrev X4:List UInt8:=[36,115,32,61,32,49]
abbrev X5:List UInt8:=[101,110,100]
abbrev X6:List UInt8:=[36,115]
abbrev partsF(f:Int):List (List PVal):=[partR ([36,115,32,58,61,32]++Lib.itoa f) 0,partR X1 ((Lib.itoa f).length+10),partR X2 ((Lib.itoa f).length+21),partR X3 ((Lib.itoa f).length+38),partR X4 ((Lib.itoa f).length+49),partR X5 ((Lib.itoa f).length+59),partR X6 ((Lib.itoa f).length+66)]
theorem qHb(f:Int)(rf:rngI f):Om 64 [kS (textF f)] []=some (.tup [.c (.p (.slice 3 false (partsF f))),.c (.p (.int .i64 0))],[]):=by
 obtain⟨tl,tl2⟩:=qGu f rf;obtain⟨c,r,ec,_,_,hd⟩:=qGD f rf;rw[<- ec] at hd;have hD:∀ b∈Lib.itoa f,b≠125/\b≠34:=λb hb=>by
  rcases hd b hb with h|h
  ·simp only[isDigit,Bool.and_eq_true,Nat.ble_eq] at h;exact⟨λe=>by rw[e] at h; exact absurd h (by decide),λe=>by rw[e] at h; exact absurd h (by decide)⟩
  ·rw[h]; decide
 have cl:∀ X:List UInt8,(X.all λb=>b != 125&&b != 34)=true->∀ b∈X,b≠125/\b≠34:=λX h b hb=>by
  have:=List.all_eq_true.1 h b hb
  simpa using this
 refine(qAG rfl).trans ?_;show lim tab.get S 64 0 0 [kS (textF f)] Go.AI.h0=_;rw[w64_0,b64_0];have h1:¬ (1500:Int)<((textF f).length:Int):=by omega
 simp (maxSteps:=9999999) +contextual only[exa,rA,rB,rC,rD,rE,rF,rG,rH,rI,h1];have G0:Grow [62] 3 (.p .nilslice) [] Go.AI.h0 := .inl ⟨rfl,rfl⟩;have e0:textF f=[]++123::123::([36,115,32,58,61,32]++Lib.itoa f)++125::125::zd825df27.drop 2:=by
  show headV++Lib.itoa f++zd825df27=_;rw[show zd825df27=125::125::zd825df27.drop 2 from rfl];simp
 obtain⟨v1,h1',G1,s1⟩:=qFu (textF f) [] ([36,115,32,58,61,32]++Lib.itoa f) (zd825df27.drop 2) e0 tl (λb hb=>by
  rcases List.mem_append.1 hb with hb|hb
  ·exact cl [36,115,32,58,61,32] rfl b hb
  ·exact hD b hb) [] _ _ G0 (by decide)
 have l1:([]:List UInt8).length+([36,115,32,58,61,32]++Lib.itoa f).length+4=(Lib.itoa f).length+10:=by
  rw[List.length_append];show 0+(6+(Lib.itoa f).length)+4=_;omega
 rw[l1] at s1;refine s1.trans ?_;obtain⟨v2,h2,G2,s2⟩:=qDB f rf (zd825df27.take 2) X1 (zd825df27.drop 13) rfl (cl X1 rfl) 10 21 rfl rfl _ v1 h1' G1 (by simp);obtain⟨v3,h3,G3,s3⟩:=qDB f rf (zd825df27.take 13) X2 (zd825df27.drop 30) rfl (cl X2 rfl) 21 38 rfl rfl _ v2 h2 G2 (by simp);obtain⟨v4,h4,G4,s4⟩:=qDB f rf (zd825df27.take 30) X3 (zd825df27.drop 41) rfl (cl X3 rfl) 38 49 rfl rfl _ v3 h3 G3 (by simp);obtain⟨v5,h5,G5,s5⟩:=qDB f rf (zd825df27.take 41) X4 (zd825df27.drop 51) rfl (cl X4 rfl) 49 59 rfl rfl _ v4 h4 G4 (by simp);obtain⟨v6,h6,G6,s6⟩:=qDB f rf (zd825df27.take 51) X5 (zd825df27.drop 58) rfl (cl X5 rfl) 59 66 rfl rfl _ v5 h5 G5 (by simp);obtain⟨v7,h7,G7,s7⟩:=qDB f rf (zd825df27.take 58) X6 (zd825df27.drop 64) rfl (cl X6 rfl) 66 72 rfl rfl _ v6 h6 G6 (by simp);refine s2.trans (s3.trans (s4.trans (s5.trans (s6.trans (s7.trans ?_)))));rw[<- tl2];rw[w64_1,b64_1];simp (maxSteps:=9999999) +contextual only[exa,rA,rB,rC,rD,rE,rF,rG,rH,rI,Int.lt_irrefl];rw[w64_3,b64_3];simp (maxSteps:=9999999) +contextual only[exa,rA,rB,rC,rD,rE,rF,rG,rH,rI,Int.lt_irrefl];rw[w64_4,b64_4,qFq G7,qBF,qGa,if_neg (by rw[decide_eq_true_eq]; show ¬ (200:Int)<7; decide),qAJ,qAJ,qFp _ G7];rfl
end Go.Proofs.YtnlmlcfipbnpgaaGreatDoor.Ab
namespace Go.AI
theorem qKb{T:FuncId->Option MFunc}{S O':Oracle}{f:FuncId}{F:MFunc}{B:BlkF}{q:Nat}(hf:T f=some F)(hB:∀ O R q,HoldsAll F O R q 0 (B O R q))(hO:∀ g a o r,O' g a o=some r->orc S (lim T S) g a o=some r){n l:Nat}{vs:List TVal}{h:Heap}{r:TVal×List AObj}
  (e:machB B O' zN q n l vs h=some r):lim T S f q l vs h=some r:=by
 have key:∀ (n l:Nat) (vs:List TVal) (h:Heap) (r:TVal×List AObj),machZ F (orc S (lim T S)) zN q n l vs h=some r->lim T S f q l vs h=some r:=by
  intro n
  induction n with
  |zero=>intro l vs h r e; cases e
  |succ n ih =>
   intro l vs h r e;rw[qA3] at e;rw[qAA hf];exact qDS (λl vs h r e=>ih _ _ _ _ e) e
 exact key n l vs h r (qJG hO n l vs h r (qMx hB n l vs h r e))
end Go.AI
namespace Go.Proofs.YtnlmlcfipbnpgaaGreatDoor.Ab
open Go Go.AI
abbrev tokAns(f:Int):TVal := .tup [.c (.p (.slice 4 false [[.int .i64 4,.str [36],.int .i64 0,.int .i64 0],[.int .i64 1,.str [115],.int .i64 0,.int .i64 1],[.int .i64 4,.str [58,61],.int .i64 0,.int .i64 3],[.int .i64 3,.str [],.int .i64 f,.int .i64 6]])),.c (.p (.int .i64 0))]
noncomputable def Oc(X:List UInt8)(f:Int):Oracle:=λg a o=>bif Nat.beq g 56 then (@ite _ (a=[kS X]/\o=[]) (Classical.propDecidable _) (some (tokAns f,[])) none) else OA g a o
theorem qQJ{X:List UInt8}{f:Int}(ht:Om 56 [kS X] []=some (tokAns f,[]))(g:FuncId)(a:List TVal)(o:List AObj)(r:TVal×List AObj)(e:Oc X f g a o=some r):Om g a o=some r:=by
 unfold Oc at e;cases hg:Nat.beq g 56 with
 |false=>rw[hg] at e; exact qNo g a o r e
 |true =>
  have:=Nat.eq_of_beq_eq_true hg;subst this;rw[hg,cond_true] at e;split at e
  ·rename_i h;obtain⟨rfl,rfl⟩:=h;rw[<- e]; exact ht
  ·cases e
theorem qPO{X:List UInt8}{f:Int}:Oc X f 56 [kS X] []=some (tokAns f,[]):=by
 show(@ite _ ([kS X]=[kS X]/\([]:List AObj)=[]) (Classical.propDecidable _) (some (tokAns f,[])) none:Res1)=_;rw[if_pos ⟨rfl,rfl⟩]
abbrev prs0:AObj := .cells [.p .nilslice,.p .nilslice,.p .nilslice,.p (.int .i64 0)] 0
abbrev prs1:AObj := .cells [.p .nilslice,.sref (.im 1) 0 1 none 9,.p .nilslice,.p (.int .i64 0)] 0
abbrev nodF(f:Int):AObj := .cells (pcells (ndG 3 0 [] [115] (onePipe (opK 3 [] [] f .nilslice)))) 0
abbrev partC(X:List UInt8):TVal:=aC [.p (.bool true),.p (.str X),.p (.int .i64 0)]
theorem act0(X:List UInt8)(f:Int)(ht:Om 56 [kS X] []=some (tokAns f,[])):Om 65 [kP (.im 0),partC X] [prs0]=some (kI 0,[prs1,nodF f]):=by
 refine(qAG rfl).trans ?_;show lim tab.get S 65 1 0 [kP (.im 0),partC X] ⟨[prs0],.nil⟩=_;refine qKb (B:=d65) (O':=Oc X f) (n:=40) k65 (λO R q=>o65 O R q) (qQJ ht) ?_;have e1:machB d65 (Oc X f) zN 1 40 0 [kP (.im 0),partC X] ⟨[prs0],.nil⟩=b65_0 (Oc X f) (λl vs h=>machB d65 (Oc X f) zN 1 39 l vs h) 1 (kP (.im 0)) (partC X) ⟨[prs0],.nil⟩:=by kernel_rfl
 rw[e1];have E1:∀ k:TVal->Heap->Res1,vop (Oc X f) (.box (.k (partC X)) true) ⟨[prs0],.nil⟩ 3 k=k (.v (.c (.ptr (.im 1) 0))) ⟨[prs0,.cells [.p (.bool true),.p (.str X),.p (.int .i64 0)] 0],.nil⟩:=λk=>by kernel_rfl
 have E2:∀ (h:Heap) (k:TVal->Heap->Res1),vfaddr 1 (.v (.c (.ptr (.im 1) 0))) h k=k (.v (.c (.ptr (.im 1) 1))) h:=λh k=>by kernel_rfl
 have E3:∀ k:TVal->Heap->Res1,vload false 1 (.v (.c (.ptr (.im 1) 1))) ⟨[prs0,.cells [.p (.bool true),.p (.str X),.p (.int .i64 0)] 0],.nil⟩ k=k (kS X) ⟨[prs0,.cells [.p (.bool true),.p (.str X),.p (.int .i64 0)] 0],.nil⟩:=λk=>by kernel_rfl
 have E4:=λ(h:Heap) (k:TVal->Heap->Res1)=>qAE (O:=Oc X f) (k:=k) (h:=h) (d:=13) 56 [kS X] _ rfl (qPO (X:=X) (f:=f)) rfl
 unfold b65_0;simp only[E1,E2,E3,E4];show _=(some (kI 0,[prs1,nodF f]):Res1)
 kernel_rfl
abbrev partI(X:List UInt8)(a:Int):List PVal:=[.bool true,.str X,.int .i64 a]
abbrev rowsI(X:List UInt8)(a1 a2 a3 a4 a5 a6:Int):TVal := .v (.c (.p (.slice 3 false [partI X 0,partI X1 a1,partI X2 a2,partI X3 a3,partI X4 a4,partI X5 a5,partI X6 a6])))
abbrev ptr19:TVal := .v (.c (.ptr (.own 19 1) 0))
noncomputable abbrev hp0:Heap:=Go.AI.h0.own 19 1 prs0
noncomputable abbrev hp1(f:Int):Heap:=hAfter hp0 [.own 19 1] [prs1,nodF f]
theorem qMX(T X:List UInt8)(f a1 a2 a3 a4 a5 a6:Int):machU blks.get S 3000 20 0 1 [kS T,rowsI X a1 a2 a3 a4 a5 a6,ptr19,kI 1] (hp1 f)=some (.tup [.c (.p (treeV f a1 a6 (bodyV a2 a3 a4))),.c (.p (.int .i64 0)),.c (.p (.int .i64 0))],[]):=by kernel_rfl
theorem qLo(T X:List UInt8)(f a1 a2 a3 a4 a5 a6:Int)(h64:Om 64 [kS T] []=some (.tup [.c (.p (.slice 3 false [partI X 0,partI X1 a1,partI X2 a2,partI X3 a3,partI X4 a4,partI X5 a5,partI X6 a6])),.c (.p (.int .i64 0))],[]))
  (h65:Om 65 [kP (.im 0),partC X] [prs0]=some (kI 0,[prs1,nodF f])):Om 20 [kS T] []=some (.tup [.c (.p (treeV f a1 a6 (bodyV a2 a3 a4))),.c (.p (.int .i64 0)),.c (.p (.int .i64 0))],[]):=by
 refine(qAG rfl).trans ?_;show lim tab.get S 20 0 0 [kS T] Go.AI.h0=_;have U:=λ(β:Type) (k:TVal->Heap->Option β) (h:Heap) (d:Nat)=>qAE (k:=k) (h:=h) (d:=d) 64 [kS T] _ rfl h64 rfl
 have A:lim tab.get S 20 0 0 [kS T] Go.AI.h0=lim tab.get S 20 0 1 [kS T,rowsI X a1 a2 a3 a4 a5 a6,ptr19,kI 0] hp0:=by
  have BD:∀ (k:TVal->Heap->Res1) (h:Heap),vop Om (.build [.p .nilslice,.p .nilslice,.p .nilslice,.p (.int .i64 0)] []) h 18 k=k (aC [.p .nilslice,.p .nilslice,.p .nilslice,.p (.int .i64 0)]) h:=λ_ _=>rfl
  have BX:∀ (k:TVal->Heap->Res1),vop Om (.box (.k (aC [.p .nilslice,.p .nilslice,.p .nilslice,.p (.int .i64 0)])) false) Go.AI.h0 19 k=k ptr19 hp0:=λ_=>rfl
  rw[w20_0,b20_0];simp (maxSteps:=9999999) +contextual only[exa,rA,rB,rC,rD,rE,rF,rG,rH,rI,U,BD,BX]
 have B:lim tab.get S 20 0 1 [kS T,rowsI X a1 a2 a3 a4 a5 a6,ptr19,kI 0] hp0=vcall Om (.v (.c (.func 65 []))) [ptr19,partC X] hp0 36 λx36 h=>lim tab.get S 20 0 2 [kS T,rowsI X a1 a2 a3 a4 a5 a6,ptr19,kI 0,x36] h:=by
  rw[w20_1];show _=(vcall Om (.v (.c (.func 65 []))) [ptr19,partC X] hp0 36 λx36 h=>lim tab.get S 20 0 2 [kS T,rowsI X a1 a2 a3 a4 a5 a6,ptr19,kI 0,x36] h:Res1)
  kernel_rfl
 have C:∀ k:TVal->Heap->Res1,vcall Om (.v (.c (.func 65 []))) [ptr19,partC X] hp0 36 k=k (kI 0) (hp1 f):=λk=>by
  have:=qBf (O:=Om) (h:=hp0) (d:=36) 65 [ptr19,partC X] [ptr19,partC X] [kP (.im 0),partC X] [.own 19 1] [prs0] [prs0] [prs1,nodF f] (kI 0) rfl rfl rfl rfl rfl h65 (by show 1<=2; decide);show callF Om 65 [ptr19,partC X] 36 hp0 k=_;rw[qBG,this];rfl
 have D:lim tab.get S 20 0 2 [kS T,rowsI X a1 a2 a3 a4 a5 a6,ptr19,kI 0,kI 0] (hp1 f)=lim tab.get S 20 0 1 [kS T,rowsI X a1 a2 a3 a4 a5 a6,ptr19,kI 1] (hp1 f):=by
  rw[w20_2];show _=(lim tab.get S 20 0 1 [kS T,rowsI X a1 a2 a3 a4 a5 a6,ptr19,kI 1] (hp1 f):Res1)
  kernel_rfl
 exact A.trans (B.trans ((C _).trans (D.trans (qBC blks_ok 3000 20 0 1 _ _ _ (qMX T X f a1 a2 a3 a4 a5 a6)))))
theorem qPr(f:Int)(rf:rngI f):Om 20 [kS (textF f)] []=some (.tup [.c (.p (treeF f)),.c (.p (.int .i64 0)),.c (.p (.int .i64 0))],[]) :=
 qLo (textF f) ([36,115,32,58,61,32]++Lib.itoa f) f _ _ _ _ (((Lib.itoa f).length+59:Nat):Int) _ (qHb f rf) (act0 _ f (qNJ f rf))
section
variable [Sym] {G:Nat->Option (List PVal)}
theorem vars_sound(hm:Tryz.prog.follows .mixedOrders=true)(hT:TabM Tryz.prog G tab.get)(hS:FSound Tryz.prog G S)(o:Option (List Int))(f:Int)(hf : -9223372036854775808<=f/\f<=9223372036854775807):FSound Tryz.prog G (addZ 4 [.pv (intsP .i64 o),.pv (.int .i64 f)] [] (kB true,[]) S) :=
 qOM hm hT hS o f hf (qPr f hf)
end
end Go.Proofs.YtnlmlcfipbnpgaaGreatDoor.Ab
namespace Go.Proofs
open Go.RowKit Go.Shelf
attribute [local go_sem] Oper.semAt_some
def Tryz.dn(len k:Nat):List Nat:=(List.range k).map λj=>len - 1 - j
theorem Tryz.dn_succ(len k:Nat):Tryz.dn len (k+1)=Tryz.dn len k++[len - 1 - k]:=by simp[Tryz.dn,List.range_succ]
theorem Tryz.dn_length(len k:Nat):(Tryz.dn len k).length=k:=by simp[Tryz.dn]
theorem Tryz.dn_mem{len k i:Nat}(h1:len - k<=i)(h2:i<len):i∈Tryz.dn len k:=by
 simp only[Tryz.dn,List.mem_map,List.mem_range];exact⟨len - 1 - i,by omega,by omega⟩
theorem Tryz.bytes_inj{a b:ByteArray}(h:(a.toList==b.toList)=true):a=b:=by
 have h:=eq_of_beq h;rw[Lib.toList_data,Lib.toList_data] at h;cases a; cases b; congr 1; exact Array.toList_inj.1 h
abbrev Tryz.Ix(len:Nat):={ j:Nat // j<len }
set_option maxRecDepth 100000 in
theorem Tryz.back1_in(F:Fence)(n:Nat)(h8:F.fn 281)(hro:F.round=none)(hn:1<=n)(l Bs n₀ b off len cap:Nat)(pa:Nat->Addr)(hreach:len<=1000)(hb:b<n₀)(hBn:Bs<n₀)(J Jx:List (Tryz.Ix len)->World->Prop)
  (hY:∀ pre x W,J pre W->pre.length<len->YieldAt F (n - 1) Tryz.prog l #[.int .i64 (x.1:Int),.pointer (some (pa x.1))] W λe W' =>
   (e = .returned (.bool true)/\J (pre++[x]) W'/\Below n₀ W W')\/(e = .returned (.bool false)/\Jx (pre++[x]) W'))
  (W:World) (hBs:W.cell? ⟨Bs,0,none⟩=some (.slice (some ⟨b,off,none⟩) len cap)) (hc:∀ j,j<len->W.cell? ⟨b,off+j,none⟩=some (.pointer (some (pa j)))) (h0:J [] W) :
  CallsIn F n Tryz.prog 281 #[.func (.yield l) #[] #[],.pointer (some ⟨Bs,0,none⟩)] W λe W'=>(∃ v,e = .returned v) /\
   ((∃ ys,ys.map (·.1)=Tryz.dn len len/\J ys W')\/(∃ pre,(∃ k,k<=len/\pre.map (·.1)=Tryz.dn len k)/\Jx pre W')):=by
 refine callsIn_of_wp Tryz.func281 rfl h8 ?_ hro;simp only[Tryz.ntmps281,List.size_toArray,List.length_cons,List.length_nil,Nat.reduceAdd,Nat.reduceSub,Array.replicate_succ,Array.replicate_zero,List.push_toArray,List.append_toArray,List.nil_append,List.cons_append]
 gi_wp2
 gi_loopw [3] (λi wr=>∃ k:Nat,k<=len/\i = .int .i64 ((len:Int) - 1 - (k:Int))/\(∃ pre:List (Tryz.Ix len),pre.map (·.1)=Tryz.dn len k/\J pre wr)/\Below n₀ W wr)
  (λi _=>(intOf i+1).toNat)
 case atStart=>exact⟨0,Nat.zero_le _,by simp,⟨[],rfl,h0⟩,Below.refl _ _⟩
 case round =>
  obtain⟨k,hk,rfl,⟨pre,hpre,hJs⟩,hnx⟩:=hrel;by_cases hlt:k<len
  ·obtain⟨m,hm⟩:∃ m:Nat,m+k+1=len:=⟨len - 1 - k,by omega⟩;have hi:(len:Int) - 1 - (k:Int)=(m:Int):=by omega
   have hml:m<len:=by omega
   have hcx:wr.cell? ⟨b,off+m,none⟩=some (.pointer (some (pa m))):=(hnx.cell (p:=⟨b,off+m,none⟩) hb).trans (hc m hml);obtain⟨fn,tmps,assign,body,hy,hR⟩:=hY _ ⟨m,hml⟩ wr hJs (by have:=congrArg List.length hpre; rw[List.length_map,Tryz.dn_length] at this; omega);dsimp only at hy;have hbx:=(hnx.cell (p:=⟨Bs,0,none⟩) hBn).trans hBs;rw[hi]
   gi_wp2
   refine hR.mono ?_
   rintro e W3 (⟨rfl,hJ3,hk3⟩|⟨rfl,hJx3⟩)
   ·gi_wp2
    go_roundw
    case rel=>exact⟨k+1,by omega,by congr 1; omega,⟨_,by rw[List.map_append,hpre,Tryz.dn_succ,show len - 1 - k=m by omega]; rfl,hJ3⟩,hnx.trans hk3⟩
    case measure=>simp[intOf]
   ·gi_wp2
    refine bodyPost_ret (results_none rfl _ _ _) rfl ?_;exact⟨⟨_,rfl⟩,.inr ⟨_,⟨k+1,by omega,by rw[List.map_append,hpre,Tryz.dn_succ,show len - 1 - k=m by omega]; rfl⟩,hJx3⟩⟩
  ·obtain rfl:k=len:=by omega
   have hi:(k:Int) - 1 - (k:Int) = -1:=by omega
   rw[hi]
   gi_wp2
   go_end0
   exact⟨⟨_,rfl⟩,.inl ⟨_,hpre,hJs⟩⟩
set_option maxRecDepth 100000 in
theorem Tryz.back1_nil_in(F:Fence)(n:Nat)(h8:F.fn 281)(hro:F.round=none)(l Bs:Nat)(J:List (Tryz.Ix 0)->World->Prop)(W:World)(hBs:W.cell? ⟨Bs,0,none⟩=some (.slice none 0 0))(h0:J [] W) :
  CallsIn F n Tryz.prog 281 #[.func (.yield l) #[] #[],.pointer (some ⟨Bs,0,none⟩)] W λe W'=>(∃ v,e = .returned v)/\J [] W':=by
 refine callsIn_of_wp Tryz.func281 rfl h8 ?_ hro;simp only[Tryz.ntmps281,List.size_toArray,List.length_cons,List.length_nil,Nat.reduceAdd,Nat.reduceSub,Array.replicate_succ,Array.replicate_zero,List.push_toArray,List.append_toArray,List.nil_append,List.cons_append]
 gi_wp2
 gi_loopw [3] (λi wr=>i = .int .i64 (-1)/\J [] wr) (λ_ _=>0)
 case atStart=>exact⟨rfl,h0⟩
 case round =>
  obtain⟨rfl,hJs⟩:=hrel
  gi_wp2
  go_end0
  exact⟨⟨_,rfl⟩,hJs⟩
theorem Tryz.back_in(F:Fence)(n:Nat)(h6:F.fn 250)(hro:F.round=none)(a:Option Addr)(len cap:Nat)(w:World) :
  CallsIn F n Tryz.prog 250 #[.slice a len cap] w λe w'=>e = .returned (.func (.func 281) #[] #[.pointer (some ⟨w.heap.size,0,none⟩)])/\w'=w.alloc (.cells #[.slice a len cap] 153):=by
 refine callsIn_of_wp Tryz.func250 rfl h6 ?_ hro;simp only[Tryz.ntmps250,List.size_toArray,List.length_cons,List.length_nil,Nat.reduceAdd,Nat.reduceSub,Array.replicate_succ,Array.replicate_zero,List.push_toArray,List.append_toArray,List.nil_append,List.cons_append]
 gi_wp2
 go_ret
 exact⟨rfl,rfl⟩
def Tryz.Ptrs(n₀:Nat)(W:World)(sv:Value)(len:Nat)(pa:Nat->Addr):Prop :=
 (sv = .slice none 0 0/\len=0)\/∃ b off cap,sv = .slice (some ⟨b,off,none⟩) len cap/\b<n₀/\∀ j,j<len->W.cell? ⟨b,off+j,none⟩=some (.pointer (some (pa j)))
theorem Tryz.Ptrs.below{n₀:Nat}{A B:World}(h:Below n₀ A B){sv:Value}{len:Nat}{pa:Nat->Addr}:Tryz.Ptrs n₀ A sv len pa->Tryz.Ptrs n₀ B sv len pa
 |.inl e => .inl e
 |.inr ⟨b,off,cap,e,hb,hc⟩ => .inr ⟨b,off,cap,e,hb,λj hj=>(h.cell (p:=⟨b,off+j,none⟩) hb).trans (hc j hj)⟩
theorem Tryz.back_stops(F:Fence)(n:Nat)(h8:F.fn 281)(hro:F.round=none)(hn:1<=n)(Bs n₀:Nat)(sv:Value)(len:Nat)(pa:Nat->Addr)(hreach:len<=1000)(w:World)(hBs:Bs<n₀)(hn₀:n₀<=w.heap.size)
  (hc:w.cell? ⟨Bs,0,none⟩=some sv) (hI:Tryz.Ptrs n₀ w sv len pa) :
  SeqStopsK F n Tryz.prog 281 #[.pointer (some ⟨Bs,0,none⟩)] (λx:Tryz.Ix len=>#[Value.int .i64 (x.1:Int),Value.pointer (some (pa x.1))]) (Below n₀) (λys=>ys.map (·.1)=Tryz.dn len len)
   (λpre=>∃ k,k<=len/\pre.map (·.1)=Tryz.dn len k) len w:=λl J Jx W hW _ _ hY h0=>by
 have hc':=(hW.cell (p:=⟨Bs,0,none⟩) (Nat.lt_of_lt_of_le hBs hn₀)).trans hc
 rcases hI.below (hW.mono hn₀) with ⟨rfl,rfl⟩|⟨b,off,cap,rfl,hb,hcs⟩
 ·exact(Tryz.back1_nil_in F n h8 hro l Bs J W hc' h0).mono λe W' ⟨he,hj⟩=>⟨he,.inl ⟨_,rfl,hj⟩⟩
 ·exact Tryz.back1_in F n h8 hro hn l Bs n₀ b off len cap pa hreach hb hBs J Jx hY W hc' hcs h0
set_option maxRecDepth 100000 in
theorem Tryz.find_in(F:Fence)(n:Nat)(h4:F.fn 198)(h6:F.fn 250)(h8:F.fn 281)(hro:F.round=none)(hn:3<=n)(a0 a1 a2 a3 a4 a5 a7:Value)(a:Option Addr)(cap len:Nat)(pa:Nat->Addr)(nms:Nat->ByteArray)(nm:ByteArray)(hreach:len<=1000)(w:World)
  (hI:Tryz.Ptrs w.heap.size w (.slice a len cap) len pa) (hN:∀ j,j<len->w.cell? (pa j)=some (.string (nms j))) (hS:∀ j,j<len->(pa j).spot=none) :
  CallsIn F n Tryz.prog 198 #[.agg #[a0,a1,a2,a3,a4,a5,.slice a len cap,a7],.string nm] w λe W' =>
   ((∃ j,j<len/\nms j=nm/\(∀ i,j<i->i<len->nms i≠nm)/\e = .returned (.pointer (some (pa j))))\/((∀ i,i<len->nms i≠nm)/\e = .returned (.pointer none)))/\Below w.heap.size w W':=by
 have h1:1<=n:=by omega
 refine callsIn_of_wp_marks Tryz.func198 rfl h4 ?_ hro;simp only[Tryz.ntmps198,List.size_toArray,List.length_cons,List.length_nil,Nat.reduceAdd,Nat.reduceSub,Array.replicate_succ,Array.replicate_zero,List.push_toArray,List.append_toArray,List.nil_append,List.cons_append]
 gi_wp2_with (gi_at_call 250; refine(Tryz.back_in F (n - 1) h6 hro _ _ _ _).mono ?_; rintro e w' ⟨rfl,rfl⟩)
 have bS:=Boxed.new w 155 (.int .i64 0);have hB0:Below w.heap.size w ((((w.alloc (Obj.cells #[a0,a1,a2,a3,a4,a5,Value.slice a len cap,a7] 155)).alloc (Obj.cells #[Value.string nm] 9)).alloc (Obj.cells #[Value.pointer none] 241)).alloc (Obj.cells #[Value.slice a len cap] 153)) :=
  ((((Below.refl _ w).alloc (Nat.le_refl _) _).alloc (by simp) _).alloc (by simp; omega) _).alloc (by simp; omega) _
 have bM:=((Boxed.new (w.alloc (Obj.cells #[a0,a1,a2,a3,a4,a5,Value.slice a len cap,a7] 155)) 9 (Value.string nm)).alloc (Obj.cells #[Value.pointer none] 241)).alloc (Obj.cells #[Value.slice a len cap] 153);have bR:=(Boxed.new ((w.alloc (Obj.cells #[a0,a1,a2,a3,a4,a5,Value.slice a len cap,a7] 155)).alloc (Obj.cells #[Value.string nm] 9)) 241 (Value.pointer none)).alloc (Obj.cells #[Value.slice a len cap] 153);have bN:=Boxed.new (((w.alloc (Obj.cells #[a0,a1,a2,a3,a4,a5,Value.slice a len cap,a7] 155)).alloc (Obj.cells #[Value.string nm] 9)).alloc (Obj.cells #[Value.pointer none] 241)) 153 (Value.slice a len cap);simp only[World.size_alloc] at bM bR bN;generalize hW0:(((w.alloc (Obj.cells #[a0,a1,a2,a3,a4,a5,Value.slice a len cap,a7] 155)).alloc (Obj.cells #[Value.string nm] 9)).alloc (Obj.cells #[Value.pointer none] 241)).alloc (Obj.cells #[Value.slice a len cap] 153)=W0 at *;have hsz:W0.heap.size=w.heap.size+4:=by rw[<- hW0]; simp
 have hlt:∀ j,j<len->(pa j).block<w.heap.size:=λj hj=>World.block_lt_of_cell? _ _ (hN j hj)
 refine wpIn_rangeFunc_ownG hro h1 (gf:=281) (lb:=#[.pointer (some ⟨w.heap.size+1+1+1,0,none⟩)]) rfl h8 (enters_of Tryz.func281 (by kernel_rfl) rfl)
  (Tryz.back_stops F (n - 1) h8 hro (by omega) (w.heap.size+1+1+1) (w.heap.size+4) _ len pa hreach W0 (by omega) (by omega) bN.cell ?ptrs) belowK_t (belowK_b (by omega)) (Below.refl _ _) (λ_=>rfl)
  (λpre W=>(∀ p∈pre,nms p.1≠nm)/\Below (w.heap.size+4) W0 W)
  (λc pre W=>(c = .ret/\∃ ini last,pre=ini++[last]/\(∀ p∈ini,nms p.1≠nm)/\nms last.1=nm/\W.cell? ⟨w.heap.size+1+1,0,none⟩=some (.pointer (some (pa last.1))))/\Below w.heap.size W0 W)
  ?own1 ?own2 ⟨by simp,Below.refl _ _⟩
  (λx=>{ tmps:=#[Value.agg #[a0,a1,a2,a3,a4,a5,Value.slice a len cap,a7],Value.string nm,Value.pointer (some ⟨w.heap.size,0,none⟩),Value.pointer (some ⟨w.heap.size+1,0,none⟩),Value.pointer (some ⟨w.heap.size+1+1,0,none⟩),undef,.pointer (some (pa x.1)),
     Value.pointer (some ⟨w.heap.size,6,none⟩),Value.slice a len cap,Value.func (Fn.func 281) #[] #[Value.pointer (some ⟨w.heap.size+1+1+1,0,none⟩)],.int .i64 (x.1:Int),.pointer (some (pa x.1)),undef,undef,undef,undef,undef,undef,undef],defers:=[] }) ?assign ?body ?done ?stop
 case ptrs => 
  have:=hI.below hB0
  rcases this with h|⟨b,off,c,e,hb,hc⟩
  ·exact .inl h
  ·exact .inr ⟨b,off,c,e,by omega,hc⟩
 case own1=>exact OwnFrom.and (Own.from (λs A B row hs hg hr=>hs) _) (ownFrom_below (by omega) (by omega))
 case own2 =>
  intro c;exact OwnFrom.and (Own.from (λs A B row hs hg hr=>by obtain⟨hc,ini,last,e1,e2,e3,e4⟩:=hs; exact⟨hc,ini,last,e1,e2,e3,cell_kept e4 hg hr⟩) _) (ownFrom_below (by omega) (by omega))
 case assign =>
  intro l x W K hK
  gi_wp2
  exact hK
 case body =>
  rintro l pre x W ⟨hp,hB⟩ hlt2
  have hx:W.cell? (pa x.1)=some (.string (nms x.1)):=((hB.mono (by omega)).cell (p:=pa x.1) (hlt x.1 x.2)).trans ((hB0.cell (p:=pa x.1) (hlt x.1 x.2)).trans (hN x.1 x.2));have hm:W.cell? ⟨w.heap.size+1,0,none⟩=some (.string nm):=(hB.cell (p:=⟨w.heap.size+1,0,none⟩) (by simp)).trans bM.cell;have bR':Boxed W (w.heap.size+1+1) 241 (Value.pointer none):=(hB.block (w.heap.size+1+1) (by omega)).trans bR;have hcr:=bR'.cell;have hfr:=bR'.frozen;have hsp:=hS x.1 x.2;have hB':Below w.heap.size W0 W:=hB.mono (by omega);generalize hpx:pa x.1=px at *;obtain⟨pb,po,pi⟩:=px;obtain rfl:pi=none:=hsp;clear bS bM bR bN hI hS hW0;have hmx:Tryz.prog.follows .mixedOrders=true:=by kernel_rfl
  gi_wp2
  gi_region_with_o (fail)
  all_goals gi_wp2
  all_goals (try go_bits)
  all_goals first
   |(have hb:((nms x.1).toList==nm.toList)=true:=(by assumption); have hq:nms x.1=nm:=Tryz.bytes_inj hb; exact⟨((KeepsOthers.setCell _ _ _).trans (KeepsOthers.drew _)).from _,⟨rfl,pre,x,rfl,hp,hq,by rw[hpx]; exact World.cell?_setCell_same' _ _ _ (by rw[hcr]; rfl)⟩,(hB'.setCell (p:=⟨w.heap.size+1+1,0,none⟩) (by simp; omega) _).drew⟩)
   |(have hb:((nms x.1).toList==nm.toList)=false:=(by assumption); have hq:¬ nms x.1=nm:=λe=>(by rw[e,beq_self_eq_true] at hb; cases hb); exact⟨(KeepsOthers.drew _).from _,(Below.refl _ _).drew,λp hp'=>(List.mem_append.1 hp').elim (hp p) (λe=>by simp at e; subst e; exact hq),hB.drew⟩)
 case done =>
  rintro D ys W hD hys ⟨hp,hB⟩ hK
  have bR':Boxed W (w.heap.size+1+1) 241 (Value.pointer none):=(hB.block (w.heap.size+1+1) (by omega)).trans bR;have hcr:=bR'.cell;have hfr:=bR'.frozen;have hB':Below w.heap.size W0 W:=hB.mono (by omega);clear bS bM bR bN hI hS hW0
  gi_wp2
  have hK':=(KeepsOthers.setCell W ⟨w.heap.size+1+1,0,none⟩ (.pointer none)).same D _ hK rfl;refine⟨by simp,.inl ⟨_,_,rfl,run_takeDeferred hK',?_⟩⟩;have hc5:=cell_kept (World.cell?_setCell_same' W ⟨w.heap.size+1+1,0,none⟩ (.pointer none) (by rw[hcr]; rfl)) (grownBy_putObj' _ D (.deferred none)) (λr e=>by cases e; exact⟨_,hK',rfl⟩);refine⟨.pointer none,?_,.inr ⟨λi hi => ?_,rfl⟩,((hB0.trans hB').setCell (p:=⟨w.heap.size+1+1,0,none⟩) (by simp; omega) _).trans (belowK_b (w:=w) (Nat.le_refl _) _ D _ _ (by omega) hK' rfl rfl)⟩
  ·simp[results,Tryz.f198,go_sem,hc5]
  ·have:i∈ys.map (·.1):=by rw[hys]; exact Tryz.dn_mem (by omega) hi
   obtain⟨p,h1,rfl⟩:=List.mem_map.1 this;exact hp p h1
 case stop =>
  rintro D c pre W hD ⟨k,hk,hpre⟩ ⟨⟨rfl,ini,last,e1,e2,e3,hcr⟩,hB⟩ hK
  clear bS bM bR bN hI hS hW0
  gi_wp2
  refine⟨by simp,.inl ⟨_,_,rfl,run_takeDeferred hK,?_⟩⟩;have hc5:=cell_kept hcr (grownBy_putObj' _ D (.deferred none)) (λr e=>by cases e; exact⟨_,hK,rfl⟩);obtain⟨k',rfl⟩:∃ k',k=k'+1:=by
   cases k with
   |zero=>subst e1; simp[Tryz.dn] at hpre
   |succ k'=>exact⟨k',rfl⟩
  rw[e1,Tryz.dn_succ,List.map_append] at hpre;obtain⟨h5,h6⟩:=List.append_inj' hpre rfl;have h7:last.1=len - 1 - k':=by simpa using h6
  refine⟨.pointer (some (pa last.1)),?_,.inl ⟨last.1,last.2,e3,λi hi hi2 => ?_,rfl⟩,(hB0.trans hB).trans (belowK_b (w:=w) (Nat.le_refl _) _ D _ _ (by omega) hK rfl rfl)⟩
  ·simp[results,Tryz.f198,go_sem,hc5]
  ·have:i∈ini.map (·.1):=by rw[h5]; exact Tryz.dn_mem (by omega) hi2
   obtain⟨p,h1,rfl⟩:=List.mem_map.1 this;exact e2 p h1
end Go.Proofs
namespace Go.Proofs
open Go.RowKit Go.Shelf Go.AI
theorem Tryz.find_sound[Sym](G:Nat->Option (List PVal)):FSound Tryz.prog G (SFind 198 6 8):=by
 have open8:∀ (arr:Array Value) (v:Value),arr.size=8->arr[6]?=some v->∃ a0 a1 a2 a3 a4 a5 a7,arr=#[a0,a1,a2,a3,a4,a5,v,a7]:=by
  intro arr v h1 h2;obtain⟨l⟩:=arr
  match l,h1,h2 with
  |[a0,a1,a2,a3,a4,a5,a6,a7],_,h2=>exact⟨a0,a1,a2,a3,a4,a5,a7,by simp at h2; rw[h2]⟩
 refine qHi ⟨_,Tryz.func198,rfl,by decide⟩ (λarr nm w h1 h2 => ?_) (λarr nm w b off len cap pa nms h1 h2 hl hb hp hs hn => ?_)
 ·obtain⟨a0,a1,a2,a3,a4,a5,a7,rfl⟩:=open8 arr _ h1 h2;have h:=Tryz.find_in Fence.wide 3 trivial trivial trivial rfl (by omega) a0 a1 a2 a3 a4 a5 a7 none 0 0 (λ_=>⟨0,0,none⟩) (λ_=>nm) nm (by omega) w (.inl ⟨rfl,rfl⟩) (λj h=>absurd h (by omega)) (λj h=>absurd h (by omega));refine(callsIn_wide.1 h).mono λe w' ⟨h1,h2⟩=>⟨?_,h2⟩
  rcases h1 with ⟨j,hj,_⟩|⟨_,h1⟩
  ·omega
  ·exact h1
 ·obtain⟨a0,a1,a2,a3,a4,a5,a7,rfl⟩:=open8 arr _ h1 h2;exact callsIn_wide.1 (Tryz.find_in Fence.wide 3 trivial trivial trivial rfl (by omega) a0 a1 a2 a3 a4 a5 a7 (some ⟨b,off,none⟩) cap len pa nms nm hl w (.inr ⟨b,off,cap,rfl,hb,hp⟩) hs hn)
theorem Tryz.find_soundQ[Sym](G:Nat->Option (List PVal)):FSound Tryz.prog G (SFindQ 198 6 8):=by
 have open8:∀ (arr:Array Value) (v:Value),arr.size=8->arr[6]?=some v->∃ a0 a1 a2 a3 a4 a5 a7,arr=#[a0,a1,a2,a3,a4,a5,v,a7]:=by
  intro arr v h1 h2;obtain⟨l⟩:=arr
  match l,h1,h2 with
  |[a0,a1,a2,a3,a4,a5,a6,a7],_,h2=>exact⟨a0,a1,a2,a3,a4,a5,a7,by simp at h2; rw[h2]⟩
 refine qHc ⟨_,Tryz.func198,rfl,by decide⟩ (λarr nm w h1 h2 => ?_) (λarr nm w b off len cap pa nms h1 h2 hl hb hp hs hn => ?_)
 ·obtain⟨a0,a1,a2,a3,a4,a5,a7,rfl⟩:=open8 arr _ h1 h2;have h:=Tryz.find_in Fence.wide 3 trivial trivial trivial rfl (by omega) a0 a1 a2 a3 a4 a5 a7 none 0 0 (λ_=>⟨0,0,none⟩) (λ_=>nm) nm (by omega) w (.inl ⟨rfl,rfl⟩) (λj h=>absurd h (by omega)) (λj h=>absurd h (by omega));refine(callsIn_wide.1 h).mono λe w' ⟨h1,h2⟩=>⟨?_,h2⟩
  rcases h1 with ⟨j,hj,_⟩|⟨_,h1⟩
  ·omega
  ·exact h1
 ·obtain⟨a0,a1,a2,a3,a4,a5,a7,rfl⟩:=open8 arr _ h1 h2;exact callsIn_wide.1 (Tryz.find_in Fence.wide 3 trivial trivial trivial rfl (by omega) a0 a1 a2 a3 a4 a5 a7 (some ⟨b,off,none⟩) cap len pa nms nm hl w (.inr ⟨b,off,cap,rfl,hb,hp⟩) hs hn)
end Go.Proofs
