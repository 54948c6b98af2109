/- The rules,the contracts,the plain laws that lead to the statement. Own work. Condition: what each theorem names. -/
import Derived.Test.YtiahgnkffnokfaaGreatDoorG0
import Derived.Lib.ItoaNum
set_option linter.all false
set_option linter.unusedVariables false
set_option linter.unusedSimpArgs false
set_option linter.unusedSectionVars false
set_option maxRecDepth 100000
set_option maxHeartbeats 4000000
open Nat renaming reduceAdd→rA,reduceMul→rB,reduceLT→rD,reduceLeDiff→rE,reduceEqDiff→rF
open Int renaming reduceLT→rG,reduceLE→rH,reduceEq→rI,reduceToNat→rJ
open Option renaming some.injEq→rK,bind_eq_some_iff→rL,bind_eq_bind→rM
namespace Go.Proofs.YtiahgnkffnokfaaGreatDoor.Ab
open Go Go.AI
def cmpM(x y:List UInt8):Int:=if bless x y=true then -1 else if (!(bless x y||x==y))=true then 1 else 0
theorem qIs(x y:List UInt8):decide (cmpM x y<0)=bless x y:=by
 unfold cmpM;cases bless x y
 ·rw[if_neg (by decide)];split <;> rfl
 ·rfl
theorem qRq(x:List UInt8):Om 106 [kS x] []=some (kB false,[]):=by
 refine(qAB rfl).trans ?_;show lim tab.get S 106 0 0 [kS x] h0=_;rw[w106_0,b106_0];simp (maxSteps:=9999999) +contextual only[exa,rA,rB,rD,rE,rF,rG,rH,rI,rJ,oneOf]
theorem qRx(x y:List UInt8):Om 83 [kS x,kS y] []=some (kI (cmpM x y),[]):=by
 refine(qAB rfl).trans ?_;show lim tab.get S 83 0 0 [kS x,kS y] h0=_;have c:=fun{β:Type} {k:TVal→Heap→Option β} {h:Heap} {d:Nat} (x:List UInt8)=>qAC (O:=Om) (k:=k) (h:=h) (d:=d) 106 [kS x] _ rfl (qRq x) rfl
 rw[w83_0,b83_0];unfold cmpM;cases h1:bless x y
 ·cases h2:(x==y)
  ·simp (maxSteps:=9999999) +contextual only[exa,rA,rB,rD,rE,rF,rG,rH,rI,rJ,c,h1,h2,oneOf,if_true,if_false,Bool.false_eq_true]
  ·simp (maxSteps:=9999999) +contextual only[exa,rA,rB,rD,rE,rF,rG,rH,rI,rJ,c,h1,h2,oneOf,if_true,if_false,Bool.false_eq_true]
 ·simp (maxSteps:=9999999) +contextual only[exa,rA,rB,rD,rE,rF,rG,rH,rI,rJ,c,h1,oneOf,if_true]
theorem qDG(v:VT):∃ a1 a2 a3 a4 a5 a6,v.row=[a1,a2,a3,a4,a5,a6]:=by cases v; exact⟨_,_,_,_,_,_,rfl⟩
theorem qSW(p q:List UInt8×VT):Om 82 [kA (eRow p.1 p.2),kA (eRow q.1 q.2)] []=some (kI (cmpM p.1 q.1),[]):=by
 refine(qAB rfl).trans ?_;obtain⟨a1,a2,a3,a4,a5,a6,ha⟩:=qDG p.2;obtain⟨b1,b2,b3,b4,b5,b6,hb⟩:=qDG q.2;unfold eRow;rw[ha,hb];show lim tab.get S 82 0 0 [.v (.agg [.p (.str p.1),.p a1,.p a2,.p a3,.p a4,.p a5,.p a6]),.v (.agg [.p (.str q.1),.p b1,.p b2,.p b3,.p b4,.p b5,.p b6])] h0=_;have c:=fun{β:Type} {k:TVal→Heap→Option β} {h:Heap} {d:Nat}=>qAC (O:=Om) (k:=k) (h:=h) (d:=d) 83 [kS p.1,kS q.1] _ rfl (qRx p.1 q.1) rfl
 rw[w82_0,b82_0];simp (maxSteps:=9999999) +contextual only[exa,rA,rB,rD,rE,rF,rG,rH,rI,rJ,c,oneOf]
abbrev Es:=List (List UInt8×VT)
theorem qA3(k:List UInt8)(v:VT):(eRow k v).length=7:=by unfold eRow; simp[VT.row_len]
theorem qCt:∀ l:Es,(eRows l).length=l.length*7
 |[]=>rfl
 |p::l=>by
  have:=qCt l;show(eRow p.1 p.2++eRows l).length=_;rw[List.length_append,qA3,this,List.length_cons]; omega
theorem qDg:∀ (l:Es) (i:Nat),(eRows l).drop (i*7)=eRows (l.drop i)
 |l,0=>by simp
 |[],i+1=>by simp[eRows]
 |p::l,i+1=>by
  show(eRow p.1 p.2++eRows l).drop ((i+1)*7)=_;rw[List.drop_append,List.drop_eq_nil_of_le (by rw[qA3]; omega),qA3,List.nil_append,show(i+1)*7 - 7=i*7 by omega,qDg l i];rfl
theorem qFf:∀ (l:Es) (i:Nat),(eRows l).take (i*7)=eRows (l.take i)
 |l,0=>by simp[eRows]
 |[],i+1=>by simp[eRows]
 |p::l,i+1=>by
  show(eRow p.1 p.2++eRows l).take ((i+1)*7)=_;rw[List.take_append,List.take_of_length_le (by rw[qA3]; omega),qA3,show(i+1)*7 - 7=i*7 by omega,qFf l i];rfl
theorem qC9(l:Es)(i:Nat)(p:List UInt8×VT)(h:l[i]?=some p):((pcells (eRows l)).drop (i*7)).take 7=pcells (eRow p.1 p.2):=by
 have hd:l.drop i=p::l.drop (i+1):=by
  obtain⟨h1,h2⟩:=List.getElem?_eq_some_iff.1 h;rw[List.drop_eq_getElem_cons h1,h2]
 unfold pcells;rw[← List.map_drop,← List.map_take,qDg,hd];show((eRow p.1 p.2++eRows (l.drop (i+1))).take 7).map _=_;rw[List.take_append,List.take_of_length_le (by rw[qA3]; omega),qA3,Nat.sub_self,List.take_zero,List.append_nil]
theorem qM1(a b:Es):eRows (a++b)=eRows a++eRows b:=by unfold eRows; rw[List.flatMap_append]
theorem qGg(l:Es)(i:Nat)(p:List UInt8×VT)(h:i<l.length):put1 (pcells (eRows l)) (i*7) (pcells (eRow p.1 p.2))=pcells (eRows (l.set i p)):=by
 unfold put1 splice pcells;have ll:(List.map Cell.p (eRow p.1 p.2)).length=7:=by rw[List.length_map,qA3]
 rw[ll,← List.map_take,← List.map_drop,qFf,show i*7+7=(i+1)*7 by omega,qDg,← List.map_append,← List.map_append]
 congr 1
 have hs:l.set i p=l.take i++p::l.drop (i+1):=by
  rw[List.set_eq_take_append_cons_drop,if_pos h]
 rw[hs,qM1];show _=eRows (l.take i)++(eRow p.1 p.2++eRows (l.drop (i+1)));rw[List.append_assoc]
def down:Nat→Es→Es
 |0,l=>l
 |i+1,l=>match l[i+1]?,l[i]? with
  |some p,some q=>if bless p.1 q.1=true then down i ((l.set (i+1) q).set i p) else l
  |_,_=>l
theorem qDr:∀ (i:Nat) (l:Es),(down i l).length=l.length
 |0,_=>rfl
 |i+1,l=>by
  unfold down;split
  ·split
   ·rw[qDr]; simp
   ·rfl
  ·rfl
def sortM:Nat→Nat→Es→Es
 |0,_,l=>l
 |m+1,i,l=>sortM m (i+1) (down i l)
abbrev sE0(n:Nat):TVal := .v (.c (.sref (.im 0) 0 n none 7))
abbrev F82:TVal := .v (.c (.func 82 []))
theorem v82{β:Type}{k:TVal→Heap→Option β}{h:Heap}{d:Nat}(p q:List UInt8×VT):vcall Om F82 [.v (.agg (pcells (eRow p.1 p.2))),.v (.agg (pcells (eRow q.1 q.2)))] h d k=k (kI (cmpM p.1 q.1)) h:=qAC 82 _ _ (by simp only[exP]) (qSW p q) rfl
theorem qG1(n:Nat)(i0:Nat):∀ (i:Nat) (l:Es) (h:Heap),l.length=n→n≤1000→i<n→h.get (.im 0)=some (.cells (pcells (eRows l)) 0) →
  ∃ h',h'.get (.im 0)=some (.cells (pcells (eRows (down i l))) 0)∧lim tab.get S 125 1 2 [sE0 n,kI 0,kI (n:Int),F82,kI (i0:Int),kI (i:Int)] h=lim tab.get S 125 1 3 [sE0 n,kI 0,kI (n:Int),F82,kI (i0:Int)] h'
 |0,l,h,hl,hn,hi,hg=>by
  refine⟨h,hg,?_⟩;have q:¬ (0:Int)<((0:Nat):Int):=by decide
  rw[w125_2,b125_2];simp (maxSteps:=9999999) +contextual only[exa,rA,rB,rD,rE,rF,rG,rH,rI,rJ,q,if_false]
 |i+1,l,h,hl,hn,hi,hg=>by
  obtain⟨p,hp⟩:∃ p,l[i+1]?=some p:=⟨l[i+1]'(by omega),by simp⟩;obtain⟨q,hq⟩:∃ q,l[i]?=some q:=⟨l[i]'(by omega),by simp⟩;have t1:(0:Int)<((i+1:Nat):Int):=by omega
  have t2:(0:Int)≤((i+1:Nat):Int):=by omega
  have t3:(0:Int)≤((i:Nat):Int):=by omega
  have t4:i<n:=by omega
  have ew:IntKind.i64.wrap (((i+1:Nat):Int) - 1)=((i:Nat):Int):=by rw[qAH _ (by omega) (by omega)]; omega
  have gp:=qC9 l (i+1) p hp;have gq:=qC9 l i q hq;have pp:(pcells (eRow p.1 p.2)).length=7:=by rw[qAM,qA3]
  have pq:(pcells (eRow q.1 q.2)).length=7:=by rw[qAM,qA3]
  have le1:(i+1)*7+7≤(eRows l).length:=by rw[qCt]; omega
  have le2:i*7+7≤(eRows l).length:=by rw[qCt]; omega
  have s1:=qGg l (i+1) q (by omega);have s2:=qGg (l.set (i+1) q) i p (by simp; omega);have le3:i*7+7≤(eRows (l.set (i+1) q)).length:=by rw[qCt]; simp; omega
  have hgp:(h.put (.im 0) (.cells (pcells (eRows (l.set (i+1) q))) 0)).get (.im 0)=some (.cells (pcells (eRows (l.set (i+1) q))) 0):=Heap.zput_self hg (fun e=>by cases e);cases hb:bless p.1 q.1
  ·refine⟨h,?_,?_⟩
   ·rw[hg]; unfold down; simp[hp,hq,hb]
   ·rw[w125_2,b125_2];simp (maxSteps:=9999999) +contextual only[exa,rA,rB,rD,rE,rF,rG,rH,rI,rJ,exW,exY,t1,t2,t3,t4,hi,ew,Int.toNat_natCast,hg,gp,gq,pp,pq,v82,qIs,hb,if_false]
  ·have hg2:((h.put (.im 0) (.cells (pcells (eRows (l.set (i+1) q))) 0)).put (.im 0) (.cells (pcells (eRows ((l.set (i+1) q).set i p))) 0)).get (.im 0)=some (.cells (pcells (eRows ((l.set (i+1) q).set i p))) 0):=Heap.zput_self hgp (fun e=>by cases e);obtain⟨h',a1,a2⟩:=qG1 n i0 i ((l.set (i+1) q).set i p) _ (by simp[hl]) hn (by omega) hg2;refine⟨h',?_,?_⟩
   ·rw[a1];have:down (i+1) l=down i ((l.set (i+1) q).set i p):=by rw[down]; simp[hp,hq,hb]
    rw[this]
   ·rw[← a2,w125_2,b125_2];simp (maxSteps:=9999999) +contextual only[exa,rA,rB,rD,rE,rF,rG,rH,rI,rJ,exW,exY,t1,t2,t3,t4,hi,ew,Int.toNat_natCast,hg,gp,gq,pp,pq,v82,qIs,hb,le1,le2,le3,s1,s2,hgp,Nat.zero_le,if_false]
theorem qHP(n:Nat)(hn:n≤1000):∀ (m i:Nat) (l:Es) (h:Heap),i+m=n→l.length=n→h.get (.im 0)=some (.cells (pcells (eRows l)) 0) →
  lim tab.get S 125 1 1 [sE0 n,kI 0,kI (n:Int),F82,kI (i:Int)] h=some (.tup [],[.cells (pcells (eRows (sortM m i l))) 0])
 |0,i,l,h,hi,hl,hg=>by
  have t:¬ (i:Int)<(n:Int):=by omega
  have fin:=qAb true [] _ rfl hg (qAI (eRows l) 0);rw[w125_1,b125_1];simp (maxSteps:=9999999) +contextual only[exa,rA,rB,rD,rE,rF,rG,rH,rI,rJ,t,fin,sortM,if_false,oneOf]
 |m+1,i,l,h,hi,hl,hg=>by
  have t:(i:Int)<(n:Int):=by omega
  have ew:IntKind.i64.wrap ((i:Int)+1)=((i+1:Nat):Int):=by rw[qAH _ (by omega) (by omega)]; omega
  obtain⟨h',a1,a2⟩:=qG1 n i i l h hl hn (by omega) hg;have ih:=qHP n hn m (i+1) (down i l) h' (by omega) (by rw[qDr,hl]) a1;rw[w125_1,b125_1,qHl,qDP,if_pos (decide_eq_true t),a2,w125_3,b125_3,qCh,ew];exact ih
theorem qQr(n:Nat)(hn:n≤1000)(l:Es)(hl:l.length=n)(h1:1≤n):Om 125 [sE0 n,kI 0,kI (n:Int),F82] [.cells (pcells (eRows l)) 0]=some (.tup [],[.cells (pcells (eRows (sortM (n - 1) 1 l))) 0]):=by
 refine(qAB rfl).trans ?_;show lim tab.get S 125 1 0 [sE0 n,kI 0,kI (n:Int),F82] (Heap.mk [.cells (pcells (eRows l)) 0] .nil)=_;rw[w125_0,b125_0];simp (maxSteps:=9999999) +contextual only[exa,rA,rB,rD,rE,rF,rG,rH,rI,rJ];exact qHP n hn (n - 1) 1 l _ (by omega) hl rfl
theorem qGZ{β:Type}{O:Oracle}{k:TVal→Heap→Option β}{h:Heap}{d:Nat}(g:FuncId)(r:Ref)(args as':List TVal)(o o':AObj)(v:TVal)(s1:args.map TVal.strip=args)(s2:args.flatMap TVal.refs=[r])(s3:args.map (TVal.ren (inn [r]))=as')(hg:h.get r=some o)(ho:plainO o)(ho':plainO o')(hv:∀ σ,v.ren σ=v)
  (hc:O g as' [o]=some (v,[o'])):vcall O (.v (.c (.func g []))) args h d k=k v (h.put r o'):=by
 have e2:reach h fuelReach (args.flatMap TVal.refs) []=[r]:=by
  rw[s2];show reach h (398+1+1) [r] []=_;rw[qAE _ r [] [] o (by simp) hg,ho.1];exact qAX _ _
 have e3:([r]:List Ref).mapM h.get=some [o]:=by simp only[List.mapM_cons,List.mapM_nil,hg,Option.pure_def,rM,Option.bind_some]
 rw[qEW g args args as' [r] [o] [o] [o'] v s1 e2 e3 s3 (by rw[List.map_cons,ho.2]; rfl) hc (Nat.le_refl _),hv];show k v (h.put r (o'.ren _))=_;rw[ho'.2]
theorem v125{β:Type}{k:TVal→Heap→Option β}{h:Heap}{d:Nat}(n:Nat)(hn:n≤1000)(l:Es)(hl:l.length=n)(h1:1≤n)(hg:h.get (.im 0)=some (.cells (pcells (eRows l)) 0)):vcall Om (.v (.c (.func 125 []))) [sE0 n,kI 0,kI (n:Int),F82] h d k=k (.tup []) (h.put (.im 0) (.cells (pcells (eRows (sortM (n - 1) 1 l))) 0)) :=
 qGZ 125 (.im 0) [sE0 n,kI 0,kI (n:Int),F82] _ _ _ _ rfl rfl rfl hg (qAI _ 0) (qAI _ 0) (fun _=>rfl) (qQr n hn l hl h1)
theorem qMC(n:Nat)(hn:n<20)(l:Es)(hl:l.length=n)(h1:1≤n):Om 105 [sE0 n,kI (n:Int),F82] [.cells (pcells (eRows l)) 0]=some (.tup [],[.cells (pcells (eRows (sortM (n - 1) 1 l))) 0]):=by
 refine(qAB rfl).trans ?_;show lim tab.get S 105 1 0 [sE0 n,kI (n:Int),F82] (Heap.mk [.cells (pcells (eRows l)) 0] .nil)=_;have t:(n:Int)<20:=by omega
 have t2:¬ (20:Int)<(n:Int):=by omega
 have hg:(Heap.mk [.cells (pcells (eRows l)) 0] .nil).get (.im 0)=some (.cells (pcells (eRows l)) 0):=rfl;have fin:=qAb true [] _ rfl (Heap.zput_self (o := .cells (pcells (eRows (sortM (n - 1) 1 l))) 0) hg (fun e=>by cases e)) (qAI _ 0);rw[w105_0,b105_0,w105_1,b105_1];simp (maxSteps:=9999999) +contextual only[exa,rA,rB,rD,rE,rF,rG,rH,rI,rJ,t,if_false];rw[w105_2,b105_2,v125 n (by omega) l hl h1 hg,w105_3,b105_3];simp (maxSteps:=9999999) +contextual only[exa,rA,rB,rD,rE,rF,rG,rH,rI,rJ,t2,fin,if_false,oneOf]
theorem qRp(n:Nat)(hn:n<20)(l:Es)(hl:l.length=n)(h1:1≤n):Om 81 [sE0 n,F82] [.cells (pcells (eRows l)) 0]=some (.tup [],[.cells (pcells (eRows (sortM (n - 1) 1 l))) 0]):=by
 refine(qAB rfl).trans ?_;show lim tab.get S 81 1 0 [sE0 n,F82] (Heap.mk [.cells (pcells (eRows l)) 0] .nil)=_;have hg:(Heap.mk [.cells (pcells (eRows l)) 0] .nil).get (.im 0)=some (.cells (pcells (eRows l)) 0):=rfl;have fin:=qAb true [] _ rfl (Heap.zput_self (o := .cells (pcells (eRows (sortM (n - 1) 1 l))) 0) hg (fun e=>by cases e)) (qAI _ 0);have c:=fun{β:Type} {k:TVal→Heap→Option β} {d:Nat}=>qGZ (O:=Om) (k:=k) (d:=d) 105 (.im 0) [sE0 n,kI (n:Int),F82] _ _ _ (.tup []) rfl rfl rfl hg (qAI _ 0) (qAI _ 0) (fun _=>rfl) (qMC n hn l hl h1)
 rw[w81_0,b81_0,qFQ];refine c.trans ?_;exact fin
end Go.Proofs.YtiahgnkffnokfaaGreatDoor.Ab
namespace Go.AI
theorem qPm{h:Heap}(vs:List Comp)(o:AObj)(hv:vs.all compPT=true)(hg:h.get (.im 0)=some o)(ho:plainO o):vfin true 1 vs h=some (oneOf (vs.map Comp.strip),[o]):=by
 letI:Sym:=⟨fun _=>0⟩
 rw[qDL];obtain⟨e1,e2⟩:=qEo h vs hv;have ef:freezeT h (oneOf vs)=some (oneOf (vs.map Comp.strip),[]):=by
  match vs,hv,e1,e2 with
  |[],_,_,_=>rfl
  |[x],hv,_,_ =>
   rw[List.all_cons,Bool.and_eq_true] at hv;show(freezeC h x).map _=_;rw[(qDT h x hv.1).1]; rfl
  |x::y::vs,_,e1,_ =>
   show((x::y::vs).mapM (freezeC h)).map _=_;rw[e1];show some (TVal.tup (((x::y::vs).map fun x=>(x.strip,([]:List Ref))).map (·.1)),((x::y::vs).map fun x=>(x.strip,([]:List Ref))).flatMap (·.2))=_
   congr 2
   ·rw[List.map_map]; rfl
   ·generalize (x::y::vs)=l
    induction l with
    |nil=>rfl
    |cons a l ih=>rw[List.map_cons,List.flatMap_cons,ih]; rfl
 obtain⟨q1,q2,q3,q4⟩:=qAm (qDR e2);unfold finV;rw[show ims 1=[Ref.im 0] from rfl];simp[ef,settle,hg,ho.1,q1,q3,reach,fuelReach,ho.2]
end Go.AI
namespace Go.Proofs.YtiahgnkffnokfaaGreatDoor.Ab
open Go Go.AI
def kRow(p:List UInt8×VT):List PVal:=sRow p.1
def vRow(p:List UInt8×VT):List PVal:=p.2.row
structure TS (h:Heap) (t:List UInt8) (e:Int) (l:Es) (i:Nat):Prop where
 g0:h.get (.im 0)=some (rO t e)
 g1:h.get (.im 1)=some (.cells (pcells (eRows l)) 0)
 o2:h.get (.own 2 1)=some (boxO 0)
 o4:h.get (.own 4 1)=some (.cells Z6 0)
 o5:h.get (.own 5 1)=some (.cells [.sref (.im 1) 0 l.length none 7] 0)
 o6:∃ K L,h.get (.own 6 1)=some (.cells [.p (.int .i64 5),.p (.bool false),.p (.int .i64 0),.p (.str []),K,L] 0)∧(GS [42] 1 K ((l.take i).map kRow) h∧Bears 1 K ((l.take i).map kRow))∧GS [48] 6 L ((l.take i).map vRow) h∧Bears 6 L ((l.take i).map vRow)
abbrev q2:TVal := .v (.c (.ptr (.own 2 1) 0))
abbrev q4:TVal := .v (.c (.ptr (.own 4 1) 0))
abbrev q5:TVal := .v (.c (.ptr (.own 5 1) 0))
abbrev q6:TVal := .v (.c (.ptr (.own 6 1) 0))
abbrev sE1(n:Nat):TVal := .v (.c (.sref (.im 1) 0 n none 7))
theorem qD0{α β:Type}(f:α→β)(l:List α)(i:Nat)(a:α)(h:l[i]?=some a):(l.take (i+1)).map f=(l.take i).map f++[f a]:=by
 rw[List.take_add_one,h,List.map_append]; rfl
theorem tab2{h:Heap}{t:List UInt8}{e:Int}{l:Es}{i:Nat}(A:TS h t e l i)(p:List UInt8×VT)(hp:l[i]?=some p)(g8:Nat)(o8:h.get (.own 8 g8)=some (.cells (pcells (eRow p.1 p.2)) 0))(hl:l.length≤1000) :
  ∃ h',TS h' t e l (i+1)∧lim tab.get S 52 1 2 [q2,q4,q5,q6,.v (.c (.ptr (.own 8 g8) 0)),sE1 l.length,kI (l.length:Int),kI (i:Int)] h=lim tab.get S 52 1 1 [q2,q4,q5,q6,sE1 l.length,kI (l.length:Int),kI ((i+1:Nat):Int)] h':=by
 obtain⟨K,L,o6,⟨GK,BK⟩,GL,BL⟩:=A.o6;have hi:i<l.length:=(List.getElem?_eq_some_iff.1 hp).1;have tl:(l.take i).length≤1000:=by simp; omega
 obtain⟨c1,h1,t1,G1,e1,T1,K1,I1,X1⟩:=qB4 (h:=h) (d:=42) (D:=[42]) (sz:=1) (by':=16) (new:=[[.str p.1]]) (b := .slice 1 true [[.str p.1]]) (.inr ⟨true,rfl⟩) GK (by decide) (fun r hr=>by simp at hr; rw[hr]; rfl) (by simp; omega) (by decide);have GL1:GS [48] 6 L ((l.take i).map vRow) h1:=GL.keep fun e he g hh=>K1 e g _ (by revert he; simp; omega) hh
 obtain⟨c2,h2,t2,G2,e2,T2,K2,I2,X2⟩:=qB4 (h:=h1) (d:=48) (D:=[48]) (sz:=6) (by':=88) (new:=[p.2.row]) (b := .slice 6 true [p.2.row]) (.inr ⟨true,rfl⟩) GL1 (by decide) (fun r hr=>by simp at hr; rw[hr]; exact VT.row_len _) (by simp; omega) (by decide);have G1':=G1.keep (h':=h2) fun e he g hh=>K2 e g _ (by revert he; simp; omega) hh
 have k6:=K1 6 1 _ (by decide) o6;have k8:=K1 8 g8 _ (by decide) o8;have k62:=K2 6 1 _ (by decide) k6;obtain⟨a1,a2,a3,a4,a5,a6,ha⟩:=qDG p.2;have B1:∀ {β:Type}{O:Oracle}{h:Heap}{d:Nat}{kt:TVal→Heap→AI.Touch→Option β},vtouch O (.bslice 1 1 [.p (.str [])] [(0,.k (kS p.1))] false) h d kt=kt (kSl 1 true [[.str p.1]]) h noTouch:=qCv _ _ rfl;have B2:∀ {β:Type}{O:Oracle}{h:Heap}{d:Nat}{kt:TVal→Heap→AI.Touch→Option β},vtouch O (.bslice 6 1 [.p (.int .i64 0),.p (.bool false),.p (.int .i64 0),.p (.str []),.p .nilslice,.p .nilslice] [(0,.k (.v (.agg (pcells p.2.row))))] false) h d kt=kt (kSl 6 true [p.2.row]) h noTouch:=qDm 6 _ _ rfl (VT.row_len p.2);have A1:AI.Touch.apart t1 ⟨[(Ref.own 6 1).site],[],false⟩=true:=qA7 T1 6 (by decide);have A2:AI.Touch.apart t1 ⟨[(Ref.own 8 g8).site],[],false⟩=true:=qA7 T1 8 (by decide);have R1:(pcells (eRow p.1 p.2))[0]?=some (.p (.str p.1)):=rfl;have R2:((pcells (eRow p.1 p.2)).drop 1).take 6=pcells p.2.row:=by
  show(pcells p.2.row).take 6=_;exact List.take_of_length_le (Nat.le_of_eq (by rw[qAM,VT.row_len]))
 have R3:(pcells p.2.row).length=6:=by rw[qAM,VT.row_len]
 have P1:∀ a b c d f:Cell,put1 [a,b,c,d,K,f] 4 [c1]=[a,b,c,d,c1,f]:=fun _ _ _ _ _=>rfl
 have P2:∀ a b c d f:Cell,put1 [a,b,c,d,c1,f] 5 [c2]=[a,b,c,d,c1,c2]:=fun _ _ _ _ _=>rfl
 rw[w52_2,b52_2];refine⟨(h2.own 6 1 (.cells [.p (.int .i64 5),.p (.bool false),.p (.int .i64 0),.p (.str []),c1,L] 0)).own 6 1 (.cells [.p (.int .i64 5),.p (.bool false),.p (.int .i64 0),.p (.str []),c1,c2] 0),?_,?_⟩
 ·have mk:=qD0 kRow l i p hp;have mv:=qD0 vRow l i p hp;obtain⟨r1,er1⟩:=X1 (.inl (by simp));obtain⟨r2,er2⟩:=X2 (.inl (by simp));have own2:∀ (d:Nat) (o x y:AObj),d≠6→h2.get (.own d 1)=some o→((h2.own 6 1 x).own 6 1 y).get (.own d 1)=some o:=fun d o x y hd ho=>by rw[Heap.own_get_ne _ _ _ _ _ _ (Ne.symm hd),Heap.own_get_ne _ _ _ _ _ _ (Ne.symm hd),ho]
  refine⟨?_,?_,own2 2 _ _ _ (by decide) (K2 2 1 _ (by decide) (K1 2 1 _ (by decide) A.o2)),own2 4 _ _ _ (by decide) (K2 4 1 _ (by decide) (K1 4 1 _ (by decide) A.o4)),own2 5 _ _ _ (by decide) (K2 5 1 _ (by decide) (K1 5 1 _ (by decide) A.o5)),c1,c2,Heap.own_get _ 6 1 _ (by decide) (fun e=>by cases e),?_,?_⟩
  ·exact(I2 0).trans ((I1 0).trans A.g0)
  ·exact(I2 1).trans ((I1 1).trans A.g1)
  ·rw[mk];exact⟨(G1'.own 1 _ (by decide)).own 1 _ (by decide),.inr ⟨by simp,r1,er1⟩⟩
  ·rw[mv];exact⟨(G2.own 1 _ (by decide)).own 1 _ (by decide),.inr ⟨by simp,r2,er2⟩⟩
 ·simp (maxSteps:=9999999) +contextual only[exa,rA,rB,rD,rE,rF,rG,rH,rI,rJ,exW,exY,o6,o8,k6,k8,k62,e1,e2,qCv,qBL,B1,B2,A1,A2,R1,R2,R3,P1,P2,qAl i (by omega),Nat.le_refl,oneOf]
def eM(l:Es):Nat→Int
 |0=>0
 |i+1=>match l[i]? with
  |some p=>if eM l i≠0 then eM l i else (match i with
   |0=>0
   |j+1=>match l[j]? with|some q=>if q.1=p.1 then 6 else 0|none=>0)
  |none=>eM l i
theorem tab1{h:Heap}{t:List UInt8}{l:Es}(hl:l.length≤1000):∀ (m i:Nat) (h:Heap),i+m=l.length→TS h t (eM l i) l i →
  ∃ h',TS h' t (eM l l.length) l l.length∧lim tab.get S 52 1 1 [q2,q4,q5,q6,sE1 l.length,kI (l.length:Int),kI (i:Int)] h=lim tab.get S 52 1 3 [q4,q6] h'
 |0,i,h,hi,A=>by
  have hi:i=l.length:=by omega
  subst hi;refine⟨h,A,?_⟩;have lt:¬ (l.length:Int)<(l.length:Int):=by omega
  rw[w52_1,b52_1];simp (maxSteps:=9999999) +contextual only[exa,rA,rB,rD,rE,rF,rG,rH,rI,rJ,lt,if_false]
 |m+1,i,h,hi,A=>by
  obtain⟨p,hp⟩:∃ p,l[i]?=some p:=⟨l[i]'(by omega),by simp⟩;have lt:(i:Int)<(l.length:Int):=by omega
  have lt2:i<l.length:=by omega
  have gp:=qC9 l i p hp;have pp:(pcells (eRow p.1 p.2)).length=7:=by rw[qAM,qA3]
  have R1:(pcells (eRow p.1 p.2))[0]?=some (.p (.str p.1)):=rfl;have PA:∀ Z:List Cell,Z.length=7→put1 Z 0 (pcells (eRow p.1 p.2))=pcells (eRow p.1 p.2):=fun Z hz=>qAh _ _ (by rw[pp,hz])
  -- the heap behind the entry's own block
  have step:∀ (h2:Heap) (g8:Nat),TS h2 t (eM l (i+1)) l i→h2.get (.own 8 g8)=some (.cells (pcells (eRow p.1 p.2)) 0)→∃ h',TS h' t (eM l l.length) l l.length∧lim tab.get S 52 1 2 [q2,q4,q5,q6,.v (.c (.ptr (.own 8 g8) 0)),sE1 l.length,kI (l.length:Int),kI (i:Int)] h2=lim tab.get S 52 1 3 [q4,q6] h':=by
   intro h2 g8 A2 o8;obtain⟨h3,A3,e3⟩:=tab2 A2 p hp g8 o8 hl;obtain⟨h4,A4,e4⟩:=tab1 (h:=h) hl m (i+1) h3 (by omega) A3;exact⟨h4,A4,e3.trans e4⟩
  have own8:∀ (h2:Heap) (e:Int) (g:Nat) (x y:AObj),TS h2 t e l i→TS ((h2.own 8 g x).own 8 g y) t e l i:=by
   intro h2 e g x y B;have k:∀ (d:Nat) (o:AObj),d≠8→h2.get (.own d 1)=some o→((h2.own 8 g x).own 8 g y).get (.own d 1)=some o:=fun d o hd ho=>by rw[Heap.own_get_ne _ _ _ _ _ _ (Ne.symm hd),Heap.own_get_ne _ _ _ _ _ _ (Ne.symm hd),ho]
   obtain⟨K,L,o6,⟨GK,BK⟩,GL,BL⟩:=B.o6;exact⟨B.g0,B.g1,k 2 _ (by decide) B.o2,k 4 _ (by decide) B.o4,k 5 _ (by decide) B.o5,K,L,k 6 _ (by decide) o6,⟨(GK.own _ _ (by decide)).own _ _ (by decide),BK⟩,(GL.own _ _ (by decide)).own _ _ (by decide),BL⟩
  have putE:∀ (h2:Heap) (e e':Int),TS h2 t e l i→TS (h2.put (.im 0) (rO t e')) t e' l i:=by
   intro h2 e e' B;obtain⟨K,L,o6,⟨GK,BK⟩,GL,BL⟩:=B.o6;exact⟨Heap.zput_self B.g0 (fun e=>by cases e),(Heap.zput_ne B.g0 (by decide)).trans B.g1,B.o2,B.o4,B.o5,K,L,o6,⟨GK.keep fun _ _ _ hh=>hh,BK⟩,GL.keep fun _ _ _ hh=>hh,BL⟩
  have g8:∀ (h2:Heap) (g:Nat) (x:AObj),((h2.own 8 g x).own 8 g (.cells (pcells (eRow p.1 p.2)) 0)).get (.own 8 g)=some (.cells (pcells (eRow p.1 p.2)) 0):=fun h2 g x=>Heap.own_get _ 8 g _ (by decide) (fun e=>by cases e)
  generalize hZ:AObj.cells [(.p (.str [])),(.p (.int .i64 0)),(.p (.bool false)),(.p (.int .i64 0)),(.p (.str [])),(.p .nilslice),(.p .nilslice)] 0=Z8 ;cases i with
  |zero =>
   have z:¬ (0:Int)<((0:Nat):Int):=by decide
   have eq:eM l 1=eM l 0:=by simp[eM,hp]
   obtain⟨h',A',e'⟩:=step ((h.own 8 (h.gen 8+1) Z8).own 8 (h.gen 8+1) (.cells (pcells (eRow p.1 p.2)) 0)) (h.gen 8+1) (by rw[eq]; exact own8 h _ _ _ _ A) (g8 _ _ _);refine⟨h',A',?_⟩;rw[← e',w52_1,b52_1,← hZ];rw[Nat.zero_mul,List.drop_zero] at gp;simp (maxSteps:=9999999) +contextual only[exa,rA,rB,rD,rE,rF,rG,rH,rI,rJ,exW,exY,lt,lt2,A.g1,gp,pp,R1,PA,z,Int.toNat_natCast,if_false,Nat.zero_mul]
  |succ j =>
   obtain⟨q,hq⟩:∃ q,l[j]?=some q:=⟨l[j]'(by omega),by simp⟩;have gq:=qC9 l j q hq;have gq0:(pcells (eRows l))[j*7]?=some (.p (.str q.1)):=by
    have:(((pcells (eRows l)).drop (j*7)).take 7)[0]?=(pcells (eRows l))[j*7]?:=by
     rw[List.getElem?_take,if_pos (by decide),List.getElem?_drop,Nat.add_zero]
    rw[← this,gq]; rfl
   have z:(0:Int)<((j+1:Nat):Int):=by omega
   have ew:IntKind.i64.wrap (((j+1:Nat):Int) - 1)=((j:Nat):Int):=by rw[qAH _ (by omega) (by omega)]; omega
   have t3:(0:Int)≤((j:Nat):Int):=by omega
   have t4:(0:Int)≤((j+1:Nat):Int):=by omega
   have t5:j<l.length:=by omega
   have B:=own8 h _ (h.gen 8+1) Z8 (.cells (pcells (eRow p.1 p.2)) 0) A;have o58:((h.own 8 (h.gen 8+1) Z8).own 8 (h.gen 8+1) (.cells (pcells (eRow p.1 p.2)) 0)).get (.own 5 1)=some (.cells [.sref (.im 1) 0 l.length none 7] 0):=B.o5;have o28:((h.own 8 (h.gen 8+1) Z8).own 8 (h.gen 8+1) (.cells (pcells (eRow p.1 p.2)) 0)).get (.own 2 1)=some (boxO 0):=B.o2;by_cases hk:q.1=p.1
   ·by_cases he:eM l (j+1)=0
    ·have eq:eM l (j+1+1)=6:=by
      show(match l[j+1]? with|some p=>if eM l (j+1)≠0 then eM l (j+1) else (match l[j]? with|some q=>if q.1=p.1 then 6 else 0|none=>0)|none=>eM l (j+1))=6;simp[hp,hq,he,hk]
     rw[he] at B;have C:=putE _ _ 6 B;obtain⟨h',A',e'⟩:=step (((h.own 8 (h.gen 8+1) Z8).own 8 (h.gen 8+1) (.cells (pcells (eRow p.1 p.2)) 0)).put (.im 0) (rO t 6)) (h.gen 8+1) (by rw[eq]; exact C) (g8 h _ Z8);have u:=fun{β:Type} {k:TVal→Heap→Option β} {d:Nat}=>u28 (β:=β) (k:=k) (d:=d) (.im 0) t 6 B.g0
     refine⟨h',A',?_⟩;rw[← e',w52_1,b52_1];subst hZ;simp (maxSteps:=9999999) +contextual only[exa,rA,rB,rD,rE,rF,rG,rH,rI,rJ,exW,exY,lt,lt2,A.g1,A.o2,A.o5,gp,pp,R1,PA,z,t3,t4,t5,ew,gq0,hk,u,Int.toNat_natCast,if_false]
    ·have eq:eM l (j+1+1)=eM l (j+1):=by
      show(match l[j+1]? with|some p=>if eM l (j+1)≠0 then eM l (j+1) else (match l[j]? with|some q=>if q.1=p.1 then 6 else 0|none=>0)|none=>eM l (j+1))=_;simp[hp,he]
     have C:=putE _ _ (eM l (j+1)) B;obtain⟨h',A',e'⟩:=step (((h.own 8 (h.gen 8+1) Z8).own 8 (h.gen 8+1) (.cells (pcells (eRow p.1 p.2)) 0)).put (.im 0) (rO t (eM l (j+1)))) (h.gen 8+1) (by rw[eq]; exact C) (g8 h _ Z8);have u:=fun{β:Type} {k:TVal→Heap→Option β} {d:Nat}=>u28b (β:=β) (k:=k) (d:=d) (.im 0) t 6 (eM l (j+1)) he B.g0
     refine⟨h',A',?_⟩;rw[← e',w52_1,b52_1];subst hZ;simp (maxSteps:=9999999) +contextual only[exa,rA,rB,rD,rE,rF,rG,rH,rI,rJ,exW,exY,lt,lt2,A.g1,A.o2,A.o5,gp,pp,R1,PA,z,t3,t4,t5,ew,gq0,hk,u,Int.toNat_natCast,if_false]
   ·have eq:eM l (j+1+1)=eM l (j+1):=by
     show(match l[j+1]? with|some p=>if eM l (j+1)≠0 then eM l (j+1) else (match l[j]? with|some q=>if q.1=p.1 then 6 else 0|none=>0)|none=>eM l (j+1))=_;by_cases he:eM l (j+1)=0
     ·simp[hp,hq,he,hk]
     ·simp[hp,he]
    obtain⟨h',A',e'⟩:=step ((h.own 8 (h.gen 8+1) Z8).own 8 (h.gen 8+1) (.cells (pcells (eRow p.1 p.2)) 0)) (h.gen 8+1) (by rw[eq]; exact B) (g8 h _ Z8);refine⟨h',A',?_⟩;rw[← e',w52_1,b52_1];subst hZ;simp (maxSteps:=9999999) +contextual only[exa,rA,rB,rD,rE,rF,rG,rH,rI,rJ,exW,exY,lt,lt2,A.g1,A.o2,A.o5,gp,pp,R1,PA,z,t3,t4,t5,ew,gq0,hk,Int.toNat_natCast,if_false]
def tabV(l:Es):VT := .mk 5 false 0 [] (grown (l.map (·.1))) (grown (l.map (·.2)))
theorem qGL{β:Type}{O:Oracle}{k:TVal→Heap→Option β}{h:Heap}{d:Nat}(f:FuncId)(a b c:Ref):vop O (.mkfn f [.k (.v (.c (.ptr a 0))),.k (.v (.c (.ptr b 0))),.k (.v (.c (.ptr c 0)))]) h d k=k (.v (.c (.func f [a,b,c]))) h:=qAY _ _ rfl
theorem qQJ{h:Heap}{t:List UInt8}{e:Int}{l:Es}(A:TS h t e l l.length):lim tab.get S 52 1 3 [q4,q6] h=some (kA (tabV l).row,[rO t e]):=by
 obtain⟨K,L,o6,⟨GK,BK⟩,GL,BL⟩:=A.o6;rw[List.take_length] at BK BL;have P:∀ a b c d e f:Cell,put1 Z6 0 [a,b,c,d,e,f]=[a,b,c,d,e,f]:=fun _ _ _ _ _ _=>qAh _ _ rfl
 have fin:∀ h:Heap,h.get (.im 0)=some (rO t e)→vfin true 1 [.agg [.p (.int .i64 5),.p (.bool false),.p (.int .i64 0),.p (.str []),K,L]] h=some (kA (tabV l).row,[rO t e]):=by
  intro h hg;rw[qPm _ (rO t e) (by show([Cell.p (.int .i64 5),.p (.bool false),.p (.int .i64 0),.p (.str []),K,L].all isPT&&true)=true; simp only[List.all_cons,List.all_nil,BK.pt,BL.pt]; rfl) hg (qAJ t e)];show some (TVal.v (.agg [.p (.int .i64 5),.p (.bool false),.p (.int .i64 0),.p (.str []),K.strip,L.strip]),_)=_;rw[BK.strip,BL.strip];have e1:growP 1 (l.map kRow)=slP 1 sRow (grown (l.map (·.1))):=by
   rw[← qHJ,List.map_map]; rfl
  have e2:growP 6 (l.map vRow)=slP 6 VT.row (grown (l.map (·.2))):=by
   rw[← qHJ,List.map_map]; rfl
  rw[e1,e2];unfold tabV;rw[VT.row_eq];rfl
 rw[w52_3,b52_3];simp (maxSteps:=9999999) +contextual only[exa,rA,rB,rD,rE,rF,rG,rH,rI,rJ,exW,exY,o6,A.o4,P,Nat.le_refl,oneOf];exact fin _ A.g0
theorem qOB(s s1 t key:List UInt8)(v:VT)(d:Int)(es:Es)(E:Ent d (trimB s) key v s1)(T:Tail d (trimB s1) es t)(hn:es.length+1<20) :
  Om 52 [P0,kI d] [rO s 0]=some (kA (tabV (sortM es.length 1 ((key,v)::es))).row,[rO t (eM (sortM es.length 1 ((key,v)::es)) (es.length+1))]):=by
 refine(qAB rfl).trans ?_;show lim tab.get S 52 1 0 [P0,kI d] (Heap.mk [rO s 0] .nil)=_;have hL:=qDr;rw[w52_0,b52_0];simp (maxSteps:=9999999) +contextual only[exa,rA,rB,rD,rE,rF,rG,rH,rI,rJ,exW,exY,qGL,oneOf];generalize hh:(((((Heap.mk [rO s 0] .nil).own 2 1 (.cells [.ptr (.im 0) 0] 0)).own 3 1 (.cells [.p (.int .i64 d)] 0)).own 4 1 (.cells Z6 0)).own 5 1 (.cells [.p .nilslice] 0))=h;have F0:h.get (.im 0)=some (rO s 0):=by rw[← hh]; rfl
 have F2:h.get (.own 2 1)=some (boxO 0):=by rw[← hh]; rfl
 have F3:h.get (.own 3 1)=some (intO d):=by rw[← hh]; rfl
 have F4:h.get (.own 4 1)=some (.cells Z6 0):=by rw[← hh]; rfl
 have F5:h.get (.own 5 1)=some (.cells [.p .nilslice] 0):=by rw[← hh]; rfl
 have Fl:h.ims.length=1:=by rw[← hh]; rfl
 have F6:h.gen 6=0:=by rw[← hh]; rfl
 clear hh;have hr:reach h fuelReach ([P0,kS [125],.v (.c (.func 80 [.own 2 1,.own 3 1,.own 5 1]))].flatMap TVal.refs) []=[.im 0,.own 2 1,.own 3 1,.own 5 1]:=by
  show reach h (394+1+1+1+1+1+1) [.im 0,.own 2 1,.own 3 1,.own 5 1] []=_;rw[qAE _ (.im 0) _ _ _ (by decide) F0];show reach h (394+1+1+1+1+1) [.own 2 1,.own 3 1,.own 5 1] [.im 0]=_;rw[qAE _ (.own 2 1) _ _ _ (by decide) F2];show reach h (394+1+1+1+1) [.im 0,.own 3 1,.own 5 1] [.im 0,.own 2 1]=_;rw[qAu _ _ _ _ (by decide),qAE _ (.own 3 1) _ _ _ (by decide) F3];show reach h (394+1+1) [.own 5 1] [.im 0,.own 2 1,.own 3 1]=_;rw[qAE _ (.own 5 1) _ _ _ (by decide) F5];exact qAX _ _
 have hm:([.im 0,.own 2 1,.own 3 1,.own 5 1]:List Ref).mapM h.get=some [rO s 0,boxO 0,intO d,.cells [.p .nilslice] 0]:=by
  simp only[List.mapM_cons,List.mapM_nil,F0,F2,F3,F5,Option.pure_def,rM,Option.bind_some]
 have pl:=qAI (eRows ((key,v)::es)) 0;obtain⟨h1,hc,B⟩:=qBo (O:=Om) (h:=h) 50 [P0,kS [125],.v (.c (.func 80 [.own 2 1,.own 3 1,.own 5 1]))] _ [P0,kS [125],F80] _ _ _ _ _ (.tup []) rfl hr hm rfl rfl (qNb s s1 t key v d es E T (by omega)) (show(4:Nat)≤5 by decide) (by decide) rfl;have G0:h1.get (.im 0)=some (rO t 0):=B.own 0 (.im 0) _ rfl rfl (fun e=>by cases e);have G2:h1.get (.own 2 1)=some (boxO 0):=B.own 1 (.own 2 1) _ rfl rfl (fun e=>by cases e);have G4:h1.get (.own 4 1)=some (.cells Z6 0):=B.old (.own 4 1) _ (by decide) F4;have G5:h1.get (.own 5 1)=some (.cells [.sref (.im (h.ims.length+0)) 0 (1+es.length) none 7] 0):=B.own 3 (.own 5 1) _ rfl rfl (fun e=>by cases e);have G1:h1.get (.im (h.ims.length+0))=some (.cells (pcells (eRows ((key,v)::es))) 0):=B.new 0 _ (congrArg some (pl.2 _)) (fun e=>by cases e);have G6:h1.gen 6=0:=(B.gen 6).trans F6;rw[Fl] at G5 G1;rw[hc];rw[show 1+es.length=es.length+1 by omega] at G5;have c81:=fun{β:Type} {k:TVal→Heap→Option β} {e:Nat}=>qGZ (O:=Om) (k:=k) (d:=e) 81 (.im 1) [sE1 (es.length+1),F82] [sE0 (es.length+1),F82] _ _ (.tup []) rfl rfl rfl G1 (qAI _ 0) (qAI (eRows (sortM es.length 1 ((key,v)::es))) 0) (fun _=>rfl) (qRp (es.length+1) hn ((key,v)::es) rfl (by omega))
 simp (maxSteps:=9999999) +contextual only[exa,rA,rB,rD,rE,rF,rG,rH,rI,rJ,exW,exY,G5,oneOf];refine(c81).trans ?_;have K0:(h1.put (.im 1) (.cells (pcells (eRows (sortM es.length 1 ((key,v)::es)))) 0)).get (.im 0)=some (rO t 0):=(Heap.zput_ne G1 (by decide)).trans G0;have K1:(h1.put (.im 1) (.cells (pcells (eRows (sortM es.length 1 ((key,v)::es)))) 0)).get (.im 1)=some (.cells (pcells (eRows (sortM es.length 1 ((key,v)::es)))) 0):=Heap.zput_self G1 (fun e=>by cases e);have K2:(h1.put (.im 1) (.cells (pcells (eRows (sortM es.length 1 ((key,v)::es)))) 0)).get (.own 2 1)=some (boxO 0):=G2;have K4:(h1.put (.im 1) (.cells (pcells (eRows (sortM es.length 1 ((key,v)::es)))) 0)).get (.own 4 1)=some (.cells Z6 0):=G4;have K5:(h1.put (.im 1) (.cells (pcells (eRows (sortM es.length 1 ((key,v)::es)))) 0)).get (.own 5 1)=some (.cells [.sref (.im 1) 0 (es.length+1) none 7] 0):=G5;have K6:(h1.put (.im 1) (.cells (pcells (eRows (sortM es.length 1 ((key,v)::es)))) 0)).gen 6=0:=G6;have hlen:(sortM es.length 1 ((key,v)::es)).length=es.length+1:=by
  have:∀ (m i:Nat) (l:Es),(sortM m i l).length=l.length:=by
   intro m
   induction m with
   |zero=>intro i l; rfl
   |succ m ih=>intro i l; rw[sortM,ih,qDr]
  rw[this]; rfl
 generalize sortM es.length 1 ((key,v)::es)=Y at K0 K1 K2 K4 K5 K6 hlen ⊢;generalize h1.put (.im 1) (.cells (pcells (eRows Y)) 0)=h2 at K0 K1 K2 K4 K5 K6;simp (maxSteps:=9999999) +contextual only[exa,rA,rB,rD,rE,rF,rG,rH,rI,rJ,exW,exY,K5,K6,oneOf];have A:TS ((h2.own 6 1 (.cells Z6 0)).own 6 1 (.cells [.p (.int .i64 5),.p (.bool false),.p (.int .i64 0),.p (.str []),.p .nilslice,.p .nilslice] 0)) t (eM Y 0) Y 0:=by
  have k:∀ (d:Nat) (o x y:AObj),d≠6→h2.get (.own d 1)=some o→((h2.own 6 1 x).own 6 1 y).get (.own d 1)=some o:=fun d o x y hd ho=>by rw[Heap.own_get_ne _ _ _ _ _ _ (Ne.symm hd),Heap.own_get_ne _ _ _ _ _ _ (Ne.symm hd),ho]
  exact⟨K0,K1,k 2 _ _ _ (by decide) K2,k 4 _ _ _ (by decide) K4,by rw[hlen]; exact k 5 _ _ _ (by decide) K5,.p .nilslice,.p .nilslice,Heap.own_get _ 6 1 _ (by decide) (fun e=>by cases e),⟨.inl ⟨rfl,rfl⟩,.inl ⟨rfl,rfl⟩⟩,.inl ⟨rfl,rfl⟩,.inl ⟨rfl,rfl⟩⟩
 obtain⟨h3,A3,e3⟩:=tab1 (h:=h2) (t:=t) (l:=Y) (by omega) Y.length 0 _ (by omega) A;rw[hlen] at e3 A3;refine e3.trans ?_;have:=qQJ (l:=Y) (by rw[hlen]; exact A3);exact this
theorem qRM:Om 81 [.v (.c (.p .nilslice)),F82] []=some (.tup [],[]):=(qAB rfl).trans (qBH blks_ok 300 81 0 0 _ _ _ (by kernel_rfl))
theorem qOn(s t:List UInt8)(d:Int)(hs:trimB s=125::t):Om 52 [P0,kI d] [rO s 0]=some (kA (tabV []).row,[rO t 0]):=by
 refine(qAB rfl).trans ?_;show lim tab.get S 52 1 0 [P0,kI d] (Heap.mk [rO s 0] .nil)=_;rw[w52_0,b52_0];simp (maxSteps:=9999999) +contextual only[exa,rA,rB,rD,rE,rF,rG,rH,rI,rJ,exW,exY,qGL,oneOf];generalize hh:(((((Heap.mk [rO s 0] .nil).own 2 1 (.cells [.ptr (.im 0) 0] 0)).own 3 1 (.cells [.p (.int .i64 d)] 0)).own 4 1 (.cells Z6 0)).own 5 1 (.cells [.p .nilslice] 0))=h;have F0:h.get (.im 0)=some (rO s 0):=by rw[← hh]; rfl
 have F2:h.get (.own 2 1)=some (boxO 0):=by rw[← hh]; rfl
 have F3:h.get (.own 3 1)=some (intO d):=by rw[← hh]; rfl
 have F4:h.get (.own 4 1)=some (.cells Z6 0):=by rw[← hh]; rfl
 have F5:h.get (.own 5 1)=some (.cells [.p .nilslice] 0):=by rw[← hh]; rfl
 have F6:h.gen 6=0:=by rw[← hh]; rfl
 clear hh;have hr:reach h fuelReach ([P0,kS [125],.v (.c (.func 80 [.own 2 1,.own 3 1,.own 5 1]))].flatMap TVal.refs) []=[.im 0,.own 2 1,.own 3 1,.own 5 1]:=by
  show reach h (394+1+1+1+1+1+1) [.im 0,.own 2 1,.own 3 1,.own 5 1] []=_;rw[qAE _ (.im 0) _ _ _ (by decide) F0];show reach h (394+1+1+1+1+1) [.own 2 1,.own 3 1,.own 5 1] [.im 0]=_;rw[qAE _ (.own 2 1) _ _ _ (by decide) F2];show reach h (394+1+1+1+1) [.im 0,.own 3 1,.own 5 1] [.im 0,.own 2 1]=_;rw[qAu _ _ _ _ (by decide),qAE _ (.own 3 1) _ _ _ (by decide) F3];show reach h (394+1+1) [.own 5 1] [.im 0,.own 2 1,.own 3 1]=_;rw[qAE _ (.own 5 1) _ _ _ (by decide) F5];exact qAX _ _
 have hm:([.im 0,.own 2 1,.own 3 1,.own 5 1]:List Ref).mapM h.get=some [rO s 0,boxO 0,intO d,.cells [.p .nilslice] 0]:=by
  simp only[List.mapM_cons,List.mapM_nil,F0,F2,F3,F5,Option.pure_def,rM,Option.bind_some]
 obtain⟨h1,hc,B⟩:=qBo (O:=Om) (h:=h) 50 [P0,kS [125],.v (.c (.func 80 [.own 2 1,.own 3 1,.own 5 1]))] _ [P0,kS [125],F80] _ _ _ _ _ (.tup []) rfl hr hm rfl rfl (qOd s t d hs) (Nat.le_refl 4) (by decide) rfl;have G0:h1.get (.im 0)=some (rO t 0):=B.own 0 (.im 0) _ rfl rfl (fun e=>by cases e);have G4:h1.get (.own 4 1)=some (.cells Z6 0):=B.old (.own 4 1) _ (by decide) F4;have G5:h1.get (.own 5 1)=some (.cells [.p .nilslice] 0):=B.own 3 (.own 5 1) _ rfl rfl (fun e=>by cases e);have G6:h1.gen 6=0:=(B.gen 6).trans F6;have c81:∀ {β:Type}{k:TVal→Heap→Option β}{h:Heap}{e:Nat},vcall Om (.v (.c (.func 81 []))) [.v (.c (.p .nilslice)),F82] h e k=k (.tup []) h:=fun{β k h e}=>by
  have e2:reach h fuelReach ([TVal.v (.c (.p .nilslice)),F82].flatMap TVal.refs) []=[]:=qAX _ _;rw[qEW 81 _ _ _ [] [] [] [] (.tup []) rfl e2 rfl rfl rfl qRM (Nat.le_refl _)];rfl
 have z:¬ (0:Int)<(0:Int):=by decide
 have P:∀ a b c d e f:Cell,put1 Z6 0 [a,b,c,d,e,f]=[a,b,c,d,e,f]:=fun _ _ _ _ _ _=>qAh _ _ rfl
 rw[hc];simp (maxSteps:=9999999) +contextual only[exa,rA,rB,rD,rE,rF,rG,rH,rI,rJ,exW,exY,G5,c81,G6,oneOf];rw[w52_1,b52_1];simp (maxSteps:=9999999) +contextual only[exa,rA,rB,rD,rE,rF,rG,rH,rI,rJ,exW,exY,z,if_false,oneOf];rw[w52_3,b52_3];simp (maxSteps:=9999999) +contextual only[exa,rA,rB,rD,rE,rF,rG,rH,rI,rJ,exW,exY,G4,P,Nat.le_refl,oneOf];exact qAb true [.agg (pcells (tabV []).row)] _ (by simp only[exP]) G0 (qAJ t 0)
def Aft(t:List UInt8):Prop:=∀ b,t[0]?=some b→isD b=false∧b.toNat<128
theorem notD{b:UInt8}(h:isD b=false):b.toNat<48∨57<b.toNat:=by
 unfold isD at h;rw[Bool.and_eq_false_iff,decide_eq_false_iff_not,decide_eq_false_iff_not] at h;omega
theorem qMc(ds t:List UInt8)(ht:Aft t)(hd:∀ b∈ds,isD b=true)(hz:ds[0]?=some 48→ds.length=1)(hn:ds≠[]):Om 76 [kS (ds++t)] []=some (kI (ds.length:Int),[]):=by
 cases t with
 |nil=>rw[List.append_nil]; exact qOF ds hd hz hn
 |cons c t =>
  obtain⟨hc1,hc2⟩:=ht c rfl;refine(qAB rfl).trans ?_;show lim tab.get S 76 0 0 [kS (ds++c::t)] h0=_;rw[w76_0,b76_0,qGQ];obtain⟨b0,hb0⟩:∃ b,ds[0]?=some b:=⟨ds[0]'(by cases ds with|nil=>exact absurd rfl hn|cons a l=>simp),by simp⟩;have hb0':(ds++c::t)[0]?=some b0:=by rw[List.getElem?_append_left (List.getElem?_eq_some_iff.1 hb0).1]; exact hb0
  have ll:(ds++c::t).length=ds.length+(t.length+1):=by simp
  have loop:∀ (m pos:Nat) (h:Heap),ds.length - pos=m→pos≤ds.length→h.get (.own 6 1)=some (.siter (ds++c::t) pos)→lim tab.get S 76 0 1 [kS (ds++c::t),.v (.c (.ptr (.own 6 1) 0))] h=some (kI (ds.length:Int),[]):=by
   intro m
   induction m with
   |zero =>
    intro pos h hm hl hh;have hp:pos=ds.length:=by omega
    have hb:(ds++c::t)[pos]?=some c:=by rw[hp,List.getElem?_append_right (Nat.le_refl _),Nat.sub_self]; rfl
    have hf:vfin true 0 [.c (.p (.int .i64 (ds.length:Int)))] (h.put (.own 6 1) (.siter (ds++c::t) (pos+1)))=some (kI (ds.length:Int),[]):=qAV _ _ rfl;rw[w76_1,b76_1,qCL (ds++c::t) pos _ hh (by omega),qAs _ 0 (.c (.p (.bool true))) rfl,qB0,qCZ (ds++c::t) pos c hb hc2,qAs _ 1 (.c (.p (.int .i64 (pos:Int)))) rfl,qAs _ 2 (.c (.p (.int .i32 (c.toNat:Int)))) rfl]
    rcases notD hc1 with h1|h1
    ·have r1:((c.toNat:Nat):Int)<48:=by omega
     simp (maxSteps:=9999999) +contextual only[exa,rA,rB,rD,rE,rF,rG,rH,rI,rJ,r1,hp,oneOf]
    ·have r1:¬ ((c.toNat:Nat):Int)<48:=by omega
     have r2:(57:Int)<((c.toNat:Nat):Int):=by omega
     simp (maxSteps:=9999999) +contextual only[exa,rA,rB,rD,rE,rF,rG,rH,rI,rJ,r1,r2,hp,oneOf]
   |succ m ih =>
    intro pos h hm hl hh;obtain⟨b,hb1⟩:∃ b,ds[pos]?=some b:=⟨ds[pos]'(by omega),by simp⟩;have hb:(ds++c::t)[pos]?=some b:=by rw[List.getElem?_append_left (by omega)]; exact hb1
    obtain⟨q1,q2⟩:=qET (hd b (List.mem_of_getElem? hb1));have r1:¬ ((b.toNat:Nat):Int)<48:=by omega
    have r2:¬ (57:Int)<((b.toNat:Nat):Int):=by omega
    have ih:=ih (pos+1) (h.own 6 1 (.siter (ds++c::t) (pos+1))) (by omega) (by omega) (Heap.own_get h 6 1 _ (by decide) (fun e=>by cases e));rw[w76_1,b76_1,qCL (ds++c::t) pos _ hh (by omega),qAs _ 0 (.c (.p (.bool true))) rfl,qB0,qCZ (ds++c::t) pos b hb (by omega),qAs _ 1 (.c (.p (.int .i64 (pos:Int)))) rfl,qAs _ 2 (.c (.p (.int .i32 (b.toNat:Int)))) rfl];by_cases hp:(pos:Int)=1
    ·have h2:¬ ((b0.toNat:Nat):Int)=48:=fun e=>by
      have e2:b0=48:=UInt8.toNat_inj.1 (by show b0.toNat=48; omega);have:=hz (by rw[hb0,e2]);omega
     simp (maxSteps:=9999999) +contextual only[exa,rA,rB,rD,rE,rF,rG,rH,rI,rJ,r1,r2,hp,hb0',h2,ih,oneOf]
    ·simp (maxSteps:=9999999) +contextual only[exa,rA,rB,rD,rE,rF,rG,rH,rI,rJ,r1,r2,hp,ih,oneOf]
  refine(loop ds.length 0 _ (by omega) (by omega) (Heap.own_get _ 6 1 _ (by decide) (fun e=>by cases e))).trans ?_;rfl
theorem u76G{β:Type}{k:TVal→Heap→Option β}{h:Heap}{d:Nat}(ds t:List UInt8)(ht:Aft t)(hd:∀ b∈ds,isD b=true)(hz:ds[0]?=some 48→ds.length=1)(hn:ds≠[]):vcall Om (.v (.c (.func 76 []))) [kS (ds++t)] h d k=k (kI (ds.length:Int)) h:=qAC 76 _ _ rfl (qMc ds t ht hd hz hn) rfl
theorem qSh(t:List UInt8)(b:Bool)(ds:List UInt8)(x:Nat)(hx:x≤lim53 b)(hl:ds.length≤19)(h:Heap)(hg:h.get (.im 0)=some (rO (ds++t) 0))(h2:h.get (.own 2 1)=some (.cells Z6 0)) :
  lim tab.get S 53 1 5 [P0,R2,kB b,kI (ds.length:Int),kN .u64 (x:Int)] h=some (kA (numV (sgn b x)).row,[rO t 0]):=by
 have sl:∀ {β:Type}{k:TVal→Heap→Option β}{hh:Heap}{d:Nat},vop Om (.slice 0 true (.k (kS (ds++t))) (some (.k (kI (ds.length:Int)))) none none) hh d k=k (kS t) hh:=fun{β k hh d}=>(qDj (ds++t) ds.length (by simp)).trans (by rw[List.drop_left])
 have fin:∀ (n:Int) (o:AObj),vfin true 1 [.agg (pcells (numV n).row)] ((h.put (.im 0) (rO t 0)).own 2 1 o)=some (kA (numV n).row,[rO t 0]):=fun n o=>qAb true [.agg (pcells (numV n).row)] _ (by simp only[exP]) ((Heap.own_get_im _ _ _ _ _).trans (qAP h 0 _ _ (by rw[hg]; rfl))) (qAJ t 0)
 rw[w53_5,b53_5];cases b
 ·have hx:x≤9223372036854775807:=hx;have e1:IntKind.i64.wrap (x:Int)=(x:Int):=qAH _ (by omega) (by omega);simp (maxSteps:=9999999) +contextual only[exa,rA,rB,rD,rE,rF,rG,rH,rI,rJ,exY,hg,h2,sl,qAe,qAd,qC8,qDU,qAW,e1,oneOf];exact fin x _
 ·have hx:x≤9223372036854775808:=hx;simp (maxSteps:=9999999) +contextual only[exa,rA,rB,rD,rE,rF,rG,rH,rI,rJ,exY,hg,h2,sl,qAe,qAd,qC8,qDU,qAW,qOJ x hx,oneOf];exact fin (-(x:Int)) _
theorem qSl(t:List UInt8)(b:Bool)(ds:List UInt8)(x:Nat)(hx:x≤lim53 b)(hl:ds.length≤19)(h:Heap)(hg:h.get (.im 0)=some (rO (ds++t) 0))(h2:h.get (.own 2 1)=some (.cells Z6 0)) :
  lim tab.get S 53 1 4 [P0,R2,kB b,kI (ds.length:Int),kN .u64 (x:Int),kN .u64 (lim53 b:Int)] h=some (kA (numV (sgn b x)).row,[rO t 0]):=by
 rw[w53_4,b53_4,qIt,qDP,if_neg (by rw[decide_eq_true_eq]; omega)];exact qSh t b ds x hx hl h hg h2
theorem qPf(t:List UInt8)(b:Bool)(ds:List UInt8)(hd:∀ b∈ds,isD b=true)(hx:valD ds 0≤lim53 b)(hl:ds.length≤19):∀ (m pos:Nat) (h:Heap),ds.length - pos=m→pos≤ds.length→h.get (.own 36 1)=some (.siter ds pos)→h.get (.im 0)=some (rO (ds++t) 0)→h.get (.own 2 1)=some (.cells Z6 0) →
  lim tab.get S 53 1 3 [P0,R2,kB b,kI (ds.length:Int),kN .u64 (valD (ds.take pos) 0:Int),kN .u64 (lim53 b:Int),.v (.c (.ptr (.own 36 1) 0))] h=some (kA (numV (sgn b (valD ds 0))).row,[rO t 0])
 |0,pos,h,hm,hp,hh,hg,h2=>by
  rw[w53_3,b53_3,qFo ds pos _ hh (by omega),qAs _ 0 (.c (.p (.bool false))) rfl,qCr];have:ds.take pos=ds:=List.take_of_length_le (by omega);rw[this];exact qSl t b ds _ hx hl _ hg ((Heap.own_get_ne h 36 1 _ 2 1 (by decide)).trans h2)
 |m+1,pos,h,hm,hp,hh,hg,h2=>by
  obtain⟨c,hc⟩:∃ c,ds[pos]?=some c:=⟨ds[pos]'(by omega),by simp⟩;have hcd:=hd c (List.mem_of_getElem? hc);obtain⟨q1,q2⟩:=qET hcd;have htk:ds.take (pos+1)=ds.take pos++[c]:=by rw[List.take_add_one,hc]; rfl
  have hx1:=qKD (ds.take (pos+1)) 0 (fun c hc=>hd c (List.mem_of_mem_take hc));have hx2:(10:Nat) ^ (ds.take (pos+1)).length≤10 ^ 19:=Nat.pow_le_pow_right (by decide) (by simp; omega);have pw:(10:Nat) ^ 19=10000000000000000000:=by decide
  rw[htk,qHE] at hx1;rw[htk] at hx2
  rw[w53_3,b53_3,qCL ds pos _ hh (by omega),qAs _ 0 (.c (.p (.bool true))) rfl,qB0,qCZ ds pos c hc (by omega),qAs _ 2 (.c (.p (.int .i32 (c.toNat:Int)))) rfl,
   qHf,qCg _ (by omega) (by omega),qH1]
  have e1:IntKind.i32.wrap ((c.toNat:Int) - 48)=(c.toNat:Int) - 48:=qAO .i32 _ (by show(-2147483648:Int)≤_; omega) (by show _≤(2147483647:Int); omega);rw[e1,qHi,qCg _ (by omega) (by omega),qCh,qCg _ (by omega) (by omega)];have e2:(10*(valD (ds.take pos) 0:Int)+((c.toNat:Int) - 48))=(valD (ds.take (pos+1)) 0:Int):=by rw[htk,qHE]; omega
  rw[e2];exact qPf t b ds hd hx hl m (pos+1) _ (by omega) (by omega) (Heap.own_get h 36 1 _ (by decide) (fun e=>by cases e)) hg ((Heap.own_get_ne h 36 1 _ 2 1 (by decide)).trans h2)
theorem qSg(t:List UInt8)(b:Bool)(ds:List UInt8)(hd:∀ b∈ds,isD b=true)(hx:valD ds 0≤lim53 b)(hl:ds.length≤19)(h:Heap)(hgen:h.gen 36=0)(hg:h.get (.im 0)=some (rO (ds++t) 0))(h2:h.get (.own 2 1)=some (.cells Z6 0)) :
  lim tab.get S 53 1 1 [P0,R2,kB b,kI (ds.length:Int)] h=some (kA (numV (sgn b (valD ds 0))).row,[rO t 0]):=by
 have two:lim tab.get S 53 1 2 [P0,R2,kB b,kI (ds.length:Int),kN .u64 ((0:Nat):Int),kN .u64 (lim53 b:Int)] h=some (kA (numV (sgn b (valD ds 0))).row,[rO t 0]):=by
  have mm:¬ (19:Int)<(ds.length:Int):=by omega
  have sl:∀ {β:Type}{k:TVal→Heap→Option β}{hh:Heap}{d:Nat},vop Om (.slice 0 true (.k (kS (ds++t))) none (some (.k (kI (ds.length:Int)))) none) hh d k=k (kS ds) hh:=fun{β k hh d}=>(qBQ (ds++t) ds.length (by simp)).trans (by rw[List.take_left])
  rw[w53_2,b53_2];simp (maxSteps:=9999999) +contextual only[exa,rA,rB,rD,rE,rF,rG,rH,rI,rJ,exY,hg,qAe,qAd,qAW,mm,sl,qGQ,hgen,if_false,oneOf];exact qPf t b ds hd hx hl ds.length 0 _ (by omega) (by omega) (Heap.own_get _ 36 1 _ (by decide) (fun e=>by cases e)) hg ((Heap.own_get_ne _ 36 1 _ 2 1 (by decide)).trans h2)
 rw[w53_1,b53_1];cases b
 ·rw[qCr]; exact two
 ·rw[qB0,qCh]; exact two
theorem qPF(b:Bool)(ds t:List UInt8):numT b ds++t=numT b (ds++t):=by cases b <;> rfl
theorem qRl(t:List UInt8)(ht:Aft t)(b:Bool)(ds:List UInt8)(H:NumOk b ds):Om 53 [P0] [rO (numT b ds++t) 0]=some (kA (numV (sgn b (valD ds 0))).row,[rO t 0]):=by
 rw[qPF];refine(qAB rfl).trans ?_;show lim tab.get S 53 1 0 [P0] { ims:=[rO (numT b (ds++t)) 0],owns := .nil }=_;have c:=fun{β:Type} {k:TVal→Heap→Option β} {h:Heap} {d:Nat}=>u76G (β:=β) (k:=k) (h:=h) (d:=d) ds t ht H.hd H.hz H.hn
 have n0:¬ ((ds.length:Nat):Int)=0:=by have:=List.length_pos_iff.2 H.hn; omega
 have n1:¬ (19:Int)<((ds.length:Nat):Int):=by have:=H.hl; omega
 have t1:(if (numT b (ds++t)).take ([45]:List UInt8).length=[45] then (numT b (ds++t)).drop ([45]:List UInt8).length else numT b (ds++t))=ds++t∧decide ((numT b (ds++t)).take ([45]:List UInt8).length=[45])=b:=by
  obtain⟨x,l,e,h|h⟩:=qDY H
  ·obtain⟨rfl,rfl,rfl⟩:=h;exact⟨rfl,rfl⟩
  ·obtain⟨rfl,h1,h2⟩:=h;have:¬ ([x]:List UInt8)=[45]:=fun e=>by
    have e2:x=45:=by simpa using e
    rw[e2] at h1; exact absurd h1 (by decide)
   rw[← h2];show(if [x]=[45] then _ else _)=_∧decide ([x]=[45])=false;rw[if_neg this];exact⟨rfl,decide_eq_false this⟩
 have u:=fun(k:TVal→Heap→Option (TVal×List AObj))=>u48 (k:=k) (d:=10) (h:=(Heap.mk [rO (numT b (ds++t)) 0] .nil).own 2 1 (.cells Z6 0)) (.im 0) (numT b (ds++t)) [45] rfl
 simp only[t1.1,t1.2] at u;have hput:((Heap.mk [rO (numT b (ds++t)) 0] .nil).own 2 1 (.cells Z6 0)).put (.im 0) (rO (ds++t) 0)=(Heap.mk [rO (ds++t) 0] .nil).own 2 1 (.cells Z6 0):=rfl;simp only[hput] at u;have hg:((Heap.mk [rO (ds++t) 0] .nil).own 2 1 (.cells Z6 0)).get (.im 0)=some (rO (ds++t) 0):=rfl;rw[w53_0,b53_0,qNR];show vcall Om (.v (.c (.func 48 []))) [P0,kS [45]] ((Heap.mk [rO (numT b (ds++t)) 0] .nil).own 2 1 (.cells Z6 0)) 10 _=_;rw[u];simp (maxSteps:=9999999) +contextual only[exa,rA,rB,rD,rE,rF,rG,rH,rI,rJ,exY,hg,qAe,qAd,qAW,c,n0,n1,if_false,oneOf];exact qSg t b ds H.hd H.hx H.hl _ rfl hg rfl
end Go.Proofs.YtiahgnkffnokfaaGreatDoor.Ab
namespace Go.AI
section
variable {β:Type} {O:Oracle} {h:Heap} {d:Nat} {k:TVal→Heap→Option β} {kt:TVal→Heap→Touch→Option β}
theorem qJj(g:FuncId)(r:Ref)(x v:TVal)(o o':AObj)(hx:pT x=true)(hv:pT v=true)(hg:h.get r=some o)(ho:plainO o)(ho':plainO o')(hc:O g [.v (.c (.ptr (.im 0) 0)),x] [o]=some (v,[o'])) :
  vtouch O (.call (.k (.v (.c (.func g [])))) [.k (.v (.c (.ptr r 0))),.k x]) h d kt=kt v (h.put r o') ⟨[r.site,r.site],[r.site],false⟩:=by
 obtain⟨q1,q2,q3,q4⟩:=qAm hx;obtain⟨p1,p2,p3,p4⟩:=qAm hv;have e2:reach h fuelReach ([TVal.v (.c (.ptr r 0)),x].flatMap TVal.refs) []=[r]:=by
  rw[List.flatMap_cons,List.flatMap_cons,List.flatMap_nil,q1];show reach h (398+1+1) [r] []=_;rw[qAE _ r [] [] o (by simp) hg,ho.1];exact qAX _ _
 have e3:([r]:List Ref).mapM h.get=some [o]:=by simp only[List.mapM_cons,List.mapM_nil,hg,Option.pure_def,rM,Option.bind_some]
 have ir:inn [r] r=some (.im 0):=by simp[inn,idx]
 have e4:([TVal.v (.c (.ptr r 0)),x]).map (TVal.ren (inn [r]))=[.v (.c (.ptr (.im 0) 0)),x]:=by
  show [TVal.v (.c (match inn [r] r with|some s => .ptr s 0|none => .junk)),x.ren (inn [r])]=_;rw[ir,q3]
 have co:=qHz (d:=d) (h:=h) (O:=O) g [.v (.c (.ptr r 0)),x] [.v (.c (.ptr r 0)),x] _ [r] [o] [o] [o'] v (by show [_,x.strip]=_; rw[q2]; rfl) e2 e3 e4 (by rw[List.map_cons,ho.2]; rfl) hc (Nat.le_refl _);have hp:plan .nil (.call (.k (.v (.c (.func g [])))) [.k (.v (.c (.ptr r 0))),.k x])=some (.call g [.v (.c (.ptr r 0)),x]):=rfl;show bnd (plan2 (.call (.k (.v (.c (.func g [])))) [.k (.v (.c (.ptr r 0))),.k x]) .nil) (fun p=>bnd (p.exec O d h) fun x=>kt x.1 x.2.1 x.2.2)=_;rw[qAp,hp];show bnd (callOp O g [.v (.c (.ptr r 0)),x] d h) _=_;rw[co,bnd_some];have h1:hAfter h [r] [o']=h.put r o':=by show h.put r (o'.ren _)=_; rw[ho'.2]
 have h2:gTouch h [.v (.c (.ptr r 0)),x] [o] [r] [o']=⟨[r.site,r.site],[r.site],false⟩:=by
  unfold gTouch;rw[List.flatMap_cons,List.flatMap_cons,List.flatMap_nil,q1,List.flatMap_cons,List.flatMap_nil,ho.1];rfl
 dsimp only;rw[h1,h2,p3]
theorem qLk(z0 z1 z2 z3 z4 z5:Cell):vtouch O (.bslice 6 1 [z0,z1,z2,z3,z4,z5] [(0,.k (.v (.agg [z0,z1,z2,z3,z4,z5])))] true) h d kt=kt (.v (.c (.sref (.im h.ims.length) 0 1 (some 1) 6))) (h.push (.cells [z0,z1,z2,z3,z4,z5] 0)) ⟨[],[.im h.ims.length],true⟩ :=
 qCP _ [] _ _ _ _ rfl rfl
theorem qKd{sz by':Nat}{j lb:Nat}{capb:Option Nat}{ys:List Cell}{ib:Nat}(hb:lb≠0)(hm:lb*by'≤1099511627776)(gb:h.get (.im j)=some (.cells ys ib))(ly:ys.length=lb*sz) :
  vtouch O (.append sz by' true (.k (.v (.c (.p .nilslice)))) (.k (.v (.c (.sref (.im j) 0 lb capb sz))))) h d kt=kt (.v (.c (.sref (.im h.ims.length) 0 lb none sz))) (h.push (.cells ys 0)) ⟨[.im j],[.im h.ims.length],true⟩:=by
 have ea:appendTo sz by' true (.v (.c (.p .nilslice))) none ys lb=some ⟨fun r => .v (.c (.sref r 0 lb none sz)),[],some (.cells ys 0),true⟩:=by
  unfold appendTo;rw[if_neg hb];dsimp only;unfold freshRow;rw[if_pos rfl,if_pos (by omega)]
 refine qCP _ [.im j] _ _ _ _ rfl ?_;unfold goOp;simp only[List.mapM_cons,List.mapM_nil,gb,Option.pure_def,rM,Option.bind_some,dstRef,srcRef,splitNeeds,qDk sz j lb capb ys ib ly,ea];rfl
theorem qK6{sz by':Nat}{i j la lb:Nat}{capb:Option Nat}{xs ys:List Cell}{ib:Nat}(hb:lb≠0)(hm:(la+lb)*by'≤1099511627776)(ga:h.get (.im i)=some (.cells xs 0))(gb:h.get (.im j)=some (.cells ys ib))(lx:xs.length=la*sz)(ly:ys.length=lb*sz) :
  vtouch O (.append sz by' true (.k (.v (.c (.sref (.im i) 0 la none sz)))) (.k (.v (.c (.sref (.im j) 0 lb capb sz))))) h d kt=kt (.v (.c (.sref (.im h.ims.length) 0 (la+lb) none sz))) ((h.put (.im i) .dead).push (.cells (xs++ys) 0)) ⟨[.im i,.im j],[.im h.ims.length,.im i],true⟩:=by
 have ea:appendTo sz by' true (.v (.c (.sref (.im i) 0 la none sz))) (some (.cells xs 0)) ys lb=some ⟨fun r => .v (.c (.sref r 0 (la+lb) none sz)),[(.im i,.dead)],some (.cells (xs++ys) 0),true⟩:=by
  unfold appendTo;rw[if_neg hb];dsimp only;rw[if_pos ⟨rfl,by omega,by omega⟩,if_pos (by omega),List.drop_zero,List.take_of_length_le (by omega)]
 have hl:(h.put (.im i) .dead).ims.length=h.ims.length:=by show(h.ims.set i .dead).length=_; rw[List.length_set]
 refine qCP _ [.im i,.im j] _ _ _ _ rfl ?_;unfold goOp;simp only[List.mapM_cons,List.mapM_nil,ga,gb,Option.pure_def,rM,Option.bind_some,dstRef,srcRef,splitNeeds,qDk sz j lb capb ys ib ly,ea];simp[hl];exact⟨rfl,⟨rfl,rfl⟩,rfl⟩
theorem qQh(j sz:Nat)(a:List PVal)(rows:List (List PVal))(o:AObj)(hz:∀ r∈rows,r.length=sz)(hj0:j≠0)(hg:h.get (.im 0)=some o)(ho:plainO o)(hj:h.get (.im j)=some (.cells (pcells rows.flatten) 0)) :
  vfin true 1 [.agg (pcells a++[Cell.sref (.im j) 0 rows.length none sz])] h=some (.v (.agg (pcells (a++[.slice sz false rows]))),[o]):=by
 letI:Sym:=⟨fun _=>0⟩
 rw[qDL];have e1:(pcells a++[Cell.sref (.im j) 0 rows.length none sz]).mapM (freeze h fuelFreeze)=some ((a.map fun x=>(x,[]))++[(.slice sz false rows,[.im j])]):=by
  rw[List.mapM_append,show fuelFreeze=29+1 from rfl,qIF,List.mapM_cons,show(29+1:Nat)=28+2 from rfl,qKf 28 j sz none rows hz hj];rfl
 have e2:((a.map fun x=>(x,([]:List Ref)))++[(PVal.slice sz false rows,[Ref.im j])]).map (fun y=>Cell.p y.1)=pcells (a++[.slice sz false rows]):=by
  unfold pcells; rw[List.map_append,List.map_append,List.map_map]; rfl
 have e3:((a.map fun x=>(x,([]:List Ref)))++[(PVal.slice sz false rows,[Ref.im j])]).flatMap (·.2)=[Ref.im j]:=by
  rw[List.flatMap_append];have:∀ a:List PVal,(a.map fun x=>(x,([]:List Ref))).flatMap (·.2)=[]:=fun a=>by induction a with|nil=>rfl|cons x a ih=>rw[List.map_cons,List.flatMap_cons,ih]; rfl
  rw[this]; rfl
 have ef:freezeT h (oneOf [.agg (pcells a++[Cell.sref (.im j) 0 rows.length none sz])])=some (.v (.agg (pcells (a++[.slice sz false rows]))),[Ref.im j]):=by
  show((freezeC h _).map _)=_;show((((pcells a++[Cell.sref (.im j) 0 rows.length none sz]).mapM (freeze h fuelFreeze)).map _).map _)=_;rw[e1];show some (TVal.v (.agg (List.map (fun y:PVal×List Ref=>Cell.p y.1) _)),(List.flatMap (fun x:PVal×List Ref=>x.2) _:List Ref))=_;rw[e2,e3]
 obtain⟨q1,q2,q3,q4⟩:=qAm (show pT (.v (.agg (pcells (a++[.slice sz false rows]))))=true from qLt _);obtain⟨h2,hs,hg'⟩:∃ h2,settle h [Ref.im j]=h2∧h2.get (.im 0)=some o:=by
  refine⟨h.put (.im j) (.cells (pcells rows.flatten) (max 0 (pcells rows.flatten).length)),by unfold settle; rw[hj]; rfl,?_⟩;rw[Heap.zput_ne hj (fun e=>by cases e; exact hj0 rfl)]; exact hg
 unfold finV;rw[show ims 1=[Ref.im 0] from rfl];simp[ef,hs,hg',q1,q3,ho.1,ho.2,reach,fuelReach]
end
end Go.AI
namespace Go.Proofs.YtiahgnkffnokfaaGreatDoor.Ab
open Go Go.AI
def Rd(d:Int)(s:List UInt8)(v:VT)(t:List UInt8):Prop:=Om 26 [P0,kI d] [rO s 0]=some (kA v.row,[rO t 0])
abbrev oL(L:Cell):AObj := .cells [.p (.int .i64 4),.p (.bool false),.p (.int .i64 0),.p (.str []),.p .nilslice,L] 0
abbrev pI(i:Nat):TVal := .v (.c (.ptr (.im i) 0))
theorem qRF(d:Int)(hd:0≤d∧d≤100)(s t:List UInt8)(v:VT)(H:Rd (d+1) s v t) :
  Om 51 [P0,pI 1,pI 3] [oL (.p .nilslice),boxO 2,rO s 0,intO d]=some (.tup [],[oL (.sref (.im 4) 0 1 none 6),boxO 2,rO t 0,intO d,.cells (pcells v.row) 0]):=by
 refine(qAB rfl).trans ?_;show lim tab.get S 51 4 0 [P0,pI 1,pI 3] (Heap.mk [oL (.p .nilslice),boxO 2,rO s 0,intO d] .nil)=_;have ed:IntKind.i64.wrap (d+1)=d+1:=qAH _ (by omega) (by omega);obtain⟨a1,a2,a3,a4,a5,a6,ha⟩:=qDG v;have H':=H;unfold Rd at H';rw[ha] at H';rw[ha];have pr:pcells [a1,a2,a3,a4,a5,a6]=[.p a1,.p a2,.p a3,.p a4,.p a5,.p a6]:=rfl;have c26:∀ {β:Type}{h:Heap}{e:Nat}{kt:TVal→Heap→AI.Touch→Option β},h.get (.im 2)=some (rO s 0)→vtouch Om (.call (.k (.v (.c (.func 26 [])))) [.k (pI 2),.k (kI (d+1))]) h e kt=kt (kA [a1,a2,a3,a4,a5,a6]) (h.put (.im 2) (rO t 0)) ⟨[.im 2,.im 2],[.im 2],false⟩:=fun{β h e kt} hg=>qJj 26 (.im 2) (kI (d+1)) _ _ _ rfl (by simp only[exP]) hg (qAJ s 0) (qAJ t 0) H'
 have ap:=fun{β:Type} {h:Heap} {e:Nat} {kt:TVal→Heap→AI.Touch→Option β} (gb:h.get (.im 4)=some (.cells Z6 0))=>qKd (O:=Om) (kt:=kt) (d:=e) (sz:=6) (by':=88) (lb:=1) (capb:=some 1) (by omega) (by omega) gb rfl
 rw[w51_0,b51_0];have g0:(Heap.mk [oL (.p .nilslice),boxO 2,rO s 0,intO d] .nil).get (.im 0)=some (oL (.p .nilslice)):=rfl;have g1:(Heap.mk [oL (.p .nilslice),boxO 2,rO s 0,intO d] .nil).get (.im 1)=some (boxO 2):=rfl;have g3:(Heap.mk [oL (.p .nilslice),boxO 2,rO s 0,intO d] .nil).get (.im 3)=some (intO d):=rfl;simp (maxSteps:=9999999) +contextual only[exa,rA,rB,rD,rE,rF,rG,rH,rI,rJ,exT,g0,g1,g3,qBL,qLk,oneOf,ed];rw[c26 rfl];show vtouch Om (.append 6 88 true (.k (.v (.c (.p .nilslice)))) (.k (.v (.c (.sref (.im 4) 0 1 (some 1) 6))))) (Heap.mk [oL (.p .nilslice),boxO 2,rO t 0,intO d,.cells Z6 0] .nil) 11 _=_;rw[ap rfl,qGc];show viaddr 6 (.v (.c (.sref (.im 5) 0 1 none 6))) (kI 0) (Heap.mk [oL (.p .nilslice),boxO 2,rO t 0,intO d,.cells Z6 0,.cells Z6 0] .nil) _=_;have h5:(Heap.mk [oL (.p .nilslice),boxO 2,rO t 0,intO d,.cells Z6 0,.cells Z6 0] .nil).get (.im 5)=some (.cells Z6 0):=rfl;have h5p:∀ o,(Heap.mk [oL (.p .nilslice),boxO 2,rO t 0,intO d,.cells Z6 0,.cells Z6 0] .nil).put (.im 5) o=Heap.mk [oL (.p .nilslice),boxO 2,rO t 0,intO d,.cells Z6 0,o] .nil:=fun _=>rfl
 have h0':∀ o,(Heap.mk [oL (.p .nilslice),boxO 2,rO t 0,intO d,.cells Z6 0,o] .nil).get (.im 0)=some (oL (.p .nilslice)):=fun _=>rfl
 have p6:put1 Z6 0 [.p a1,.p a2,.p a3,.p a4,.p a5,.p a6]=[.p a1,.p a2,.p a3,.p a4,.p a5,.p a6]:=qAh _ _ rfl;simp (maxSteps:=9999999) +contextual only[exa,rA,rB,rD,rE,rF,rG,rH,rI,rJ,exT,exY,h5,h5p,h0',pr,p6,qBL,oneOf];exact(qCO 3 _ [.im 0,.im 1,.im 2,.im 3,.im 5] rfl).trans rfl
theorem qKl{β:Type}{O:Oracle}{h:Heap}{d:Nat}{kt:TVal→Heap→AI.Touch→Option β}(r:Ref)(off len sz:Nat)(cap:Option Nat):vtouch O (.len 2 (.k (.v (.c (.sref r off len cap sz))))) h d kt=kt (kI (len:Int)) h noTouch:=qAv _ _ rfl
theorem qOV(n:Nat)(xs:List PVal)(hx:xs.length=n*6)(hn:n≤100000)(d:Int)(hd:0≤d∧d≤100)(s t:List UInt8)(v:VT)(H:Rd (d+1) s v t) :
  Om 51 [P0,pI 2,pI 4] [oL (.sref (.im 1) 0 n none 6),.cells (pcells xs) 0,boxO 3,rO s 0,intO d]=some (.tup [],[oL (.sref (.im 5) 0 (n+1) none 6),.dead,boxO 3,rO t 0,intO d,.cells (pcells (xs++v.row)) 0]):=by
 refine(qAB rfl).trans ?_;have pl:=qAI (xs++v.row) 0;have ed:IntKind.i64.wrap (d+1)=d+1:=qAH _ (by omega) (by omega);obtain⟨a1,a2,a3,a4,a5,a6,ha⟩:=qDG v;have H':=H;unfold Rd at H';rw[ha] at H' pl;rw[ha];have hX:(pcells xs).length=n*6:=by rw[qAM,hx]
 have pa:pcells (xs++[a1,a2,a3,a4,a5,a6])=pcells xs++[.p a1,.p a2,.p a3,.p a4,.p a5,.p a6]:=by unfold pcells; simp
 rw[pa] at pl ⊢;have hpx:=qAI xs 0;generalize pcells xs=X at hX pl hpx ⊢;show lim tab.get S 51 5 0 [P0,pI 2,pI 4] (Heap.mk [oL (.sref (.im 1) 0 n none 6),.cells X 0,boxO 3,rO s 0,intO d] .nil)=_;have c26:∀ {β:Type}{h:Heap}{e:Nat}{kt:TVal→Heap→AI.Touch→Option β},h.get (.im 3)=some (rO s 0)→vtouch Om (.call (.k (.v (.c (.func 26 [])))) [.k (pI 3),.k (kI (d+1))]) h e kt=kt (kA [a1,a2,a3,a4,a5,a6]) (h.put (.im 3) (rO t 0)) ⟨[.im 3,.im 3],[.im 3],false⟩:=fun{β h e kt} hg=>qJj 26 (.im 3) (kI (d+1)) _ _ _ rfl (by simp only[exP]) hg (qAJ s 0) (qAJ t 0) H'
 have ap:=fun{β:Type} {h:Heap} {e:Nat} {kt:TVal→Heap→AI.Touch→Option β} (ga:h.get (.im 1)=some (.cells X 0)) (gb:h.get (.im 5)=some (.cells Z6 0))=>qK6 (O:=Om) (kt:=kt) (d:=e) (sz:=6) (by':=88) (la:=n) (lb:=1) (capb:=some 1) (by omega) (by omega) ga gb hX rfl
 have g0:(Heap.mk [oL (.sref (.im 1) 0 n none 6),.cells X 0,boxO 3,rO s 0,intO d] .nil).get (.im 0)=some (oL (.sref (.im 1) 0 n none 6)):=rfl;have g2:(Heap.mk [oL (.sref (.im 1) 0 n none 6),.cells X 0,boxO 3,rO s 0,intO d] .nil).get (.im 2)=some (boxO 3):=rfl;have g4:(Heap.mk [oL (.sref (.im 1) 0 n none 6),.cells X 0,boxO 3,rO s 0,intO d] .nil).get (.im 4)=some (intO d):=rfl;have pr:pcells [a1,a2,a3,a4,a5,a6]=[.p a1,.p a2,.p a3,.p a4,.p a5,.p a6]:=rfl;rw[w51_0,b51_0];simp (maxSteps:=9999999) +contextual only[exa,rA,rB,rD,rE,rF,rG,rH,rI,rJ,exT,g0,g2,g4,qBL,qLk,qKl,oneOf,ed];rw[c26 rfl];show vtouch Om (.append 6 88 true (.k (.v (.c (.sref (.im 1) 0 n none 6)))) (.k (.v (.c (.sref (.im 5) 0 1 (some 1) 6))))) (Heap.mk [oL (.sref (.im 1) 0 n none 6),.cells X 0,boxO 3,rO t 0,intO d,.cells Z6 0] .nil) 11 _=_;rw[ap rfl rfl,qGc];show viaddr 6 (.v (.c (.sref (.im 6) 0 (n+1) none 6))) (kI (n:Int)) (Heap.mk [oL (.sref (.im 1) 0 n none 6),.dead,boxO 3,rO t 0,intO d,.cells Z6 0,.cells (X++Z6) 0] .nil) _=_;have h6:(Heap.mk [oL (.sref (.im 1) 0 n none 6),.dead,boxO 3,rO t 0,intO d,.cells Z6 0,.cells (X++Z6) 0] .nil).get (.im 6)=some (.cells (X++Z6) 0):=rfl;have h6p:∀ o,(Heap.mk [oL (.sref (.im 1) 0 n none 6),.dead,boxO 3,rO t 0,intO d,.cells Z6 0,.cells (X++Z6) 0] .nil).put (.im 6) o=Heap.mk [oL (.sref (.im 1) 0 n none 6),.dead,boxO 3,rO t 0,intO d,.cells Z6 0,o] .nil:=fun _=>rfl
 have h0':∀ o,(Heap.mk [oL (.sref (.im 1) 0 n none 6),.dead,boxO 3,rO t 0,intO d,.cells Z6 0,o] .nil).get (.im 0)=some (oL (.sref (.im 1) 0 n none 6)):=fun _=>rfl
 have p6:put1 (X++Z6) (n*6) [.p a1,.p a2,.p a3,.p a4,.p a5,.p a6]=X++[.p a1,.p a2,.p a3,.p a4,.p a5,.p a6]:=by
  unfold put1 splice;rw[← hX,List.take_left,List.drop_eq_nil_of_le (by simp),List.append_nil]
 have l6:(X++Z6).length=n*6+6:=by rw[List.length_append,hX]; rfl
 have t1:(0:Int)≤(n:Int):=by omega
 have t2:n<n+1:=by omega
 have t3:n*6+6≤n*6+6:=Nat.le_refl _;simp (maxSteps:=9999999) +contextual only[exa,rA,rB,rD,rE,rF,rG,rH,rI,rJ,exT,exY,h6,h6p,h0',pr,p6,l6,t1,t2,t3,Int.toNat_natCast,Nat.zero_add,Nat.zero_le,qBL,oneOf];refine(qCO 4 _ [.im 0,.im 1,.im 2,.im 3,.im 4,.im 6] ?_).trans ?_
 ·show reach _ (398+1+1) [.im 6,.im 3] (ims 5)=_;rw[qAE _ (.im 6) _ (ims 5) (.cells (X++[.p a1,.p a2,.p a3,.p a4,.p a5,.p a6]) 0) (by decide) rfl,pl.1];show reach _ (398+1) [.im 3] ([.im 0,.im 1,.im 2,.im 3,.im 4,.im 6])=_;rw[qAu _ _ _ _ (by decide)];exact qAX _ _
 ·show some (TVal.tup [],[oL (.sref (.im 5) 0 (n+1) none 6),AObj.dead,boxO 3,rO t 0,intO d,(AObj.cells (X++[.p a1,.p a2,.p a3,.p a4,.p a5,.p a6]) 0).ren (inn [.im 0,.im 1,.im 2,.im 3,.im 4,.im 6])])=_;rw[pl.2]
theorem qBh{x:UInt8}{s:List UInt8}(c:UInt8)(w:List UInt8)(hc:c≠x):¬ (x::s).take (c::w).length=c::w:=fun e=>hc (by
 have:=congrArg List.head? e;simp at this
 exact this.symm)
def nullV:VT := .mk 0 false 0 [] .nil .nil
def boolV(b:Bool):VT := .mk 1 b 0 [] .nil .nil
section
variable (d:Int) (hd:d≤12) (s:List UInt8)
include hd
theorem qSF(t:List UInt8)(hs:trimB s=110::117::108::108::t):Rd d s nullV t:=by
 unfold Rd;refine(qAB rfl).trans ?_;show lim tab.get S 26 1 0 [P0,kI d] (Heap.mk [rO s 0] .nil)=_;have hd':¬ 12<d:=by omega
 have c27:=fun{β:Type} {k:TVal→Heap→Option β} {h:Heap} {e:Nat} (hg:h.get (.im 0)=some (rO s 0))=>qBY (β:=β) (k:=k) (h:=h) (d:=e) (.im 0) s 0 hg
 rw[hs] at c27;have n1:∀ {β:Type}{k:TVal→Heap→Option β}{h:Heap}{e:Nat},h.get (.im 0)=some (rO (110::117::108::108::t) 0)→vcall Om (.v (.c (.func 48 []))) [P0,kS [110,117,108,108]] h e k=k (kB true) (h.put (.im 0) (rO t 0)):=fun{β k h e} hg=>(u48 (.im 0) _ [110,117,108,108] hg).trans rfl
 have s1:∀ {β:Type}{k:TVal→Heap→Option β}{hh:Heap}{e:Nat},vop Om (.slice 0 true (.k (kS (110::117::108::108::t))) none (some (.k (kI 1))) none) hh e k=k (kS [110]) hh:=fun{β k hh e}=>qBQ _ 1 (by simp)
 have c46:=fun{β:Type} {k:TVal→Heap→Option β} {h:Heap} {e:Nat}=>qE3 (β:=β) (k:=k) (h:=h) (d:=e) 110
 have hne:¬ (110::117::108::108::t)=[]:=by simp
 rw[show isStart (110:UInt8).toNat=true by decide] at c46;rw[w26_0,b26_0];simp (maxSteps:=9999999) +contextual only[exa,rA,rB,rD,rE,rF,rG,rH,rI,rJ,exY,qBz,qAe,qAd,qAW,c27,n1,hne,s1,c46,hd',if_false,oneOf];exact qAb true [.agg (pcells nullV.row)] _ (by simp only[exP]) rfl (qAJ _ _)
theorem qRg(t:List UInt8)(hs:trimB s=116::114::117::101::t):Rd d s (boolV true) t:=by
 unfold Rd;refine(qAB rfl).trans ?_;show lim tab.get S 26 1 0 [P0,kI d] (Heap.mk [rO s 0] .nil)=_;have hd':¬ 12<d:=by omega
 have c27:=fun{β:Type} {k:TVal→Heap→Option β} {h:Heap} {e:Nat} (hg:h.get (.im 0)=some (rO s 0))=>qBY (β:=β) (k:=k) (h:=h) (d:=e) (.im 0) s 0 hg
 rw[hs] at c27;have n1:=fun{β:Type} {k:TVal→Heap→Option β} {h:Heap} {e:Nat} (hg:h.get (.im 0)=some (rO (116::114::117::101::t) 0))=>qCA (β:=β) (k:=k) (h:=h) (d:=e) _ [110,117,108,108] hg (qBh _ _ (by decide))
 have n2:∀ {β:Type}{k:TVal→Heap→Option β}{h:Heap}{e:Nat},h.get (.im 0)=some (rO (116::114::117::101::t) 0)→vcall Om (.v (.c (.func 48 []))) [P0,kS [116,114,117,101]] h e k=k (kB true) (h.put (.im 0) (rO t 0)):=fun{β k h e} hg=>(u48 (.im 0) _ [116,114,117,101] hg).trans rfl
 have s1:∀ {β:Type}{k:TVal→Heap→Option β}{hh:Heap}{e:Nat},vop Om (.slice 0 true (.k (kS (116::114::117::101::t))) none (some (.k (kI 1))) none) hh e k=k (kS [116]) hh:=fun{β k hh e}=>qBQ _ 1 (by simp)
 have c46:=fun{β:Type} {k:TVal→Heap→Option β} {h:Heap} {e:Nat}=>qE3 (β:=β) (k:=k) (h:=h) (d:=e) 116
 have hne:¬ (116::114::117::101::t)=[]:=by simp
 rw[show isStart (116:UInt8).toNat=true by decide] at c46;rw[w26_0,b26_0];simp (maxSteps:=9999999) +contextual only[exa,rA,rB,rD,rE,rF,rG,rH,rI,rJ,exY,qBz,qAe,qAd,qAW,c27,n1,n2,hne,s1,c46,hd',if_false,oneOf];exact qAb true [.agg (pcells (boolV true).row)] _ (by simp only[exP]) rfl (qAJ _ _)
theorem qRN(t:List UInt8)(hs:trimB s=102::97::108::115::101::t):Rd d s (boolV false) t:=by
 unfold Rd;refine(qAB rfl).trans ?_;show lim tab.get S 26 1 0 [P0,kI d] (Heap.mk [rO s 0] .nil)=_;have hd':¬ 12<d:=by omega
 have c27:=fun{β:Type} {k:TVal→Heap→Option β} {h:Heap} {e:Nat} (hg:h.get (.im 0)=some (rO s 0))=>qBY (β:=β) (k:=k) (h:=h) (d:=e) (.im 0) s 0 hg
 rw[hs] at c27;have n1:=fun{β:Type} {k:TVal→Heap→Option β} {h:Heap} {e:Nat} (hg:h.get (.im 0)=some (rO (102::97::108::115::101::t) 0))=>qCA (β:=β) (k:=k) (h:=h) (d:=e) _ [110,117,108,108] hg (qBh _ _ (by decide))
 have n2:=fun{β:Type} {k:TVal→Heap→Option β} {h:Heap} {e:Nat} (hg:h.get (.im 0)=some (rO (102::97::108::115::101::t) 0))=>qCA (β:=β) (k:=k) (h:=h) (d:=e) _ [116,114,117,101] hg (qBh _ _ (by decide))
 have n3:∀ {β:Type}{k:TVal→Heap→Option β}{h:Heap}{e:Nat},h.get (.im 0)=some (rO (102::97::108::115::101::t) 0)→vcall Om (.v (.c (.func 48 []))) [P0,kS [102,97,108,115,101]] h e k=k (kB true) (h.put (.im 0) (rO t 0)):=fun{β k h e} hg=>(u48 (.im 0) _ [102,97,108,115,101] hg).trans rfl
 have s1:∀ {β:Type}{k:TVal→Heap→Option β}{hh:Heap}{e:Nat},vop Om (.slice 0 true (.k (kS (102::97::108::115::101::t))) none (some (.k (kI 1))) none) hh e k=k (kS [102]) hh:=fun{β k hh e}=>qBQ _ 1 (by simp)
 have c46:=fun{β:Type} {k:TVal→Heap→Option β} {h:Heap} {e:Nat}=>qE3 (β:=β) (k:=k) (h:=h) (d:=e) 102
 have hne:¬ (102::97::108::115::101::t)=[]:=by simp
 rw[show isStart (102:UInt8).toNat=true by decide] at c46;rw[w26_0,b26_0];simp (maxSteps:=9999999) +contextual only[exa,rA,rB,rD,rE,rF,rG,rH,rI,rJ,exY,qBz,qAe,qAd,qAW,c27,n1,n2,n3,hne,s1,c46,hd',if_false,oneOf];exact qAb true [.agg (pcells (boolV false).row)] _ (by simp only[exP]) rfl (qAJ _ _)
end
section
variable (d:Int) (hd:d≤12) (s:List UInt8)
include hd
theorem qSc(q o t:List UInt8)(hs:trimB s=34::q)(hq:q.length≤1073741824)(hg:tGo q []=some (o,t)):Rd d s (txtV o) t:=by
 unfold Rd;refine(qAB rfl).trans ?_;show lim tab.get S 26 1 0 [P0,kI d] (Heap.mk [rO s 0] .nil)=_;have hd':¬ 12<d:=by omega
 have c27:=fun{β:Type} {k:TVal→Heap→Option β} {h:Heap} {e:Nat} (hg:h.get (.im 0)=some (rO s 0))=>qBY (β:=β) (k:=k) (h:=h) (d:=e) (.im 0) s 0 hg
 rw[hs] at c27;have n1:=fun{β:Type} {k:TVal→Heap→Option β} {h:Heap} {e:Nat} (hg:h.get (.im 0)=some (rO (34::q) 0))=>qCA (β:=β) (k:=k) (h:=h) (d:=e) _ [110,117,108,108] hg (qBh _ _ (by decide))
 have n2:=fun{β:Type} {k:TVal→Heap→Option β} {h:Heap} {e:Nat} (hg:h.get (.im 0)=some (rO (34::q) 0))=>qCA (β:=β) (k:=k) (h:=h) (d:=e) _ [116,114,117,101] hg (qBh _ _ (by decide))
 have n3:=fun{β:Type} {k:TVal→Heap→Option β} {h:Heap} {e:Nat} (hg:h.get (.im 0)=some (rO (34::q) 0))=>qCA (β:=β) (k:=k) (h:=h) (d:=e) _ [102,97,108,115,101] hg (qBh _ _ (by decide))
 have n4:∀ {β:Type}{k:TVal→Heap→Option β}{h:Heap}{e:Nat},h.get (.im 0)=some (rO (34::q) 0)→vcall Om (.v (.c (.func 48 []))) [P0,kS [34]] h e k=k (kB true) (h.put (.im 0) (rO q 0)):=fun{β k h e} hg=>(u48 (.im 0) _ [34] hg).trans rfl
 have s1:∀ {β:Type}{k:TVal→Heap→Option β}{hh:Heap}{e:Nat},vop Om (.slice 0 true (.k (kS (34::q))) none (some (.k (kI 1))) none) hh e k=k (kS [34]) hh:=fun{β k hh e}=>qBQ _ 1 (by simp)
 have c49:=fun{β:Type} {k:TVal→Heap→Option β} {h:Heap} {e:Nat} (hg:h.get (.im 0)=some (rO q 0))=>u49 (β:=β) (k:=k) (h:=h) (d:=e) (.im 0) q hq hg
 rw[hg] at c49;have c46:=fun{β:Type} {k:TVal→Heap→Option β} {h:Heap} {e:Nat}=>qE3 (β:=β) (k:=k) (h:=h) (d:=e) 34
 have hne:¬ (34::q)=[]:=by simp
 rw[show isStart (34:UInt8).toNat=true by decide] at c46;rw[w26_0,b26_0];simp (maxSteps:=9999999) +contextual only[exa,rA,rB,rD,rE,rF,rG,rH,rI,rJ,exY,qBz,qAe,qAd,qAW,c27,n1,n2,n3,n4,hne,s1,c46,hd',if_false,oneOf];rw[c49 rfl];simp (maxSteps:=9999999) +contextual only[exa,rA,rB,rD,rE,rF,rG,rH,rI,rJ,exY,qV,qL,qE,oneOf];exact qAb true [.agg (pcells (txtV o).row)] (rO t 0) (by simp only[exP]) rfl (qAJ _ _)
theorem qPa(q:List UInt8)(v:VT)(t:List UInt8)(x:Int)(hs:trimB s=123::q)(H:Om 52 [P0,kI d] [rO q 0]=some (kA v.row,[rO t x])):Om 26 [P0,kI d] [rO s 0]=some (kA v.row,[rO t x]):=by
 refine(qAB rfl).trans ?_;show lim tab.get S 26 1 0 [P0,kI d] (Heap.mk [rO s 0] .nil)=_;have hd':¬ 12<d:=by omega
 have c27:=fun{β:Type} {k:TVal→Heap→Option β} {h:Heap} {e:Nat} (hg:h.get (.im 0)=some (rO s 0))=>qBY (β:=β) (k:=k) (h:=h) (d:=e) (.im 0) s 0 hg
 rw[hs] at c27;have nn:=fun(w:List UInt8) (c:UInt8) (hc:c≠123) {β:Type} {k:TVal→Heap→Option β} {h:Heap} {e:Nat} (hg:h.get (.im 0)=some (rO (123::q) 0))=>qCA (β:=β) (k:=k) (h:=h) (d:=e) _ (c::w) hg (qBh c w hc)
 have n1:=fun{β:Type} {k:TVal→Heap→Option β} {h:Heap} {e:Nat}=>nn [117,108,108] 110 (by decide) (β:=β) (k:=k) (h:=h) (e:=e)
 have n2:=fun{β:Type} {k:TVal→Heap→Option β} {h:Heap} {e:Nat}=>nn [114,117,101] 116 (by decide) (β:=β) (k:=k) (h:=h) (e:=e)
 have n3:=fun{β:Type} {k:TVal→Heap→Option β} {h:Heap} {e:Nat}=>nn [97,108,115,101] 102 (by decide) (β:=β) (k:=k) (h:=h) (e:=e)
 have n4:=fun{β:Type} {k:TVal→Heap→Option β} {h:Heap} {e:Nat}=>nn [] 34 (by decide) (β:=β) (k:=k) (h:=h) (e:=e)
 have n5:=fun{β:Type} {k:TVal→Heap→Option β} {h:Heap} {e:Nat}=>nn [] 91 (by decide) (β:=β) (k:=k) (h:=h) (e:=e)
 have n6:∀ {β:Type}{k:TVal→Heap→Option β}{h:Heap}{e:Nat},h.get (.im 0)=some (rO (123::q) 0)→vcall Om (.v (.c (.func 48 []))) [P0,kS [123]] h e k=k (kB true) (h.put (.im 0) (rO q 0)):=fun{β k h e} hg=>(u48 (.im 0) _ [123] hg).trans rfl
 have s1:∀ {β:Type}{k:TVal→Heap→Option β}{hh:Heap}{e:Nat},vop Om (.slice 0 true (.k (kS (123::q))) none (some (.k (kI 1))) none) hh e k=k (kS [123]) hh:=fun{β k hh e}=>qBQ _ 1 (by simp)
 have c52:∀ {β:Type}{k:TVal→Heap→Option β}{h:Heap}{e:Nat},h.get (.im 0)=some (rO q 0)→vcall Om (.v (.c (.func 52 []))) [P0,kI d] h e k=k (kA v.row) (h.put (.im 0) (rO t x)):=fun{β k h e} hg =>
  qAq 52 (.im 0) 0 [] [kI d] _ _ _ rfl rfl hg (qAJ _ _) (qAJ _ _) (by simp only[exP]) H
 have c46:=fun{β:Type} {k:TVal→Heap→Option β} {h:Heap} {e:Nat}=>qE3 (β:=β) (k:=k) (h:=h) (d:=e) 123
 rw[show isStart (123:UInt8).toNat=true by decide] at c46;have hne:¬ (123::q)=[]:=by simp
 have hl:∀ Z:List Cell,Z.length=6→put1 Z 0 (pcells v.row)=pcells v.row:=fun Z hz=>qAh _ _ (by rw[qAM,VT.row_len,hz])
 have hl2:(pcells v.row).length=6:=by rw[qAM,VT.row_len]
 have hl3:(pcells v.row).take 6=pcells v.row:=List.take_of_length_le (by omega);rw[w26_0,b26_0];simp (maxSteps:=9999999) +contextual only[exa,rA,rB,rD,rE,rF,rG,rH,rI,rJ,exY,qBz,qAe,qAd,qAW,c27,n1,n2,n3,n4,n5,n6,hne,s1,c46,hd',if_false,oneOf];rw[c52 rfl];simp (maxSteps:=9999999) +contextual only[exa,rA,rB,rD,rE,rF,rG,rH,rI,rJ,exY,hl,hl2,hl3,oneOf];exact qAb true [.agg (pcells v.row)] (rO t x) (by simp only[exP]) rfl (qAJ _ _)
end
structure Lt0 (h:Heap) (s:List UInt8) (d:Int):Prop where
 g0:h.get (.im 0)=some (rO s 0)
 g1:h.get (.im 1)=some (oL (.p .nilslice))
 g2:h.get (.im 2)=some (boxO 0)
 g3:h.get (.im 3)=some (intO d)
structure Lt1 (h:Heap) (s:List UInt8) (d:Int) (n:Nat) (xs:List PVal) (j:Nat):Prop where
 g0:h.get (.im 0)=some (rO s 0)
 hj:4≤j
 g1:h.get (.im 1)=some (oL (.sref (.im j) 0 n none 6))
 g2:h.get (.im 2)=some (boxO 0)
 g3:h.get (.im 3)=some (intO d)
 gj:h.get (.im j)=some (.cells (pcells xs) 0)
 hx:xs.length=n*6
 hn:n≤90000
theorem Lt0.put{h:Heap}{s t:List UInt8}{d:Int}(A:Lt0 h s d):Lt0 (h.put (.im 0) (rO t 0)) t d :=
 ⟨Heap.zput_self A.g0 (fun e=>by cases e),(Heap.zput_ne A.g0 (by decide)).trans A.g1,(Heap.zput_ne A.g0 (by decide)).trans A.g2,(Heap.zput_ne A.g0 (by decide)).trans A.g3⟩
theorem Lt1.put{h:Heap}{s t:List UInt8}{d:Int}{n j:Nat}{xs:List PVal}(A:Lt1 h s d n xs j):Lt1 (h.put (.im 0) (rO t 0)) t d n xs j :=
 ⟨Heap.zput_self A.g0 (fun e=>by cases e),A.hj,(Heap.zput_ne A.g0 (by decide)).trans A.g1,(Heap.zput_ne A.g0 (by decide)).trans A.g2,(Heap.zput_ne A.g0 (by decide)).trans A.g3,(Heap.zput_ne A.g0 (fun e=>by have:=A.hj; cases e; omega)).trans A.gj,A.hx,A.hn⟩
theorem qSn{h:Heap}{s t:List UInt8}{v:VT}{d:Int}(hd:0≤d∧d≤100)(A:Lt0 h s d)(E:Rd (d+1) s v t) :
  ∃ h' j,(∀ {β:Type}(e:Nat)(k:TVal→Heap→Option β),vcall Om (.v (.c (.func 51 [.im 1,.im 2,.im 3]))) [] h e k=k (.tup []) h')∧Lt1 h' t d 1 v.row j:=by
 have hr:reach h fuelReach ([.v (.c (.ptr (.im 1) 0)),.v (.c (.ptr (.im 2) 0)),.v (.c (.ptr (.im 3) 0))].flatMap TVal.refs) []=[.im 1,.im 2,.im 0,.im 3]:=by
  show reach h (395+1+1+1+1+1) [.im 1,.im 2,.im 3] []=_;rw[qAE _ (.im 1) _ _ _ (by decide) A.g1];show reach h (395+1+1+1+1) [.im 2,.im 3] [.im 1]=_;rw[qAE _ (.im 2) _ _ _ (by decide) A.g2];show reach h (395+1+1+1) [.im 0,.im 3] [.im 1,.im 2]=_;rw[qAE _ (.im 0) _ _ _ (by decide) A.g0];show reach h (395+1+1) [.im 3] [.im 1,.im 2,.im 0]=_;rw[qAE _ (.im 3) _ _ _ (by decide) A.g3];exact qAX _ _
 have hm:([.im 1,.im 2,.im 0,.im 3]:List Ref).mapM h.get=some [oL (.p .nilslice),boxO 0,rO s 0,intO d]:=by
  simp only[List.mapM_cons,List.mapM_nil,A.g0,A.g1,A.g2,A.g3,Option.pure_def,rM,Option.bind_some]
 have pl:=qAI v.row 0;obtain⟨h',hc,B⟩:=qBo (O:=Om) (h:=h) 51 [.v (.c (.ptr (.im 1) 0)),.v (.c (.ptr (.im 2) 0)),.v (.c (.ptr (.im 3) 0))] _ [P0,pI 1,pI 3] _ _ _ _ _ (.tup []) rfl hr hm rfl rfl (qRF d hd s t v E) (show(4:Nat)≤5 by decide) (by decide) rfl;refine⟨h',h.ims.length+0,fun e k=>(qF3 51 _ _ _).trans (hc e k),?_⟩;have hl:4≤h.ims.length:=by
  have:=(Heap.get_im_some A.g3).1;have:=(List.getElem?_eq_some_iff.1 this).1;omega
 exact⟨B.own 2 (.im 0) _ rfl rfl (fun e=>by cases e),by omega,B.own 0 (.im 1) _ rfl rfl (fun e=>by cases e),B.own 1 (.im 2) _ rfl rfl (fun e=>by cases e),B.own 3 (.im 3) _ rfl rfl (fun e=>by cases e),
  B.new 0 (.cells (pcells v.row) 0) (congrArg some (pl.2 _)) (fun e=>by cases e),by simp[VT.row_len],by omega⟩
theorem innL{j:Nat}(hj:4≤j):inn [.im 1,.im j,.im 2,.im 0,.im 3] (.im j)=some (.im 1)∧inn [.im 1,.im j,.im 2,.im 0,.im 3] (.im 0)=some (.im 3):=by
 have ne:∀ i:Nat,i<4→decide (Ref.im j=Ref.im i)=false:=fun i hi=>decide_eq_false (fun e=>by cases e; omega)
 have ne2:∀ i:Nat,i<4→decide (Ref.im i=Ref.im j)=false:=fun i hi=>decide_eq_false (fun e=>by cases e; omega)
 have d1:decide (Ref.im 0=Ref.im 1)=false:=by decide
 have d2:decide (Ref.im 0=Ref.im 2)=false:=by decide
 unfold inn;simp only[idx,ne 1 (by decide),ne2 0 (by decide),d1,d2,cond_false,decide_true,cond_true];exact⟨rfl,rfl⟩
theorem qSC{h:Heap}{s t:List UInt8}{v:VT}{d:Int}(hd:0≤d∧d≤100){n j:Nat}{xs:List PVal}(A:Lt1 h s d n xs j)(hn:n≤80000)(E:Rd (d+1) s v t) :
  ∃ h' j,(∀ {β:Type}(e:Nat)(k:TVal→Heap→Option β),vcall Om (.v (.c (.func 51 [.im 1,.im 2,.im 3]))) [] h e k=k (.tup []) h')∧Lt1 h' t d (n+1) (xs++v.row) j:=by
 have hj:=A.hj;have nj:∀ i:Nat,i<4→Ref.im j≠Ref.im i:=fun i hi e=>by cases e; omega
 have pl:=qAI (xs++v.row) 0;have px:=qAI xs 0;have n1:Ref.im j∉([.im 1]:List Ref):=by simp; omega
 have n2:(Ref.im 2)∉([.im 1,.im j]:List Ref):=by simp; omega
 have n3:(Ref.im 0)∉([.im 1,.im j,.im 2]:List Ref):=by simp; omega
 have n4:(Ref.im 3)∉([.im 1,.im j,.im 2,.im 0]:List Ref):=by simp; omega
 have hr:reach h fuelReach ([.v (.c (.ptr (.im 1) 0)),.v (.c (.ptr (.im 2) 0)),.v (.c (.ptr (.im 3) 0))].flatMap TVal.refs) []=[.im 1,.im j,.im 2,.im 0,.im 3]:=by
  show reach h (394+1+1+1+1+1+1) [.im 1,.im 2,.im 3] []=_;rw[qAE _ (.im 1) _ _ _ (by decide) A.g1];show reach h (394+1+1+1+1+1) [.im j,.im 2,.im 3] [.im 1]=_;rw[qAE _ (.im j) _ _ _ n1 A.gj,px.1];show reach h (394+1+1+1+1) [.im 2,.im 3] [.im 1,.im j]=_;rw[qAE _ (.im 2) _ _ _ n2 A.g2];show reach h (394+1+1+1) [.im 0,.im 3] [.im 1,.im j,.im 2]=_;rw[qAE _ (.im 0) _ _ _ n3 A.g0];show reach h (394+1+1) [.im 3] [.im 1,.im j,.im 2,.im 0]=_;rw[qAE _ (.im 3) _ _ _ n4 A.g3];exact qAX _ _
 have hm:([.im 1,.im j,.im 2,.im 0,.im 3]:List Ref).mapM h.get=some [oL (.sref (.im j) 0 n none 6),.cells (pcells xs) 0,boxO 0,rO s 0,intO d]:=by
  simp only[List.mapM_cons,List.mapM_nil,A.g0,A.g1,A.g2,A.g3,A.gj,Option.pure_def,rM,Option.bind_some]
 obtain⟨i1,i2⟩:=innL hj;have e5:([oL (.sref (.im j) 0 n none 6),.cells (pcells xs) 0,boxO 0,rO s 0,intO d]:List AObj).map (AObj.ren (inn [.im 1,.im j,.im 2,.im 0,.im 3]))=[oL (.sref (.im 1) 0 n none 6),.cells (pcells xs) 0,boxO 3,rO s 0,intO d]:=by
  show [oL (match inn [.im 1,.im j,.im 2,.im 0,.im 3] (.im j) with|some s => .sref s 0 n none 6|none => .junk),(AObj.cells (pcells xs) 0).ren _,AObj.cells [match inn [.im 1,.im j,.im 2,.im 0,.im 3] (.im 0) with|some s => .ptr s 0|none => .junk] 0,rO s 0,intO d]=_;rw[i1,i2,px.2]
 have a4:([.v (.c (.ptr (.im 1) 0)),.v (.c (.ptr (.im 2) 0)),.v (.c (.ptr (.im 3) 0))]:List TVal).map (TVal.ren (inn [.im 1,.im j,.im 2,.im 0,.im 3]))=[P0,pI 2,pI 4]:=by
  have ne:∀ i:Nat,i<4→decide (Ref.im i=Ref.im j)=false:=fun i hi=>decide_eq_false (fun e=>by cases e; omega)
  have k1:inn [.im 1,.im j,.im 2,.im 0,.im 3] (.im 1)=some (.im 0):=rfl;have k2:inn [.im 1,.im j,.im 2,.im 0,.im 3] (.im 2)=some (.im 2):=by
   have d1:decide (Ref.im 2=Ref.im 1)=false:=by decide
   unfold inn;simp only[idx,ne 2 (by decide),d1,cond_false,decide_true,cond_true]; rfl
  have k3:inn [.im 1,.im j,.im 2,.im 0,.im 3] (.im 3)=some (.im 4):=by
   have d1:decide (Ref.im 3=Ref.im 1)=false:=by decide
   have d2:decide (Ref.im 3=Ref.im 2)=false:=by decide
   have d3:decide (Ref.im 3=Ref.im 0)=false:=by decide
   unfold inn;simp only[idx,ne 3 (by decide),d1,d2,d3,cond_false,decide_true,cond_true]; rfl
  show [TVal.v (.c (match inn [.im 1,.im j,.im 2,.im 0,.im 3] (.im 1) with|some s => .ptr s 0|none => .junk)),TVal.v (.c (match inn [.im 1,.im j,.im 2,.im 0,.im 3] (.im 2) with|some s => .ptr s 0|none => .junk)),TVal.v (.c (match inn [.im 1,.im j,.im 2,.im 0,.im 3] (.im 3) with|some s => .ptr s 0|none => .junk))]=_;rw[k1,k2,k3]
 have hnd:([.im 1,.im j,.im 2,.im 0,.im 3]:List Ref).Nodup:=by
  simp; omega
 obtain⟨h',hc,B⟩:=qBo (O:=Om) (h:=h) 51 [.v (.c (.ptr (.im 1) 0)),.v (.c (.ptr (.im 2) 0)),.v (.c (.ptr (.im 3) 0))] _ [P0,pI 2,pI 4] _ _ _ _ _ (.tup []) rfl hr hm a4 e5 (qOV n xs A.hx (by have:=A.hn; omega) d hd s t v E) (show(5:Nat)≤6 by decide) hnd rfl;refine⟨h',h.ims.length+0,fun e k=>(qF3 51 _ _ _).trans (hc e k),?_⟩;have hl:4≤h.ims.length:=by
  have:=(Heap.get_im_some A.g3).1;have:=(List.getElem?_eq_some_iff.1 this).1;omega
 exact⟨B.own 3 (.im 0) _ rfl rfl (fun e=>by cases e),by omega,B.own 0 (.im 1) _ rfl rfl (fun e=>by cases e),B.own 2 (.im 2) _ rfl rfl (fun e=>by cases e),B.own 4 (.im 3) _ rfl rfl (fun e=>by cases e),
  B.new 0 (.cells (pcells (xs++v.row)) 0) (congrArg some (pl.2 _)) (fun e=>by cases e),by have:=A.hx; simp[VT.row_len]; omega,by omega⟩
inductive LTail (d:Int):List UInt8→List VT→List UInt8→Prop
 |done (t:List UInt8):LTail d (93::t) [] t
 |more (u s1 t:List UInt8) (v:VT) (vs:List VT) (E:Rd (d+1) u v s1) (T:LTail d (trimB s1) vs t):LTail d (44::u) (v::vs) t
def vRows(vs:List VT):List PVal:=(vs.map VT.row).flatten
abbrev F51:TVal := .v (.c (.func 51 [.im 1,.im 2,.im 3]))
theorem qPD{h:Heap}{t:List UInt8}{d:Int}{n j:Nat}{xs:List PVal}(A:Lt1 h (93::t) d n xs j) :
  lim tab.get S 50 4 2 [P0,kS [93]] h=some (.tup [],[rO t 0,oL (.sref (.im 4) 0 n none 6),boxO 0,intO d,.cells (pcells xs) 0]):=by
 have hj:=A.hj;rw[w50_2,b50_2,qGW (.im 0) (93::t) [93] t rfl A.g0];have B:=A.put (t:=t);have px:=qAI xs 0;have nm:Ref.im j∉(ims 4:List Ref):=by
  show Ref.im j∉[.im 0,.im 1,.im 2,.im 3];simp only[List.mem_cons,List.not_mem_nil,or_false,not_or,Ref.im.injEq];omega
 generalize h.put (.im 0) (rO t 0)=h at B;have e:(ims (3+1)).flatMap (fun r=>match h.get r with|some o=>o.refs|none=>[])=[.im j,.im 0]:=by
  show([.im 0,.im 1,.im 2,.im 3]:List Ref).flatMap _=_;simp only[List.flatMap_cons,List.flatMap_nil,B.g0,B.g1,B.g2,B.g3];rfl
 refine(qCO 3 h [.im 0,.im 1,.im 2,.im 3,.im j] ?_).trans ?_
 ·refine(congrArg (fun l=>reach h fuelReach l (ims 4)) e).trans ?_;show reach h (397+1+1+1) [.im j,.im 0] (ims 4)=_;rw[qAE _ (.im j) _ (ims 4) _ nm B.gj,px.1];show reach h (397+1+1) [.im 0] [.im 0,.im 1,.im 2,.im 3,.im j]=_;rw[qAu _ _ _ _ (by simp)];exact qAX _ _
 ·have ij:inn [.im 0,.im 1,.im 2,.im 3,.im j] (.im j)=some (.im 4):=by
   have ne:∀ i:Nat,i<4→decide (Ref.im j=Ref.im i)=false:=fun i hi=>decide_eq_false (fun e=>by cases e; omega)
   unfold inn;simp only[idx,ne 1 (by decide),ne 0 (by decide),ne 2 (by decide),ne 3 (by decide),cond_false,decide_true,cond_true];rfl
  simp only[List.map_cons,List.map_nil,B.g0,B.g1,B.g2,B.g3,B.gj,px.2];show some (TVal.tup [],[rO t 0,oL (match inn [.im 0,.im 1,.im 2,.im 3,.im j] (.im j) with|some s => .sref s 0 n none 6|none => .junk),boxO 0,intO d,AObj.cells (pcells xs) 0])=_;rw[ij]
theorem qNC{d:Int}(hd:0≤d∧d≤100):∀ {u t:List UInt8}{vs:List VT},LTail d u vs t→∀ (h:Heap) (n j:Nat) (xs:List PVal),Lt1 h u d n xs j→n+vs.length≤80000 →
  lim tab.get S 50 4 1 [P0,kS [93],F51] h=some (.tup [],[rO t 0,oL (.sref (.im 4) 0 (n+vs.length) none 6),boxO 0,intO d,.cells (pcells (xs++vRows vs)) 0]):=by
 intro u t vs T
 induction T with
 |done t =>
  intro h n j xs A hn;rw[w50_1,b50_1,qCA (93::t) [44] A.g0 (by simp),qCr,qPD A];simp[vRows]
 |more u s1 t v vs E T ih =>
  intro h n j xs A hn;have hn:n+(vs.length+1)≤80000:=hn;have tk:(44::u).take ([44]:List UInt8).length=[44]:=rfl;rw[w50_1,b50_1,u48 (.im 0) (44::u) [44] A.g0,if_pos tk,decide_eq_true tk,qB0];show vcall Om F51 [] (h.put (.im 0) (rO u 0)) 20 _=_;obtain⟨h1,j1,hc,B⟩:=qSC hd (A.put (t:=u)) (by omega) E;rw[hc,qBY (.im 0) s1 0 B.g0];have:=ih (h1.put (.im 0) (rO (trimB s1) 0)) (n+1) j1 (xs++v.row) B.put (by omega);rw[show n+1+vs.length=n+(vs.length+1) by omega] at this;refine this.trans ?_;simp[vRows]
theorem qMX(s s1 t:List UInt8)(v:VT)(d:Int)(hd:0≤d∧d≤100)(vs:List VT)(hs:∀ q,¬ trimB s=93::q)(E:Rd (d+1) (trimB s) v s1)(T:LTail d (trimB s1) vs t)(hn:vs.length≤1000) :
  Om 50 [P0,kS [93],F51] [rO s 0,oL (.p .nilslice),boxO 0,intO d]=some (.tup [],[rO t 0,oL (.sref (.im 4) 0 (1+vs.length) none 6),boxO 0,intO d,.cells (pcells (vRows (v::vs))) 0]):=by
 refine(qAB rfl).trans ?_;show lim tab.get S 50 4 0 [P0,kS [93],F51] (Heap.mk [rO s 0,oL (.p .nilslice),boxO 0,intO d] .nil)=_;have A:Lt0 (Heap.mk [rO s 0,oL (.p .nilslice),boxO 0,intO d] .nil) s d:=⟨rfl,rfl,rfl,rfl⟩;generalize Heap.mk [rO s 0,oL (.p .nilslice),boxO 0,intO d] .nil=h at A;have A1:=A.put (t:=trimB s);have nt:¬ (trimB s).take ([93]:List UInt8).length=[93]:=by
  intro e;cases hq:trimB s with
  |nil=>rw[hq] at e; simp at e
  |cons x q =>
   rw[hq] at e;have:x=93:=by simpa using e
   exact hs q (by rw[hq,this])
 rw[w50_0,b50_0,qBY (.im 0) s 0 A.g0,qCA (trimB s) [93] A1.g0 nt,qCr];obtain⟨h1,j1,hc,B⟩:=qSn hd A1 E;rw[hc,qBY (.im 0) s1 0 B.g0];refine(qNC hd T (h1.put (.im 0) (rO (trimB s1) 0)) 1 j1 v.row B.put (by omega)).trans ?_;simp[vRows]
theorem qL0(s t:List UInt8)(d:Int)(hs:trimB s=93::t):Om 50 [P0,kS [93],F51] [rO s 0,oL (.p .nilslice),boxO 0,intO d]=some (.tup [],[rO t 0,oL (.p .nilslice),boxO 0,intO d]):=by
 refine(qAB rfl).trans ?_;show lim tab.get S 50 4 0 [P0,kS [93],F51] (Heap.mk [rO s 0,oL (.p .nilslice),boxO 0,intO d] .nil)=_;have A:Lt0 (Heap.mk [rO s 0,oL (.p .nilslice),boxO 0,intO d] .nil) s d:=⟨rfl,rfl,rfl,rfl⟩;generalize Heap.mk [rO s 0,oL (.p .nilslice),boxO 0,intO d] .nil=h at A;have A1:=A.put (t:=trimB s);rw[hs] at A1;have tk:(93::t).take ([93]:List UInt8).length=[93]:=rfl;rw[w50_0,b50_0,qBY (.im 0) s 0 A.g0,hs,u48 (.im 0) (93::t) [93] A1.g0,if_pos tk,decide_eq_true tk,qB0];have A2:=A1.put (t:=t);show vfin true 4 [] ((h.put (.im 0) (rO (93::t) 0)).put (.im 0) (rO t 0))=_;generalize (h.put (.im 0) (rO (93::t) 0)).put (.im 0) (rO t 0)=h at A2;have e:(ims (3+1)).flatMap (fun r=>match h.get r with|some o=>o.refs|none=>[])=[.im 0]:=by
  show([.im 0,.im 1,.im 2,.im 3]:List Ref).flatMap _=_;simp only[List.flatMap_cons,List.flatMap_nil,A2.g0,A2.g1,A2.g2,A2.g3];rfl
 refine(qCO 3 h [.im 0,.im 1,.im 2,.im 3] ?_).trans ?_
 ·refine(congrArg (fun l=>reach h fuelReach l (ims 4)) e).trans ?_;show reach h (398+1+1) [.im 0] (ims 4)=_;rw[qAu _ _ _ _ (by decide)];exact qAX _ _
 ·simp only[List.map_cons,List.map_nil,A2.g0,A2.g1,A2.g2,A2.g3];rfl
theorem qGY{β:Type}{O:Oracle}{k:TVal→Heap→Option β}{h:Heap}{d:Nat}(g:FuncId)(args:List TVal)(v:TVal)(s1:args.map TVal.strip=args)(s2:args.flatMap TVal.refs=[])(s3:∀ σ,args.map (TVal.ren σ)=args)(hv:∀ σ,v.ren σ=v)(hc:O g args []=some (v,[])):vcall O (.v (.c (.func g []))) args h d k=k v h:=by
 have e2:reach h fuelReach (args.flatMap TVal.refs) []=[]:=by rw[s2]; exact qAX _ _
 rw[qEW g args args args [] [] [] [] v s1 e2 rfl (s3 _) rfl hc (Nat.le_refl _),hv];rfl
theorem qQb(s:List UInt8):Om 101 [kS s] []=some (kB (decide ((200:Int)<(s.length:Int))),[]):=by
 refine(qAB rfl).trans ?_;show lim tab.get S 101 0 0 [kS s] h0=_;rw[w101_0,b101_0];simp (maxSteps:=9999999) +contextual only[exa,rA,rB,rD,rE,rF,rG,rH,rI,rJ,exW,exY,oneOf]
abbrev F101:TVal := .v (.c (.func 101 []))
theorem v101{β:Type}{k:TVal→Heap→Option β}{h:Heap}{d:Nat}(s:List UInt8):vcall Om F101 [kS s] h d k=k (kB (decide ((200:Int)<(s.length:Int)))) h:=qAC 101 _ _ rfl (qQb s) rfl
def fidx:List (List UInt8)→Nat→Int
 |[],_ => -1
 |k::l,i=>if (200:Int)<(k.length:Int) then (i:Int) else fidx l (i+1)
theorem qRh(s:Sl (List UInt8))(hl:s.len≤1000000):Om 120 [.v (.c (.p (slP 1 sRow s))),F101] []=some (kI (fidx s.list 0),[]):=by
 refine(qAB rfl).trans ?_;show lim tab.get S 120 0 0 [.v (.c (.p (slP 1 sRow s))),F101] h0=_;have loop:∀ i:Nat,lim tab.get S 120 0 1 [.v (.c (.p (slP 1 sRow s))),F101,kI (s.len:Int),kI (i:Int)] h0=some (kI (fidx (s.list.drop i) i),[]):=by
  refine qAk s.len (fun i hi => ?_) (fun i hi ih => ?_) <;> rw[w120_1,b120_1]
  ·have h1:¬ (i:Int)<(s.len:Int):=by omega
   simp (maxSteps:=9999999) +contextual only[exa,rA,rB,rD,rE,rF,rG,rH,rI,rJ,exW,exY,h1,qAc hi,fidx,oneOf]
  ·have h1:(i:Int)<(s.len:Int):=by omega
   obtain⟨x,hx,e1,mx⟩:=qAT hi;rw[e1,fidx];by_cases h2:(200:Int)<(x.length:Int)
   ·simp (maxSteps:=9999999) +contextual only[exa,rA,rB,rD,rE,rF,rG,rH,rI,rJ,exW,exY,h1,hx,v101,h2,if_true,oneOf]
   ·simp (maxSteps:=9999999) +contextual only[exa,rA,rB,rD,rE,rF,rG,rH,rI,rJ,exW,exY,h1,hx,v101,h2,qAl i (by omega),ih,if_false]
 rw[w120_0,b120_0];have:=loop 0;simp (maxSteps:=9999999) +contextual only[exa,rA,rB,rD,rE,rF,rG,rH,rI,rJ,exW,exY];exact this
def longK(l:List (List UInt8)):Bool:=decide (0≤fidx l 0)
theorem qRi(s:Sl (List UInt8))(hl:s.len≤1000000):Om 100 [.v (.c (.p (slP 1 sRow s))),F101] []=some (kB (longK s.list),[]):=by
 refine(qAB rfl).trans ?_;show lim tab.get S 100 0 0 [.v (.c (.p (slP 1 sRow s))),F101] h0=_;have c:=fun{β:Type} {k:TVal→Heap→Option β} {h:Heap} {d:Nat}=>qGY (O:=Om) (k:=k) (h:=h) (d:=d) 120 [.v (.c (.p (slP 1 sRow s))),F101] _ rfl rfl (fun _=>rfl) (fun _=>rfl) (qRh s hl)
 rw[w100_0,b100_0];have e:(!decide (fidx s.list 0<0))=longK s.list:=by unfold longK; by_cases h:fidx s.list 0<0 <;> simp[h] <;> omega
 simp (maxSteps:=9999999) +contextual only[exa,rA,rB,rD,rE,rF,rG,rH,rI,rJ,exW,exY,c,e,oneOf]
def rowK:List (List UInt8)→Int
 |[]=>0
 |[_]=>0
 |a::b::l=>if bless a b=true then rowK (b::l) else 6
def rowG:Option (List UInt8)→List (List UInt8)→Int
 |_,[]=>0
 |none,b::l=>rowG (some b) l
 |some a,b::l=>if bless a b=true then rowG (some b) l else 6
theorem qGa:∀ (l:List (List UInt8)) (a:List UInt8),rowG (some a) l=rowK (a::l)
 |[],a=>rfl
 |b::l,a=>by rw[rowG,rowK,qGa l b]
def keysE(l:List (List UInt8)):Int:=if longK l=true then 4 else rowG none l
theorem qRb(s:Sl (List UInt8))(hl:s.len≤1000000):Om 72 [.v (.c (.p (slP 1 sRow s)))] []=some (kI (keysE s.list),[]):=by
 refine(qAB rfl).trans ?_;show lim tab.get S 72 0 0 [.v (.c (.p (slP 1 sRow s)))] h0=_;have c:=fun{β:Type} {k:TVal→Heap→Option β} {h:Heap} {d:Nat}=>qGY (O:=Om) (k:=k) (h:=h) (d:=d) 100 [.v (.c (.p (slP 1 sRow s))),F101] _ rfl rfl (fun _=>rfl) (fun _=>rfl) (qRi s hl)
 have loop:∀ i:Nat,∀ o:Option (List UInt8),(i=0→o=none)→(∀ j,i=j+1→o=s.list[j]?∧j<s.len)→lim tab.get S 72 0 1 [.v (.c (.p (slP 1 sRow s))),kI (s.len:Int),kI (i:Int)] h0=some (kI (rowG o (s.list.drop i)),[]):=by
  refine qAk s.len (fun i hi o h0 h1 => ?_) (fun i hi ih o h0 hj => ?_) <;> rw[w72_1,b72_1]
  ·have h1:¬ (i:Int)<(s.len:Int):=by omega
   have:rowG o []=0:=by cases o <;> rfl
   simp (maxSteps:=9999999) +contextual only[exa,rA,rB,rD,rE,rF,rG,rH,rI,rJ,exW,exY,h1,qAc hi,this,oneOf]
  ·have h1:(i:Int)<(s.len:Int):=by omega
   obtain⟨x,hx,e1,mx⟩:=qAT hi;have nj:∀ j,i+1=j+1→some x=s.list[j]?∧j<s.len:=by
    intro j e;have hj':j=i:=by omega
    rw[hj'];exact⟨hx.symm,hi⟩
   have nx:=ih (some x) (fun e=>by omega) nj;rw[e1];cases i with
   |zero =>
    rw[h0 rfl,rowG];have z:¬ (0:Int)<((0:Nat):Int):=by decide
    have z1:(0:Int)<(s.len:Int):=by omega
    simp (maxSteps:=9999999) +contextual only[exa,rA,rB,rD,rE,rF,rG,rH,rI,rJ,exW,exY,h1,z,z1,hx,qAl 0 (by omega),nx,if_false]
   |succ j =>
    obtain⟨e2,hj2⟩:=hj j rfl;obtain⟨y,hy⟩:∃ y,s.list[j]?=some y:=⟨s.list[j]'hj2,List.getElem?_eq_getElem _⟩;rw[e2,hy,rowG];have z:(0:Int)<((j+1:Nat):Int):=by omega
    have z2:(j:Int)<(s.len:Int):=by omega
    have ew:IntKind.i64.wrap (((j+1:Nat):Int) - 1)=((j:Nat):Int):=by rw[qAH _ (by omega) (by omega)]; omega
    cases hb:bless y x
    ·simp (maxSteps:=9999999) +contextual only[exa,rA,rB,rD,rE,rF,rG,rH,rI,rJ,exW,exY,h1,z,z2,ew,hx,hy,hb,if_false,oneOf,Bool.false_eq_true]
    ·simp (maxSteps:=9999999) +contextual only[exa,rA,rB,rD,rE,rF,rG,rH,rI,rJ,exW,exY,h1,z,z2,ew,hx,hy,hb,qAl (j+1) (by omega),nx,if_true]
 rw[w72_0,b72_0];unfold keysE;have:=loop 0 none (fun _=>rfl) (fun j e=>by omega);cases hk:longK s.list
 ·simp (maxSteps:=9999999) +contextual only[exa,rA,rB,rD,rE,rF,rG,rH,rI,rJ,exW,exY,c,hk,if_false,Bool.false_eq_true];exact this
 ·simp (maxSteps:=9999999) +contextual only[exa,rA,rB,rD,rE,rF,rG,rH,rI,rJ,exW,exY,c,hk,if_true,oneOf]
def extraM(v:VT):Bool :=
 (if v.kind=1 then false else v.b)||(if v.kind=2 then false else !decide (v.n=0))||(if v.kind=3 then false else !decide (v.s=[]))||(if v.kind=5 then false else decide (0<(v.keys.len:Int)))||(if v.kind=5∨v.kind=4 then false else decide (0<(v.l.len:Int)))
def rawV(b:Bool)(n:Int)(s:List UInt8)(ks ls:Int):Bool:=b || !decide (n=0) || !decide (s=[])||decide (0<ks)||decide (0<ls)
abbrev pX:TVal := .v (.c (.ptr (.own 3 1) 0))
theorem qCf{k:Int}{b:Bool}{n:Int}{s:List UInt8}{ks:Sl (List UInt8)}{l:Sl VT}{h:Heap}(hg:h.get (.own 3 1)=some (.cells (pcells [.int .i64 k,.bool b,.int .i64 n,.str s,slP 1 sRow ks,slP 6 VT.row l]) 0)) :
  lim tab.get S 71 0 2 [pX] h=some (kB (rawV b n s ks.len l.len),[]):=by
 have r1:(pcells [.int .i64 k,.bool b,.int .i64 n,.str s,slP 1 sRow ks,slP 6 VT.row l])[1]?=some (.p (.bool b)):=rfl;have r2:(pcells [.int .i64 k,.bool b,.int .i64 n,.str s,slP 1 sRow ks,slP 6 VT.row l])[2]?=some (.p (.int .i64 n)):=rfl;have r3:(pcells [.int .i64 k,.bool b,.int .i64 n,.str s,slP 1 sRow ks,slP 6 VT.row l])[3]?=some (.p (.str s)):=rfl;have r4:(pcells [.int .i64 k,.bool b,.int .i64 n,.str s,slP 1 sRow ks,slP 6 VT.row l])[4]?=some (.p (slP 1 sRow ks)):=rfl;have r5:(pcells [.int .i64 k,.bool b,.int .i64 n,.str s,slP 1 sRow ks,slP 6 VT.row l])[5]?=some (.p (slP 6 VT.row l)):=rfl;generalize pcells [.int .i64 k,.bool b,.int .i64 n,.str s,slP 1 sRow ks,slP 6 VT.row l]=X at hg r1 r2 r3 r4 r5;unfold rawV;rw[w71_2,b71_2];cases b
 ·by_cases hn:n=0
  ·by_cases hs:s=[]
   ·by_cases hk:(0:Int)<(ks.len:Int)
    ·simp (maxSteps:=9999999) +contextual only[exa,rA,rB,rD,rE,rF,rG,rH,rI,rJ,exW,exY,hg,r1,r2,r3,r4,r5,hn,hs,hk,oneOf,decide_true,Bool.not_true,Bool.false_or,Bool.true_or,Bool.or_true]
    ·simp (maxSteps:=9999999) +contextual only[exa,rA,rB,rD,rE,rF,rG,rH,rI,rJ,exW,exY,hg,r1,r2,r3,r4,r5,hn,hs,hk,oneOf,decide_true,decide_false,Bool.not_true,Bool.false_or,Bool.true_or,Bool.or_true]
   ·simp (maxSteps:=9999999) +contextual only[exa,rA,rB,rD,rE,rF,rG,rH,rI,rJ,exW,exY,hg,r1,r2,r3,r4,r5,hn,hs,oneOf,decide_true,decide_false,Bool.not_true,Bool.not_false,Bool.false_or,Bool.true_or,Bool.or_true]
  ·simp (maxSteps:=9999999) +contextual only[exa,rA,rB,rD,rE,rF,rG,rH,rI,rJ,exW,exY,hg,r1,r2,r3,r4,r5,hn,oneOf,decide_true,decide_false,Bool.not_true,Bool.not_false,Bool.false_or,Bool.true_or,Bool.or_true]
 ·simp (maxSteps:=9999999) +contextual only[exa,rA,rB,rD,rE,rF,rG,rH,rI,rJ,exW,exY,hg,r1,r2,r3,r4,r5,oneOf,Bool.true_or]
theorem qQO(v:VT):Om 71 [kA v.row] []=some (kB (extraM v),[]):=by
 refine(qAB rfl).trans ?_;cases v with
 |mk k b n s ks l =>
 show lim tab.get S 71 0 0 [kA (VT.mk k b n s ks l).row] h0=_;have hr:(VT.mk k b n s ks l).row=[.int .i64 k,.bool b,.int .i64 n,.str s,slP 1 sRow ks,slP 6 VT.row l]:=by rw[VT.row_eq]; rfl
 have hm:extraM (VT.mk k b n s ks l)=((if k=1 then false else b)||(if k=2 then false else !decide (n=0))||(if k=3 then false else !decide (s=[]))||(if k=5 then false else decide (0<(ks.len:Int)))||(if k=5∨k=4 then false else decide (0<(l.len:Int)))):=rfl;rw[hr,hm];have r0:(pcells [.int .i64 k,.bool b,.int .i64 n,.str s,slP 1 sRow ks,slP 6 VT.row l])[0]?=some (.p (.int .i64 k)):=rfl;have l6:(pcells [.int .i64 k,.bool b,.int .i64 n,.str s,slP 1 sRow ks,slP 6 VT.row l]).length=6:=rfl;have t6:(pcells [.int .i64 k,.bool b,.int .i64 n,.str s,slP 1 sRow ks,slP 6 VT.row l]).take 6=pcells [.int .i64 k,.bool b,.int .i64 n,.str s,slP 1 sRow ks,slP 6 VT.row l]:=rfl;have P0':∀ Z:List Cell,Z.length=6→put1 Z 0 (pcells [.int .i64 k,.bool b,.int .i64 n,.str s,slP 1 sRow ks,slP 6 VT.row l])=pcells [.int .i64 k,.bool b,.int .i64 n,.str s,slP 1 sRow ks,slP 6 VT.row l]:=fun Z hz=>qAh _ _ (by rw[hz,l6])
 have p1:put1 (pcells [.int .i64 k,.bool b,.int .i64 n,.str s,slP 1 sRow ks,slP 6 VT.row l]) 1 [.p (.bool false)]=pcells [.int .i64 k,.bool false,.int .i64 n,.str s,slP 1 sRow ks,slP 6 VT.row l]:=rfl;have p2:put1 (pcells [.int .i64 k,.bool b,.int .i64 n,.str s,slP 1 sRow ks,slP 6 VT.row l]) 2 [.p (.int .i64 0)]=pcells [.int .i64 k,.bool b,.int .i64 0,.str s,slP 1 sRow ks,slP 6 VT.row l]:=rfl;have p3:put1 (pcells [.int .i64 k,.bool b,.int .i64 n,.str s,slP 1 sRow ks,slP 6 VT.row l]) 3 [.p (.str [])]=pcells [.int .i64 k,.bool b,.int .i64 n,.str [],slP 1 sRow ks,slP 6 VT.row l]:=rfl;have p4:put1 (pcells [.int .i64 k,.bool b,.int .i64 n,.str s,slP 1 sRow ks,slP 6 VT.row l]) 4 [.p .nilslice]=pcells [.int .i64 k,.bool b,.int .i64 n,.str s,slP 1 sRow .nil,slP 6 VT.row l]:=rfl;have q1:∀ ks:Sl (List UInt8),put1 (pcells [.int .i64 k,.bool b,.int .i64 n,.str s,slP 1 sRow ks,slP 6 VT.row l]) 5 [.p .nilslice]=pcells [.int .i64 k,.bool b,.int .i64 n,.str s,slP 1 sRow ks,slP 6 VT.row .nil]:=fun _=>rfl
 have q2:∀ ks:Sl (List UInt8),(pcells [.int .i64 k,.bool b,.int .i64 n,.str s,slP 1 sRow ks,slP 6 VT.row l]).length=6:=fun _=>rfl
 rw[w71_0,b71_0];by_cases k1:k=1
 ·subst k1;simp (maxSteps:=9999999) +contextual only[exa,rA,rB,rD,rE,rF,rG,rH,rI,rJ,exW,exY,r0,l6,t6,P0',p1,if_true,if_false,oneOf];refine(qCf (Heap.own_get _ 3 1 _ (by decide) (fun e=>by cases e))).trans ?_;simp[rawV,Sl.len,Sl.list]
 by_cases k2:k=2
 ·subst k2;simp (maxSteps:=9999999) +contextual only[exa,rA,rB,rD,rE,rF,rG,rH,rI,rJ,exW,exY,r0,l6,t6,P0',p2,if_true,if_false,oneOf];refine(qCf (Heap.own_get _ 3 1 _ (by decide) (fun e=>by cases e))).trans ?_;simp[rawV,Sl.len,Sl.list]
 by_cases k3:k=3
 ·subst k3;simp (maxSteps:=9999999) +contextual only[exa,rA,rB,rD,rE,rF,rG,rH,rI,rJ,exW,exY,r0,l6,t6,P0',p3,if_true,if_false,oneOf];refine(qCf (Heap.own_get _ 3 1 _ (by decide) (fun e=>by cases e))).trans ?_;simp[rawV,Sl.len,Sl.list]
 by_cases k5:k=5
 ·subst k5;simp (maxSteps:=9999999) +contextual only[exa,rA,rB,rD,rE,rF,rG,rH,rI,rJ,exW,exY,r0,l6,t6,P0',p4,if_true,if_false,oneOf];rw[w71_1,b71_1];simp (maxSteps:=9999999) +contextual only[exa,rA,rB,rD,rE,rF,rG,rH,rI,rJ,exW,exY,q1,q2,if_true,if_false,oneOf];refine(qCf (Heap.own_get _ 3 1 _ (by decide) (fun e=>by cases e))).trans ?_;simp[rawV,Sl.len,Sl.list]
 by_cases k4:k=4
 ·subst k4;simp (maxSteps:=9999999) +contextual only[exa,rA,rB,rD,rE,rF,rG,rH,rI,rJ,exW,exY,r0,l6,t6,P0',if_true,if_false,oneOf];rw[w71_1,b71_1];simp (maxSteps:=9999999) +contextual only[exa,rA,rB,rD,rE,rF,rG,rH,rI,rJ,exW,exY,q1,q2,if_true,if_false,oneOf];refine(qCf (Heap.own_get _ 3 1 _ (by decide) (fun e=>by cases e))).trans ?_;simp[rawV,Sl.len,Sl.list]
 ·have k45:¬ (k=5∨k=4):=fun x=>x.elim k5 k4
  simp (maxSteps:=9999999) +contextual only[exa,rA,rB,rD,rE,rF,rG,rH,rI,rJ,exW,exY,r0,l6,t6,P0',k1,k2,k3,k4,k5,k45,if_true,if_false,oneOf];refine(qCf (Heap.own_get _ 3 1 _ (by decide) (fun e=>by cases e))).trans ?_;simp[rawV,Sl.len,Sl.list]
def badV0(v:VT):Bool:=decide (v.kind<0)||decide (5<v.kind)||extraM v||(decide (v.kind=5) && !decide ((v.keys.len:Int)=(v.l.len:Int)))
mutual
def chkV:VT→Int→Int→Int×Int
 |.mk k b n s ks l,d,m =>
  if 2000<m+1 then (3,m+1) else if badV0 (.mk k b n s ks l)=true then (1,m+1) else if 12<d then (13,m+1) else if (40:Int)<(l.len:Int) then (3,m+1)
  else if (200:Int)<(s.length:Int) then (4,m+1) else if ¬ keysE ks.list=0 then (keysE ks.list,m+1) else chkS l (d+1) (m+1)
def chkS:Sl VT→Int→Int→Int×Int
 |.nil,_,m=>(0,m)
 |.mk _ l,d,m=>chkL l d m
def chkL:List VT→Int→Int→Int×Int
 |[],_,m=>(0,m)
 |v::vs,d,m=>if ¬ (chkV v d m).1=0 then chkV v d m else chkL vs d (chkV v d m).2
end
theorem qQn(l:Sl VT)(d m:Int):chkS l d m=chkL l.list d m:=by cases l <;> simp[chkS,chkL,Sl.list]
theorem qGN(v:VT)(d m:Int):chkV v d m=if 2000<m+1 then (3,m+1) else if badV0 v=true then (1,m+1) else if 12<d then (13,m+1) else if (40:Int)<(v.l.len:Int) then (3,m+1)
  else if (200:Int)<(v.s.length:Int) then (4,m+1) else if ¬ keysE v.keys.list=0 then (keysE v.keys.list,m+1) else chkL v.l.list (d+1) (m+1):=by
 cases v with
 |mk k b n s ks l=>rw[chkV,qQn]; rfl
theorem qJz:∀ (n:Nat),(∀ (v:VT) (d m:Int),SizeOf.sizeOf v<n→0≤m→m≤2000→(chkV v d m).1=0→0≤(chkV v d m).2∧(chkV v d m).2≤2000) ∧
  (∀ (l:List VT) (d m:Int),(∀ v∈l,SizeOf.sizeOf v<n)→0≤m→m≤2000→(chkL l d m).1=0→0≤(chkL l d m).2∧(chkL l d m).2≤2000)
 |0=>⟨fun v d m h=>by omega,fun l d m h h1 h2 _=>by
  cases l with
  |nil=>exact⟨h1,h2⟩
  |cons v l=>have:=h v (by simp); omega⟩
 |n+1=>by
  obtain⟨i1,i2⟩:=qJz n;have key:∀ (v:VT) (d m:Int),SizeOf.sizeOf v<n+1→0≤m→m≤2000→(chkV v d m).1=0→0≤(chkV v d m).2∧(chkV v d m).2≤2000:=by
   intro v d m hs h1 h2 h;rw[qGN] at h ⊢;by_cases c1:2000<m+1
   ·rw[if_pos c1] at h; exact absurd h (show ¬ (3:Int)=0 by decide)
   rw[if_neg c1] at h ⊢;by_cases c2:badV0 v=true
   ·rw[if_pos c2] at h; exact absurd h (show ¬ (1:Int)=0 by decide)
   rw[if_neg c2] at h ⊢;by_cases c3:12<d
   ·rw[if_pos c3] at h; exact absurd h (show ¬ (13:Int)=0 by decide)
   rw[if_neg c3] at h ⊢;by_cases c4:(40:Int)<(v.l.len:Int)
   ·rw[if_pos c4] at h; exact absurd h (show ¬ (3:Int)=0 by decide)
   rw[if_neg c4] at h ⊢;by_cases c5:(200:Int)<(v.s.length:Int)
   ·rw[if_pos c5] at h; exact absurd h (show ¬ (4:Int)=0 by decide)
   rw[if_neg c5] at h ⊢;by_cases c6:¬ keysE v.keys.list=0
   ·rw[if_pos c6] at h; exact absurd h c6
   rw[if_neg c6] at h ⊢;exact i2 _ _ _ (fun x hx=>by have:=VT.mem_size hx; omega) (by omega) (by omega) h
  refine⟨key,?_⟩;intro l
  induction l with
  |nil=>intro d m _ h1 h2 _; exact⟨h1,h2⟩
  |cons v l ih =>
   intro d m h h1 h2 e;rw[chkL] at e ⊢;by_cases c:¬ (chkV v d m).1=0
   ·rw[if_pos c] at e; exact absurd e c
   ·rw[if_neg c] at e ⊢;obtain⟨a1,a2⟩:=key v d m (h v (by simp)) h1 h2 (Decidable.not_not.1 c);exact ih d _ (fun x hx=>h x (by simp[hx])) a1 a2 e
abbrev mO(m:Int):AObj := .cells [.p (.int .i64 m)] 0
theorem qBk(m:Int):plainO (mO m):=qAI [.int .i64 m] 0
def ChkOK(v:VT):Prop:=∀ d m:Int,0≤d→d≤100→0≤m→m≤2000→Om 44 [kA v.row,kI d,P0] [mO m]=some (kI (chkV v d m).1,[mO (chkV v d m).2])
theorem qO8(v:VT)(d:Int)(hd:0≤d∧d≤12)(hl:v.l.len≤1000000)(ok:∀ x∈v.l.list,ChkOK x) :
  ∀ (i:Nat) (m:Int) (h:Heap),0≤m→m≤2000→h.get (.im 0)=some (mO m) →
   lim tab.get S 44 1 1 [kI d,P0,.v (.c (.p (slP 6 VT.row v.l))),kI (v.l.len:Int),kI (i:Int)] h=some (kI (chkL (v.l.list.drop i) (d+1) m).1,[mO (chkL (v.l.list.drop i) (d+1) m).2]):=by
 refine qAk v.l.len (fun i hi m h h1 h2 hg => ?_) (fun i hi ih m h h1 h2 hg => ?_) <;> rw[w44_1,b44_1]
 ·have t1:¬ (i:Int)<(v.l.len:Int):=by omega
  have fin:=qAb true [.c (.p (.int .i64 0))] (mO m) rfl hg (qBk m);simp (maxSteps:=9999999) +contextual only[exa,rA,rB,rD,rE,rF,rG,rH,rI,rJ,exW,exY,t1,qAc hi,chkL,fin,oneOf]
 ·have t1:(i:Int)<(v.l.len:Int):=by omega
  obtain⟨x,hx,e1,mx⟩:=qAT hi;have ed:IntKind.i64.wrap (d+1)=d+1:=qAH _ (by omega) (by omega);have c44:∀ {β:Type}{k:TVal→Heap→Option β}{h:Heap}{e:Nat},h.get (.im 0)=some (mO m)→vcall Om (.v (.c (.func 44 []))) [kA x.row,kI (d+1),P0] h e k=k (kI (chkV x (d+1) m).1) (h.put (.im 0) (mO (chkV x (d+1) m).2)):=fun{β k h e} hg =>
   qAq 44 (.im 0) 0 [kA x.row,kI (d+1)] [] _ _ _ (by simp only[exP]) rfl hg (qBk _) (qBk _) rfl (ok x mx (d+1) m (by omega) (by omega) h1 h2)
  have hg2:∀ o,(h.own 9 (h.gen 9+1) o).get (.im 0)=some (mO m):=fun o=>(Heap.own_get_im _ _ _ _ _).trans hg
  have l6:(pcells x.row).length=6:=by rw[qAM,VT.row_len]
  have t6:(pcells x.row).take 6=pcells x.row:=List.take_of_length_le (by omega);have P6:∀ Z:List Cell,Z.length=6→put1 Z 0 (pcells x.row)=pcells x.row:=fun Z hz=>qAh _ _ (by rw[hz,l6])
  rw[e1,chkL];by_cases c:¬ (chkV x (d+1) m).1=0
  ·rw[if_pos c];have fin:∀ h:Heap,h.get (.im 0)=some (mO m)→vfin true 1 [.c (.p (.int .i64 (chkV x (d+1) m).1))] (h.put (.im 0) (mO (chkV x (d+1) m).2))=some (kI (chkV x (d+1) m).1,[mO (chkV x (d+1) m).2]):=fun h hg=>qAb true [.c (.p (.int .i64 (chkV x (d+1) m).1))] _ rfl (Heap.zput_self hg (fun e=>by cases e)) (qBk _)
   simp (maxSteps:=9999999) +contextual only[exa,rA,rB,rD,rE,rF,rG,rH,rI,rJ,exW,exY,t1,hx,ed,l6,t6,P6];refine(c44 ?_).trans ?_
   ·exact hg
   simp (maxSteps:=9999999) +contextual only[exa,rA,rB,rD,rE,rF,rG,rH,rI,rJ,exW,exY,c,oneOf];exact fin _ hg
  ·rw[if_neg c];have c0:=Decidable.not_not.1 c;have mm:=(qJz (SizeOf.sizeOf x+1)).1 x (d+1) m (by omega) h1 h2 c0;simp (maxSteps:=9999999) +contextual only[exa,rA,rB,rD,rE,rF,rG,rH,rI,rJ,exW,exY,t1,hx,ed,l6,t6,P6];refine(c44 ?_).trans ?_
   ·exact hg
   simp (maxSteps:=9999999) +contextual only[exa,rA,rB,rD,rE,rF,rG,rH,rI,rJ,exW,exY,c0,qAl i (by omega),oneOf];exact ih _ _ mm.1 mm.2 (Heap.zput_self (x:=mO m) hg (fun e=>by cases e))
def wtV(v:VT):Prop:=v.keys.len≤1000000∧v.l.len≤1000000
mutual
def wtA:VT→Prop
 |.mk _ _ _ _ ks l=>(ks.len≤1000000∧l.len≤1000000)∧wtS l
def wtS:Sl VT→Prop
 |.nil=>True
 |.mk _ l=>wtL l
def wtL:List VT→Prop
 |[]=>True
 |v::vs=>wtA v∧wtL vs
end
theorem qJW:∀ {l:List VT},wtL l→∀ x∈l,wtA x
 |v::vs,h,x,hx=>by
  rw[wtL] at h
  rcases List.mem_cons.1 hx with rfl|hx
  ·exact h.1
  ·exact qJW h.2 x hx
theorem qLa(v:VT)(h:wtA v):wtV v∧∀ x∈v.l.list,wtA x:=by
 cases v with
 |mk k b n s ks l =>
  rw[wtA] at h;refine⟨h.1,?_⟩;cases l with
  |nil=>intro x hx; simp[VT.l,Sl.list] at hx
  |mk t l =>
   have:=h.2;rw[wtS] at this;exact qJW this
theorem qRW:∀ (n:Nat) (v:VT),SizeOf.sizeOf v<n→wtA v→ChkOK v:=by
 intro n
 induction n with
 |zero=>intro v h; omega
 |succ n ihn =>
  intro v hs wt d m d1 d2 h1 h2;obtain⟨⟨w1,w2⟩,w3⟩:=qLa v wt;have ok:∀ x∈v.l.list,ChkOK x:=fun x hx=>ihn x (by have:=VT.mem_size hx; omega) (w3 x hx)
  refine(qAB rfl).trans ?_;show lim tab.get S 44 1 0 [kA v.row,kI d,P0] (Heap.mk [mO m] .nil)=_;have em:IntKind.i64.wrap (m+1)=m+1:=qAH _ (by omega) (by omega);have c71:=fun{β:Type} {k:TVal→Heap→Option β} {h:Heap} {e:Nat}=>qAC (O:=Om) (k:=k) (h:=h) (d:=e) 71 [kA v.row] _ (by simp only[exP]) (qQO v) rfl
  have c72:=fun{β:Type} {k:TVal→Heap→Option β} {h:Heap} {e:Nat}=>qAC (O:=Om) (k:=k) (h:=h) (d:=e) 72 [.v (.c (.p (slP 1 sRow v.keys)))] _ (by simp only[exP]) (qRb v.keys w1) rfl
  have hg:(Heap.mk [mO m] .nil).get (.im 0)=some (mO m):=rfl;have l6:(pcells v.row).length=6:=by rw[qAM,VT.row_len]
  have t6:(pcells v.row).take 6=pcells v.row:=List.take_of_length_le (by omega);have fin:∀ (x:Int) (o:AObj),vfin true 1 [.c (.p (.int .i64 x))] (((Heap.mk [mO m] .nil).own 3 1 o).put (.im 0) (mO (m+1)))=some (kI x,[mO (m+1)]):=fun x o=>qAb true [.c (.p (.int .i64 x))] _ rfl rfl (qBk _)
  rw[w44_0,b44_0,qGN];by_cases b1:2000<m+1
  ·rw[if_pos b1];simp (maxSteps:=9999999) +contextual only[exa,rA,rB,rD,rE,rF,rG,rH,rI,rJ,exW,exY,hg,em,b1,l6,t6,oneOf]
  rw[if_neg b1];have bad:badV0 v=(decide (v.kind<0)||decide (5<v.kind)||extraM v||(decide (v.kind=5) && !decide ((v.keys.len:Int)=(v.l.len:Int)))):=rfl;by_cases b2:badV0 v=true
  ·rw[if_pos b2];rw[bad] at b2;by_cases k0:v.kind<0
   ·simp (maxSteps:=9999999) +contextual only[exa,rA,rB,rD,rE,rF,rG,rH,rI,rJ,exW,exY,hg,em,b1,k0,l6,t6,oneOf]
   by_cases k5:5<v.kind
   ·simp (maxSteps:=9999999) +contextual only[exa,rA,rB,rD,rE,rF,rG,rH,rI,rJ,exW,exY,hg,em,b1,k0,k5,l6,t6,oneOf]
   cases hx:extraM v
   ·simp only[k0,k5,hx,decide_false,Bool.false_or,Bool.and_eq_true,decide_eq_true_eq,Bool.not_eq_true',decide_eq_false_iff_not] at b2;simp (maxSteps:=9999999) +contextual only[exa,rA,rB,rD,rE,rF,rG,rH,rI,rJ,exW,exY,hg,em,b1,k0,k5,c71,hx,b2.1,b2.2,l6,t6,oneOf]
   ·simp (maxSteps:=9999999) +contextual only[exa,rA,rB,rD,rE,rF,rG,rH,rI,rJ,exW,exY,hg,em,b1,k0,k5,c71,hx,l6,t6,oneOf]
  rw[if_neg b2];have b2':=Bool.eq_false_iff.2 b2;rw[bad,Bool.or_eq_false_iff,Bool.or_eq_false_iff,Bool.or_eq_false_iff] at b2';obtain⟨⟨⟨k0,k5⟩,hx⟩,hk⟩:=b2';have k0:¬ v.kind<0:=of_decide_eq_false k0;have k5:¬ 5<v.kind:=of_decide_eq_false k5;have nk:∀ {β:Type}(y z:Option β),v.kind=5→((v.keys.len:Int)=(v.l.len:Int)):=fun y z e=>by
   rw[decide_eq_true e] at hk
   simpa using hk
  have fold:∀ (G:Prop),((v.kind=5→((v.keys.len:Int)=(v.l.len:Int))→G)∧(¬ v.kind=5→G))→G:=fun G h=>by
   by_cases e:v.kind=5
   ·exact h.1 e (nk (β:=Unit) none none e)
   ·exact h.2 e
  by_cases b3:12<d
  ·rw[if_pos b3];refine fold _ ⟨fun e1 e2 => ?_,fun e1 => ?_⟩
   ·simp (maxSteps:=9999999) +contextual only[exa,rA,rB,rD,rE,rF,rG,rH,rI,rJ,exW,exY,hg,em,b1,k0,k5,c71,hx,e1,e2,b3,l6,t6,oneOf]
   ·simp (maxSteps:=9999999) +contextual only[exa,rA,rB,rD,rE,rF,rG,rH,rI,rJ,exW,exY,hg,em,b1,k0,k5,c71,hx,e1,b3,l6,t6,oneOf]
  rw[if_neg b3];by_cases b4:(40:Int)<(v.l.len:Int)
  ·rw[if_pos b4];refine fold _ ⟨fun e1 e2 => ?_,fun e1 => ?_⟩
   ·simp (maxSteps:=9999999) +contextual only[exa,rA,rB,rD,rE,rF,rG,rH,rI,rJ,exW,exY,hg,em,b1,k0,k5,c71,hx,e1,e2,b3,b4,l6,t6,oneOf]
   ·simp (maxSteps:=9999999) +contextual only[exa,rA,rB,rD,rE,rF,rG,rH,rI,rJ,exW,exY,hg,em,b1,k0,k5,c71,hx,e1,b3,b4,l6,t6,oneOf]
  rw[if_neg b4];by_cases b5:(200:Int)<(v.s.length:Int)
  ·rw[if_pos b5];refine fold _ ⟨fun e1 e2 => ?_,fun e1 => ?_⟩
   ·simp (maxSteps:=9999999) +contextual only[exa,rA,rB,rD,rE,rF,rG,rH,rI,rJ,exW,exY,hg,em,b1,k0,k5,c71,hx,e1,e2,b3,b4,b5,l6,t6,oneOf]
   ·simp (maxSteps:=9999999) +contextual only[exa,rA,rB,rD,rE,rF,rG,rH,rI,rJ,exW,exY,hg,em,b1,k0,k5,c71,hx,e1,b3,b4,b5,l6,t6,oneOf]
  rw[if_neg b5];have nx:=qO8 v d ⟨d1,by omega⟩ w2 ok 0 (m+1);rw[List.drop_zero] at nx;by_cases b6:¬ keysE v.keys.list=0
  ·rw[if_pos b6];refine fold _ ⟨fun e1 e2 => ?_,fun e1 => ?_⟩
   ·simp (maxSteps:=9999999) +contextual only[exa,rA,rB,rD,rE,rF,rG,rH,rI,rJ,exW,exY,hg,em,b1,k0,k5,c71,c72,hx,e1,e2,b3,b4,b5,b6,l6,t6,oneOf]
   ·simp (maxSteps:=9999999) +contextual only[exa,rA,rB,rD,rE,rF,rG,rH,rI,rJ,exW,exY,hg,em,b1,k0,k5,c71,c72,hx,e1,b3,b4,b5,b6,l6,t6,oneOf]
  rw[if_neg b6];have b6':=Decidable.not_not.1 b6;refine fold _ ⟨fun e1 e2 => ?_,fun e1 => ?_⟩
  ·simp (maxSteps:=9999999) +contextual only[exa,rA,rB,rD,rE,rF,rG,rH,rI,rJ,exW,exY,hg,em,b1,k0,k5,c71,c72,hx,e1,e2,b3,b4,b5,b6',l6,t6,oneOf];exact nx _ (by omega) (by omega) rfl
  ·simp (maxSteps:=9999999) +contextual only[exa,rA,rB,rD,rE,rF,rG,rH,rI,rJ,exW,exY,hg,em,b1,k0,k5,c71,c72,hx,e1,b3,b4,b5,b6',l6,t6,oneOf];exact nx _ (by omega) (by omega) rfl
theorem qQH(v:VT)(wt:wtA v):Om 24 [kA v.row] []=some (kI (chkV v 1 0).1,[]):=by
 refine(qAB rfl).trans ?_;show lim tab.get S 24 0 0 [kA v.row] h0=_;have c44:∀ {β:Type}{k:TVal→Heap→Option β}{h:Heap}{e:Nat}(r:Ref),h.get r=some (mO 0)→vcall Om (.v (.c (.func 44 []))) [kA v.row,kI 1,.v (.c (.ptr r 0))] h e k=k (kI (chkV v 1 0).1) (h.put r (mO (chkV v 1 0).2)):=fun{β k h e} r hg =>
  qAq 44 r 0 [kA v.row,kI 1] [] _ _ _ (by simp only[exP]) rfl hg (qBk _) (qBk _) rfl (qRW _ v (Nat.lt_succ_self _) wt 1 0 (by decide) (by decide) (by decide) (by decide))
 have l6:(pcells v.row).length=6:=by rw[qAM,VT.row_len]
 have t6:(pcells v.row).take 6=pcells v.row:=List.take_of_length_le (by omega);rw[w24_0,b24_0];simp (maxSteps:=9999999) +contextual only[exa,rA,rB,rD,rE,rF,rG,rH,rI,rJ,exW,exY,c44,l6,t6,oneOf]
def escM(b:UInt8):List UInt8:=if b=92 then [92,92] else if b=34 then [92,34] else if b=10 then [92,110] else if b=9 then [92,116] else [b]
def quoteM(s:List UInt8):List UInt8:=[34]++s.flatMap escM++[34]
def boolM(b:Bool):List UInt8:=if b then [116,114,117,101] else [102,97,108,115,101]
mutual
def txV:VT→List UInt8
 |.mk k b n s ks l=>if k=0 then [110,117,108,108] else if k=1 then boolM b else if k=2 then Lib.itoa n else if k=3 then quoteM s else if k=4 then [91]++Lib.join (txS l) [44]++[93] else [123]++Lib.join (enS ks.list l) [44]++[125]
def txS:Sl VT→List (List UInt8)
 |.nil=>[]
 |.mk _ l=>txL l
def txL:List VT→List (List UInt8)
 |[]=>[]
 |v::l=>txV v::txL l
def enS:List (List UInt8)→Sl VT→List (List UInt8)
 |_,.nil=>[]
 |ks,.mk _ l=>enL ks l
def enL:List (List UInt8)→List VT→List (List UInt8)
 |k::ks,v::l=>(quoteM k++[58]++txV v)::enL ks l
 |_,_=>[]
end
theorem qRu(l:Sl VT):txS l=txL l.list:=by cases l <;> simp[txS,txL,Sl.list]
theorem qRV(ks:List (List UInt8))(l:Sl VT):enS ks l=enL ks l.list:=by
 cases l with
 |nil=>cases ks <;> simp[enS,enL,Sl.list]
 |mk t l=>simp[enS,Sl.list]
def brL(v:VT):List UInt8:=[91]++Lib.join (txL v.l.list) [44]++[93]
def brT(v:VT):List UInt8:=[123]++Lib.join (enL v.keys.list v.l.list) [44]++[125]
theorem qB3(v:VT):txV v=if v.kind=0 then [110,117,108,108] else if v.kind=1 then boolM v.b else if v.kind=2 then Lib.itoa v.n else if v.kind=3 then quoteM v.s else if v.kind=4 then brL v else brT v:=by
 cases v with
 |mk k b n s ks l=>rw[txV,qRu,qRV]; rfl
theorem qIh(l:List VT):txL l=l.map txV:=by
 induction l with
 |nil=>rfl
 |cons v l ih=>rw[txL,ih]; rfl
theorem qCG(l:List VT):enL [] l=[]:=by cases l <;> simp[enL]
theorem qDv(ns:List (List UInt8)):enL ns []=[]:=by cases ns <;> simp[enL]
theorem qGV:∀ (ns:List (List UInt8)) (l:List VT),(enL ns l).length≤l.length
 |[],l=>by rw[qCG]; exact Nat.zero_le _
 |_::_,[]=>by rw[qDv]; exact Nat.le_refl _
 |a::ns,b::l=>by rw[enL,List.length_cons,List.length_cons]; have:=qGV ns l; omega
theorem qJn:∀ (ns:List (List UInt8)) (l:List VT) (i:Nat) (n:List UInt8) (t:VT),ns[i]?=some n→l[i]?=some t→(quoteM n++[58]++txV t)∈enL ns l
 |a::ns,b::l,0,n,t,h1,h2=>by
  obtain rfl:a=n:=by simpa using h1
  obtain rfl:b=t:=by simpa using h2
  rw[enL]; exact List.mem_cons_self
 |a::ns,b::l,i+1,n,t,h1,h2=>by
  rw[enL];exact List.mem_cons_of_mem _ (qJn ns l i n t (by simpa using h1) (by simpa using h2))
 |[],_,i,n,t,h1,_=>by simp at h1
 |_::_,[],i,n,t,_,h2=>by simp at h2
theorem qHK(sep:List UInt8):∀ (r:List (List UInt8)) (x:List UInt8),x∈r→x.length≤(Lib.joinTail sep r).length
 |y::r,x,h=>by
  have e:Lib.joinTail sep (y::r)=(sep++y)++Lib.joinTail sep r:=by simp[Lib.joinTail]
  rw[e,List.length_append,List.length_append]
  rcases List.mem_cons.1 h with rfl|h
  ·omega
  ·have:=qHK sep r x h; omega
theorem qOC(sep:List UInt8)(l:List (List UInt8))(x:List UInt8)(h:x∈l):x.length≤(Lib.join l sep).length:=by
 cases l with
 |nil=>cases h
 |cons y r =>
  rw[Lib.join_cons,List.length_append]
  rcases List.mem_cons.1 h with rfl|h
  ·omega
  ·have:=qHK sep r x h; omega
theorem qEt:∀ xs:List (List UInt8),strRows (xs.map sRow)=some xs
 |[]=>rfl
 |x::xs=>by
  show(bnd (strRow (sRow x)) fun s=>bnd (strRows (xs.map sRow)) fun t=>some (s::t))=_;rw[qEt xs]; rfl
theorem qSd(xs:List (List UInt8))(sep:List UInt8)(h1:(Lib.join xs sep).length≤140737488355328)(h2:xs.length≤140737488355328):Om 32 [.v (.c (.p (growP 1 (xs.map sRow)))),kS sep] []=some (kS (Lib.join xs sep),[]):=by
 have e:S 32 [.v (.c (.p (growP 1 (xs.map sRow)))),kS sep] []=some (kS (Lib.join xs sep),[]):=by
  show(match (none:Option (TVal×List AObj)) with|some r=>some r|none=>joinP (growP 1 (xs.map sRow)) sep)=_;cases xs with
  |nil=>rfl
  |cons x xs =>
   show bnd (strRows ((x::xs).map sRow)) (fun ys=>joinO ys sep)=_;rw[qEt];show(bif Nat.ble (lenF (Lib.join (x::xs) sep)) 140737488355328&&Nat.ble (lenF (x::xs)) 140737488355328 then _ else none)=_;rw[qAL,qAL,show Nat.ble (Lib.join (x::xs) sep).length 140737488355328=true from Nat.ble_eq_true_of_le h1,show Nat.ble (x::xs).length 140737488355328=true from Nat.ble_eq_true_of_le h2]; rfl
 show Option.rec (motive:=fun _=>Res1) _ some (S 32 _ [])=_;rw[e]
def QOk(s:List UInt8):Prop:=Om 31 [kS s] []=some (kS (quoteM s),[])
theorem qSZ(b:UInt8):escQ b=escM b:=by
 unfold escQ escM;by_cases h1:b=92
 ·subst h1; rfl
 by_cases h2:b=34
 ·subst h2; rfl
 by_cases h3:b=10
 ·subst h3; rfl
 by_cases h4:b=9
 ·subst h4; rfl
 have n:∀ c:UInt8,¬ b=c→Nat.beq b.toNat c.toNat=false:=fun c h=>Bool.eq_false_iff.2 fun e=>h (UInt8.toNat_inj.1 (Nat.eq_of_beq_eq_true e))
 have n1:Nat.beq b.toNat 92=false:=n 92 h1;have n2:Nat.beq b.toNat 34=false:=n 34 h2;have n3:Nat.beq b.toNat 10=false:=n 10 h3;have n4:Nat.beq b.toNat 9=false:=n 9 h4;rw[n1,n2,n3,n4,if_neg h1,if_neg h2,if_neg h3,if_neg h4];rfl
theorem qok(s:List UInt8)(h:s.length≤100000):QOk s:=by
 have ef:s.flatMap escQ=s.flatMap escM:=by congr 1; funext b; exact qSZ b
 have e1:SQG 31 31 [kS s] []=some (kS (quoteM s),[]):=by
  show(bif Nat.ble (lenF s) 100000 then _ else none)=_;rw[qAL,Nat.ble_eq_true_of_le h];show some (kS ([34]++(s.flatMap escQ++[34])),[])=_;rw[ef];unfold quoteM;rw[List.append_assoc]
 have e:S 31 [kS s] []=some (kS (quoteM s),[]):=by
  show(match SQG 31 31 [kS s] [] with|some r=>some r|none=>_)=_;rw[e1]
 show Option.rec (motive:=fun _=>Res1) _ some (S 31 [kS s] [])=_;rw[e]
def TxOK(v:VT):Prop:=Om 14 [kA v.row] []=some (kS (txV v),[])
theorem qMK{xs:List (List UInt8)}{c:Cell}(h1:xs=[]→c = .p .nilslice)(h2:xs≠[]→∃ r,c = .tsl 1 (xs.map sRow) r):Bears 1 c (xs.map sRow):=by
 by_cases h:xs=[]
 ·exact .inl ⟨by rw[h]; rfl,h1 h⟩
 ·exact .inr ⟨by simpa using h,h2 h⟩
theorem b32{xs:List (List UInt8)}{c:Cell}(G:Bears 1 c (xs.map sRow))(hl:(Lib.join xs [44]).length≤1000000000)(hn:xs.length≤1000000){β:Type}{k:TVal→Heap→Option β}{h:Heap}{d:Nat}:vcall Om (.v (.c (.func 32 []))) [.v (.c c),kS [44]] h d k=k (kS (Lib.join xs [44])) h :=
 (G.call1 32 [kS [44]]).trans (qAC 32 _ _ rfl (qSd xs [44] (by omega) (by omega)) rfl)
theorem qJu(a b:UInt8)(xs:List (List UInt8))(c:Cell)(G:Bears 1 c (xs.map sRow))(h:Heap)(hs:([a]++Lib.join xs [44]++[b]).length≤1000000000)(hn:xs.length≤1000)(l:Nat)(hl:(l,a,b)=(2,(91:UInt8),(93:UInt8))∨(l,a,b)=(6,(123:UInt8),(125:UInt8))):lim tab.get S 14 0 l [.v (.c c)] h=some (kS ([a]++Lib.join xs [44]++[b]),[]):=by
 simp only[List.length_append,List.length_cons,List.length_nil] at hs;have cj:=fun{β:Type} {k:TVal→Heap→Option β} {h:Heap} {d:Nat}=>b32 (k:=k) (h:=h) (d:=d) G (by omega) (by omega)
 have s1:([a]:List UInt8).length+(Lib.join xs [44]).length≤4611686018427387904:=by simp; omega
 have s2:([a]++Lib.join xs [44]).length+([b]:List UInt8).length≤4611686018427387904:=by simp; omega
 have A1:∀ {β:Type}{h:Heap}{k:TVal→Heap→Option β},vbin .add 0 (kS [a]) (kS (Lib.join xs [44])) h k=k (kS ([a]++Lib.join xs [44])) h:=fun{β h k}=>qA0 0 _ _ s1
 have A2:∀ {β:Type}{h:Heap}{k:TVal→Heap→Option β},vbin .add 0 (kS ([a]++Lib.join xs [44])) (kS [b]) h k=k (kS ([a]++Lib.join xs [44]++[b])) h:=fun{β h k}=>qA0 0 _ _ s2
 rcases hl with hl|hl
 ·obtain⟨rfl,rfl,rfl⟩:l=2∧a=91∧b=93:=by simpa using hl
  rw[w14_2,b14_2];simp only[cj,A1,A2,qAj,qIN]
 ·obtain⟨rfl,rfl,rfl⟩:l=6∧a=123∧b=125:=by simpa using hl
  rw[w14_6,b14_6];simp only[cj,A1,A2,qAj,qIN]
abbrev vsP(l:Sl VT):TVal := .v (.c (.p (slP 6 VT.row l)))
theorem z6put(v:VT):put1 Z6 0 (pcells v.row)=pcells v.row:=qAh _ _ (by rw[qAM,VT.row_len]; rfl)
theorem qLx(l:Sl VT)(hl:l.len≤1000)(ok:∀ x∈l.list,TxOK x)(hs:([91]++Lib.join (txL l.list) [44]++[93]).length≤1000000000) :
  ∀ (i:Nat) (acc:List (List UInt8)) (c:Cell) (h:Heap),acc.length≤i→acc++txL (l.list.drop i)=txL l.list→GS [40] 1 c (acc.map sRow) h→(acc=[]→c = .p .nilslice)→(acc≠[]→∃ r,c = .tsl 1 (acc.map sRow) r) →
   lim tab.get S 14 0 1 [.v (.c c),vsP l,kI (l.len:Int),kI (i:Int)] h=some (kS ([91]++Lib.join (txL l.list) [44]++[93]),[]):=by
 have lt:(txL l.list).length≤1000:=by rw[qIh,List.length_map]; exact hl
 refine qAk l.len (fun i hi acc c h hL he G c0 c1 => ?_) (fun i hi ihl acc c h hL he G c0 c1 => ?_) <;> rw[w14_1,b14_1]
 ·have h1:¬ (i:Int)<(l.len:Int):=by omega
  have e1:l.list.drop i=[]:=qAc hi;rw[e1,txL,List.append_nil] at he;have fin:=qJu 91 93 acc c (qMK c0 c1) h (by rw[he]; exact hs) (by rw[he]; exact lt) 2 (.inl rfl);rw[he] at fin;simp (maxSteps:=9999999) +contextual only[exa,rA,rB,rD,rE,rF,rG,rH,rI,rJ,exW,exY,h1];exact fin
 ·have h1:(i:Int)<(l.len:Int):=by omega
  obtain⟨x,hx,dx,mx⟩:=qAT (l:=l.list) (i:=i) hi;rw[dx,txL] at he;have cc:CAL 14 [kA x.row] (kS (txV x)):=qAC 14 _ _ (by simp only[exP]) (ok x mx) rfl;have g5:((h.own 5 (h.gen 5+1) (.cells Z6 0)).own 5 (h.gen 5+1) (.cells (pcells x.row) 0)).get (.own 5 (h.gen 5+1))=some (.cells (pcells x.row) 0):=qBG _ 5 _ _ 0 (by decide);have G5:GS [40] 1 c (acc.map sRow) ((h.own 5 (h.gen 5+1) (.cells Z6 0)).own 5 (h.gen 5+1) (.cells (pcells x.row) 0)):=(G.own _ _ (by decide)).own _ _ (by decide);have B:∀ {β:Type}{O:Oracle}{h:Heap}{d:Nat}{k:TVal→Heap→Option β},vop O (.bslice 1 1 [.p (.str [])] [(0,.k (kS (txV x)))] false) h d k=k (kSl 1 true [[.str (txV x)]]) h:=qAY _ _ rfl;obtain⟨c',h',t',G',e',T',K',I',X'⟩:=qB4 (d:=40) (by':=16) (new:=[[.str (txV x)]]) (b := .slice 1 true [[.str (txV x)]]) (.inr ⟨_,rfl⟩) G5 (by decide) (fun r hr=>by simp at hr; rw[hr]; rfl) (by simp; omega) (by decide);have e2:∀ {β:Type}{k:TVal→Heap→Option β},vop Om (.append 1 16 false (.k (.v (.c c))) (.k (kSl 1 true [[.str (txV x)]]))) ((h.own 5 (h.gen 5+1) (.cells Z6 0)).own 5 (h.gen 5+1) (.cells (pcells x.row) 0)) 40 k=k (.v (.c c')) h':=fun{β k}=>by rw[qG8,e']
  simp (maxSteps:=9999999) +contextual only[exa,rA,rB,rD,rE,rF,rG,rH,rI,rJ,exW,exY,h1,hx,z6put,g5,cc,B,e2,qAl i (by omega)];refine ihl (acc++[txV x]) c' h' (by simp; omega) (by rw[List.append_assoc]; exact he) (by rw[List.map_append]; exact G') (fun e=>absurd e (by simp)) (fun _ => ?_);obtain⟨r,e⟩:=X' (.inl (by simp));exact⟨r,by rw[e,List.map_append]; rfl⟩
theorem k31q{β:Type}{kt:TVal→Heap→AI.Touch→Option β}{h:Heap}{d:Nat}{s:List UInt8}(q:QOk s):vtouch Om (.call (.k (.v (.c (.func 31 [])))) [.k (kS s)]) h d kt=kt (kS (quoteM s)) h noTouch :=
 qBb 31 [kS s] _ rfl q rfl
theorem k14t{β:Type}{kt:TVal→Heap→AI.Touch→Option β}{h:Heap}{d:Nat}{x:VT}(ok:TxOK x):vtouch Om (.call (.k (.v (.c (.func 14 [])))) [.k (kA x.row)]) h d kt=kt (kS (txV x)) h noTouch :=
 qBb 14 [kA x.row] _ (by simp only[exP]) ok (by simp only[exP])
abbrev q1t:TVal := .v (.c (.ptr (.own 1 1) 0))
structure TblH (t:VT) (h:Heap):Prop where
 a1:h.get (.own 1 1)=some (.cells (pcells t.row) 0)
theorem qOX(t:VT)(s1:t.keys.len≤1000)(s2:t.l.len≤1000)(ok:∀ x∈t.l.list,TxOK x)(kq:∀ k∈t.keys.list,QOk k)(hs:(brT t).length≤1000000000) :
  ∀ (i:Nat) (acc:List (List UInt8)) (c:Cell) (h:Heap),acc.length≤i→acc++enL (t.keys.list.drop i) (t.l.list.drop i)=enL t.keys.list t.l.list→GS [71] 1 c (acc.map sRow) h→(acc=[]→c = .p .nilslice)→(acc≠[]→∃ r,c = .tsl 1 (acc.map sRow) r)→TblH t h →
   lim tab.get S 14 0 4 [q1t,.v (.c c),vsP t.l,kI (t.l.len:Int),kI (i:Int)] h=some (kS (brT t),[]):=by
 have fin:∀ (acc:List (List UInt8)) (c:Cell) (h:Heap),acc=enL t.keys.list t.l.list→Bears 1 c (acc.map sRow)→lim tab.get S 14 0 6 [.v (.c c)] h=some (kS (brT t),[]):=by
  intro acc c h e G;have:=qJu 123 125 acc c G h (by rw[e]; exact hs) (by rw[e]; have:=qGV t.keys.list t.l.list; have:t.l.list.length≤1000:=s2; omega) 6 (.inr rfl);rw[this,e]; rfl
 refine qAk t.l.len (fun i hi acc c h hl he G c0 c1 H => ?_) (fun i hi ihl acc c h hl he G c0 c1 H => ?_) <;> rw[w14_4,b14_4]
 ·have h1:¬ (i:Int)<(t.l.len:Int):=by omega
  have e1:t.l.list.drop i=[]:=qAc hi;rw[e1,qDv,List.append_nil] at he;simp (maxSteps:=9999999) +contextual only[exa,rA,rB,rD,rE,rF,rG,rH,rI,rJ,h1];exact fin acc c h he (qMK c0 c1)
 ·have h1:(i:Int)<(t.l.len:Int):=by omega
  obtain⟨x,hx,dx,mx⟩:=qAT (l:=t.l.list) (i:=i) hi;have H5:TblH t ((h.own 7 (h.gen 7+1) (.cells Z6 0)).own 7 (h.gen 7+1) (.cells (pcells x.row) 0)):=⟨(Heap.own_get_ne _ 7 _ _ 1 1 (by decide)).trans ((Heap.own_get_ne _ 7 _ _ 1 1 (by decide)).trans H.a1)⟩;have g5:((h.own 7 (h.gen 7+1) (.cells Z6 0)).own 7 (h.gen 7+1) (.cells (pcells x.row) 0)).get (.own 7 (h.gen 7+1))=some (.cells (pcells x.row) 0):=qBG _ 7 _ _ 0 (by decide);have G5:GS [71] 1 c (acc.map sRow) ((h.own 7 (h.gen 7+1) (.cells Z6 0)).own 7 (h.gen 7+1) (.cells (pcells x.row) 0)):=(G.own _ _ (by decide)).own _ _ (by decide);by_cases h2:(i:Int)<(t.keys.len:Int)
  ·obtain⟨n,hn,dn,mn⟩:=qAT (l:=t.keys.list) (i:=i) (by show i<t.keys.len; omega);rw[dx,dn,enL] at he;have hm:(quoteM n++[58]++txV x)∈enL t.keys.list t.l.list:=qJn _ _ i n x hn hx;have hj:=qOC [44] _ _ hm;have hs2:(quoteM n++[58]++txV x).length≤1000000000:=by
    unfold brT at hs;simp only[List.length_append,List.length_cons,List.length_nil] at hs hj ⊢;omega
   have hs3:=hs2;simp only[List.length_append] at hs3;have a1:(quoteM n).length+([58]:List UInt8).length≤4611686018427387904:=by simp; omega
   have a2:(quoteM n++[58]).length+(txV x).length≤4611686018427387904:=by simp; omega
   have A1:∀ {β:Type}{h:Heap}{k:TVal→Heap→Option β},vbin .add 0 (kS (quoteM n)) (kS [58]) h k=k (kS (quoteM n++[58])) h:=fun{β h k}=>qA0 0 _ _ a1
   have A2:∀ {β:Type}{h:Heap}{k:TVal→Heap→Option β},vbin .add 0 (kS (quoteM n++[58])) (kS (txV x)) h k=k (kS (quoteM n++[58]++txV x)) h:=fun{β h k}=>qA0 0 _ _ a2
   have B:∀ {β:Type}{O:Oracle}{h:Heap}{d:Nat}{kt:TVal→Heap→AI.Touch→Option β},vtouch O (.bslice 1 1 [.p (.str [])] [(0,.k (kS (quoteM n++[58]++txV x)))] false) h d kt=kt (kSl 1 true [[.str (quoteM n++[58]++txV x)]]) h noTouch:=qCv _ _ rfl;obtain⟨c',h',t',G',e',T',K',I',X'⟩:=qB4 (d:=71) (by':=16) (new:=[[.str (quoteM n++[58]++txV x)]]) (b := .slice 1 true [[.str (quoteM n++[58]++txV x)]]) (.inr ⟨_,rfl⟩) G5 (by decide) (fun r hr=>by simp at hr; rw[hr]; rfl) (by simp; omega) (by decide);have H':TblH t h':=⟨K' 1 1 _ (by decide) H5.a1⟩;simp (maxSteps:=9999999) +contextual only[A1,A2,exa,rA,rB,rD,rE,rF,rG,rH,rI,rJ,exY,h1,h2,hx,hn,z6put,H.a1,H5.a1,g5,k31q (kq n mn),k14t (ok x mx),B,e'];rw[w14_5,b14_5];simp (maxSteps:=9999999) +contextual only[exa,rA,rB,rD,rE,rF,rG,rH,rI,rJ,qAl i (by omega)];refine ihl (acc++[quoteM n++[58]++txV x]) c' h' (by simp; omega) (by rw[List.append_assoc]; exact he) (by rw[List.map_append]; exact G') (fun e=>absurd e (by simp)) (fun _ => ?_) H';obtain⟨r,e⟩:=X' (.inl (by simp));exact⟨r,by rw[e,List.map_append]; rfl⟩
  ·have e2:t.keys.list.drop i=[]:=qAc (by show t.keys.len≤i; omega);have e3:t.keys.list.drop (i+1)=[]:=qAc (by show t.keys.len≤i+1; omega);rw[e2,qCG,List.append_nil] at he;simp (maxSteps:=9999999) +contextual only[exa,rA,rB,rD,rE,rF,rG,rH,rI,rJ,exY,h1,h2,hx,z6put,H.a1,H5.a1];rw[w14_5,b14_5];simp (maxSteps:=9999999) +contextual only[exa,rA,rB,rD,rE,rF,rG,rH,rI,rJ,qAl i (by omega)];exact ihl acc c _ (by omega) (by rw[e3,qCG,List.append_nil]; exact he) G5 c0 c1 H5
def wrV:Nat→VT→Prop
 |0,_=>False
 |n+1,t=>(brL t).length≤1000000000∧(brT t).length≤1000000000∧t.keys.len≤1000∧t.l.len≤1000∧(-9223372036854775808≤t.n∧t.n≤9223372036854775807)∧(t.kind=3→QOk t.s)∧(∀ k∈t.keys.list,QOk k)∧∀ x∈t.l.list,wrV n x
theorem fb29(b:Bool):Om 29 [kB b] []=some (kS (boolM b),[]):=by
 cases b
 ·exact(qAB rfl).trans (qBH blks_ok 300 29 0 0 _ _ _ (by kernel_rfl))
 ·exact(qAB rfl).trans (qBH blks_ok 300 29 0 0 _ _ _ (by kernel_rfl))
theorem qNW:∀ (n:Nat) (t:VT),wrV n t→TxOK t
 |0,_,h=>h.elim
 |n+1,t,⟨w1,w2,s1,s2,⟨n1,n2⟩,q3,kq,w4⟩=>by
  have ok:∀ x∈t.l.list,TxOK x:=fun x hx=>qNW n x (w4 x hx)
  have c29:=fun{β:Type} {k:TVal→Heap→Option β} {h:Heap} {d:Nat} (b:Bool)=>qAC (O:=Om) (k:=k) (h:=h) (d:=d) 29 [kB b] _ rfl (fb29 b) rfl
  have c30:=fun{β:Type} {k:TVal→Heap→Option β} {h:Heap} {d:Nat}=>qAC (O:=Om) (k:=k) (h:=h) (d:=d) 30 [kI t.n,kI 10] _ rfl (qSM t.n n1 n2) rfl
  refine(qAB rfl).trans ?_;show lim tab.get S 14 0 0 [kA t.row] h0=_;rw[w14_0,b14_0,qB3];by_cases k0:t.kind=0
  ·rw[if_pos k0];simp (maxSteps:=9999999) +contextual only[exa,rA,rB,rD,rE,rF,rG,rH,rI,rJ,k0,oneOf]
  rw[if_neg k0];by_cases k1:t.kind=1
  ·rw[if_pos k1];simp (maxSteps:=9999999) +contextual only[exa,rA,rB,rD,rE,rF,rG,rH,rI,rJ,k1,c29,oneOf]
  rw[if_neg k1];by_cases k2:t.kind=2
  ·rw[if_pos k2];simp (maxSteps:=9999999) +contextual only[exa,rA,rB,rD,rE,rF,rG,rH,rI,rJ,k2,c30,oneOf]
  rw[if_neg k2];by_cases k3:t.kind=3
  ·rw[if_pos k3];have c31:=fun{β:Type} {k:TVal→Heap→Option β} {h:Heap} {d:Nat}=>qAC (O:=Om) (k:=k) (h:=h) (d:=d) 31 [kS t.s] _ rfl (q3 k3) rfl
   simp (maxSteps:=9999999) +contextual only[exa,rA,rB,rD,rE,rF,rG,rH,rI,rJ,k3,c31,oneOf]
  rw[if_neg k3];by_cases k4:t.kind=4
  ·rw[if_pos k4];simp (maxSteps:=9999999) +contextual only[exa,rA,rB,rD,rE,rF,rG,rH,rI,rJ,k4,if_true,if_false];exact qLx t.l s2 ok w1 0 [] (.p .nilslice) _ (Nat.le_refl _) rfl (.inl ⟨rfl,rfl⟩) (fun _=>rfl) (fun e=>absurd rfl e)
  rw[if_neg k4];simp (maxSteps:=9999999) +contextual only[exa,rA,rB,rD,rE,rF,rG,rH,rI,rJ,k0,k1,k2,k3,k4,if_true,if_false];rw[w14_3,b14_3];simp (maxSteps:=9999999) +contextual only[exa,rA,rB,rD,rE,rF,rG,rH,rI,rJ,exY];exact qOX t s1 s2 ok kq w2 0 [] (.p .nilslice) _ (Nat.le_refl _) rfl (.inl ⟨rfl,rfl⟩) (fun _=>rfl) (fun e=>absurd rfl e) ⟨rfl⟩
def lstV:List VT→VT
 |[] => .mk 4 false 0 [] .nil .nil
 |v::vs => .mk 4 false 0 [] .nil (.mk false (v::vs))
abbrev cL(L:Cell):List Cell:=[.p (.int .i64 4),.p (.bool false),.p (.int .i64 0),.p (.str []),.p .nilslice,L]
structure LsH (h:Heap) (q:List UInt8) (d:Int):Prop where
 g0:h.get (.im 0)=some (rO q 0)
 o5:h.get (.own 5 1)=some (oL (.p .nilslice))
 o2:h.get (.own 2 1)=some (boxO 0)
 o3:h.get (.own 3 1)=some (intO d)
 o4:h.get (.own 4 1)=some (.cells Z6 0)
 le:h.ims.length=1
noncomputable def Kl(h:Heap):Res1 :=
 objK (h.get (Ref.own 5 1)) fun cs x =>
    chk (decide ((List.take 6 cs).length=6))
     (objK (h.get (Ref.own 4 1)) fun cs_1 imm =>
      chk (decide (imm≤0)&&(decide ((List.take 6 cs).length=6)&&decide (6≤cs_1.length)))
       (chk (decide ((List.take 6 (put1 cs_1 0 (List.take 6 cs))).length=6))
        (vfin true 1 [Comp.agg (List.take 6 (put1 cs_1 0 (List.take 6 cs)))]
         (h.own 4 1 (AObj.cells (put1 cs_1 0 (List.take 6 cs)) imm)))))
abbrev F51o:TVal := .v (.c (.func 51 [.own 5 1,.own 2 1,.own 3 1]))
section
variable (d:Int) (hd:0≤d∧d≤12) (s q:List UInt8) (hs:trimB s=91::q)
include hd hs
theorem qJr(X:TVal)(t:List UInt8)(H:∀ h:Heap,LsH h q d→vcall Om (.v (.c (.func 50 []))) [P0,kS [93],F51o] h 64 (fun _ h=>Kl h)=some (X,[rO t 0])) :
  Om 26 [P0,kI d] [rO s 0]=some (X,[rO t 0]):=by
 refine(qAB rfl).trans ?_;show lim tab.get S 26 1 0 [P0,kI d] (Heap.mk [rO s 0] .nil)=_;have hd':¬ 12<d:=by omega
 have c27:=fun{β:Type} {k:TVal→Heap→Option β} {h:Heap} {e:Nat} (hg:h.get (.im 0)=some (rO s 0))=>qBY (β:=β) (k:=k) (h:=h) (d:=e) (.im 0) s 0 hg
 rw[hs] at c27;have nn:=fun(w:List UInt8) (c:UInt8) (hc:c≠91) {β:Type} {k:TVal→Heap→Option β} {h:Heap} {e:Nat} (hg:h.get (.im 0)=some (rO (91::q) 0))=>qCA (β:=β) (k:=k) (h:=h) (d:=e) _ (c::w) hg (qBh c w hc)
 have n1:=fun{β:Type} {k:TVal→Heap→Option β} {h:Heap} {e:Nat}=>nn [117,108,108] 110 (by decide) (β:=β) (k:=k) (h:=h) (e:=e)
 have n2:=fun{β:Type} {k:TVal→Heap→Option β} {h:Heap} {e:Nat}=>nn [114,117,101] 116 (by decide) (β:=β) (k:=k) (h:=h) (e:=e)
 have n3:=fun{β:Type} {k:TVal→Heap→Option β} {h:Heap} {e:Nat}=>nn [97,108,115,101] 102 (by decide) (β:=β) (k:=k) (h:=h) (e:=e)
 have n4:=fun{β:Type} {k:TVal→Heap→Option β} {h:Heap} {e:Nat}=>nn [] 34 (by decide) (β:=β) (k:=k) (h:=h) (e:=e)
 have n5:∀ {β:Type}{k:TVal→Heap→Option β}{h:Heap}{e:Nat},h.get (.im 0)=some (rO (91::q) 0)→vcall Om (.v (.c (.func 48 []))) [P0,kS [91]] h e k=k (kB true) (h.put (.im 0) (rO q 0)):=fun{β k h e} hg=>(u48 (.im 0) _ [91] hg).trans rfl
 have s1:∀ {β:Type}{k:TVal→Heap→Option β}{hh:Heap}{e:Nat},vop Om (.slice 0 true (.k (kS (91::q))) none (some (.k (kI 1))) none) hh e k=k (kS [91]) hh:=fun{β k hh e}=>qBQ _ 1 (by simp)
 have c46:=fun{β:Type} {k:TVal→Heap→Option β} {h:Heap} {e:Nat}=>qE3 (β:=β) (k:=k) (h:=h) (d:=e) 91
 rw[show isStart (91:UInt8).toNat=true by decide] at c46;have hne:¬ (91::q)=[]:=by simp
 rw[w26_0,b26_0];simp (maxSteps:=9999999) +contextual only[exa,rA,rB,rD,rE,rF,rG,rH,rI,rJ,exY,qBz,qAe,qAd,qAW,c27,n1,n2,n3,n4,n5,hne,s1,c46,hd',qGL,if_false,oneOf];exact H _ ⟨rfl,rfl,rfl,rfl,rfl,rfl⟩
theorem qPr(t:List UInt8)(hq:trimB q=93::t):Rd d s (lstV []) t:=by
 refine qJr d hd s q hs _ t fun h A => ?_
 have hr:reach h fuelReach ([P0,kS [93],F51o].flatMap TVal.refs) []=[.im 0,.own 5 1,.own 2 1,.own 3 1]:=by
  show reach h (394+1+1+1+1+1+1) [.im 0,.own 5 1,.own 2 1,.own 3 1] []=_;rw[qAE _ (.im 0) _ _ _ (by decide) A.g0];show reach h (394+1+1+1+1+1) [.own 5 1,.own 2 1,.own 3 1] [.im 0]=_;rw[qAE _ (.own 5 1) _ _ _ (by decide) A.o5];show reach h (394+1+1+1+1) [.own 2 1,.own 3 1] [.im 0,.own 5 1]=_;rw[qAE _ (.own 2 1) _ _ _ (by decide) A.o2];show reach h (394+1+1+1) [.im 0,.own 3 1] [.im 0,.own 5 1,.own 2 1]=_;rw[qAu _ _ _ _ (by decide),qAE _ (.own 3 1) _ _ _ (by decide) A.o3];exact qAX _ _
 have hm:([.im 0,.own 5 1,.own 2 1,.own 3 1]:List Ref).mapM h.get=some [rO q 0,oL (.p .nilslice),boxO 0,intO d]:=by
  simp only[List.mapM_cons,List.mapM_nil,A.g0,A.o5,A.o2,A.o3,Option.pure_def,rM,Option.bind_some]
 obtain⟨h1,hc,B⟩:=qBo (O:=Om) (h:=h) 50 [P0,kS [93],F51o] _ [P0,kS [93],F51] _ _ _ _ _ (.tup []) rfl hr hm rfl rfl (qL0 q t d hq) (Nat.le_refl 4) (by decide) rfl;have G0:h1.get (.im 0)=some (rO t 0):=B.own 0 (.im 0) _ rfl rfl (fun e=>by cases e);have G5:h1.get (.own 5 1)=some (oL (.p .nilslice)):=B.own 1 (.own 5 1) _ rfl rfl (fun e=>by cases e);have G4:h1.get (.own 4 1)=some (.cells Z6 0):=B.old (.own 4 1) _ (by decide) A.o4;rw[hc];unfold Kl;rw[G5,G4];exact qAb true [.agg (pcells (lstV []).row)] (rO t 0) (by simp only[exP]) ((Heap.own_get_im _ _ _ _ _).trans G0) (qAJ t 0)
theorem qRE(s1 t:List UInt8)(v:VT)(vs:List VT)(hq:∀ w,¬ trimB q=93::w)(E:Rd (d+1) (trimB q) v s1)(T:LTail d (trimB s1) vs t)(hn:vs.length≤1000):Rd d s (lstV (v::vs)) t:=by
 refine qJr d hd s q hs _ t fun h A => ?_
 have pl:=qAI (vRows (v::vs)) 0;have hr:reach h fuelReach ([P0,kS [93],F51o].flatMap TVal.refs) []=[.im 0,.own 5 1,.own 2 1,.own 3 1]:=by
  show reach h (394+1+1+1+1+1+1) [.im 0,.own 5 1,.own 2 1,.own 3 1] []=_;rw[qAE _ (.im 0) _ _ _ (by decide) A.g0];show reach h (394+1+1+1+1+1) [.own 5 1,.own 2 1,.own 3 1] [.im 0]=_;rw[qAE _ (.own 5 1) _ _ _ (by decide) A.o5];show reach h (394+1+1+1+1) [.own 2 1,.own 3 1] [.im 0,.own 5 1]=_;rw[qAE _ (.own 2 1) _ _ _ (by decide) A.o2];show reach h (394+1+1+1) [.im 0,.own 3 1] [.im 0,.own 5 1,.own 2 1]=_;rw[qAu _ _ _ _ (by decide),qAE _ (.own 3 1) _ _ _ (by decide) A.o3];exact qAX _ _
 have hm:([.im 0,.own 5 1,.own 2 1,.own 3 1]:List Ref).mapM h.get=some [rO q 0,oL (.p .nilslice),boxO 0,intO d]:=by
  simp only[List.mapM_cons,List.mapM_nil,A.g0,A.o5,A.o2,A.o3,Option.pure_def,rM,Option.bind_some]
 obtain⟨h1,hc,B⟩:=qBo (O:=Om) (h:=h) 50 [P0,kS [93],F51o] _ [P0,kS [93],F51] _ _ _ _ _ (.tup []) rfl hr hm rfl rfl (qMX q s1 t v d ⟨hd.1,by omega⟩ vs hq E T hn) (show(4:Nat)≤5 by decide) (by decide) rfl;have G0:h1.get (.im 0)=some (rO t 0):=B.own 0 (.im 0) _ rfl rfl (fun e=>by cases e);have G5:h1.get (.own 5 1)=some (oL (.sref (.im (h.ims.length+0)) 0 (1+vs.length) none 6)):=B.own 1 (.own 5 1) _ rfl rfl (fun e=>by cases e);have G4:h1.get (.own 4 1)=some (.cells Z6 0):=B.old (.own 4 1) _ (by decide) A.o4;have G1:h1.get (.im (h.ims.length+0))=some (.cells (pcells (vRows (v::vs))) 0):=B.new 0 _ (congrArg some (pl.2 _)) (fun e=>by cases e);rw[A.le] at G5 G1;rw[hc];unfold Kl;rw[G5,G4];have e:1+vs.length=((v::vs).map VT.row).length:=by simp; omega
 rw[e]
 have:=qQh (h:=h1.own 4 1 (.cells (cL (.sref (.im 1) 0 ((v::vs).map VT.row).length none 6)) 0)) 1 6 [.int .i64 4,.bool false,.int .i64 0,.str [],.nilslice] ((v::vs).map VT.row) (rO t 0) (fun r hr=>by
  obtain⟨x,_,rfl⟩:=List.mem_map.1 hr
  exact VT.row_len x) (by decide) ((Heap.own_get_im _ _ _ _ _).trans G0) (qAJ t 0) ((Heap.own_get_im _ _ _ _ _).trans G1)
 refine Eq.trans this ?_;show some (kA [.int .i64 4,.bool false,.int .i64 0,.str [],.nilslice,.slice 6 false ((v::vs).map VT.row)],[rO t 0])=some (kA (VT.mk 4 false 0 [] .nil (.mk false (v::vs))).row,[rO t 0]);rw[VT.row_eq];rfl
end
section
variable (d:Int) (hd:d≤12) (s:List UInt8)
include hd
theorem qSS(b:Bool)(ds t:List UInt8)(H:NumOk b ds)(ht:Aft t)(hs:trimB s=numT b ds++t):Rd d s (numV (sgn b (valD ds 0))) t:=by
 unfold Rd;refine(qAB rfl).trans ?_;show lim tab.get S 26 1 0 [P0,kI d] (Heap.mk [rO s 0] .nil)=_;have hd':¬ 12<d:=by omega
 obtain⟨x,l,e,hx⟩:=qDY H;have hxs:isStart x.toNat=true∧isNtf x.toNat=false∧(x=45∨48≤x.toNat∧x.toNat≤57):=by
  rcases hx with ⟨rfl,_,_⟩|⟨_,h,_⟩
  ·exact⟨by decide,by decide,.inl rfl⟩
  ·obtain⟨h1,h2⟩:=qET h;have e0:isStart x.toNat=true∧isNtf x.toNat=false:=by
    unfold isStart isNtf;have e1:∀ y,y<48→Nat.beq x.toNat y=false:=fun y hy=>by apply Bool.eq_false_iff.2; intro hh; have:=Nat.eq_of_beq_eq_true hh; omega
    have e2:∀ y,57<y→Nat.beq x.toNat y=false:=fun y hy=>by apply Bool.eq_false_iff.2; intro hh; have:=Nat.eq_of_beq_eq_true hh; omega
    have e3:Nat.ble 48 x.toNat=true:=Nat.ble_eq_true_of_le h1;have e4:Nat.ble x.toNat 57=true:=Nat.ble_eq_true_of_le h2;simp[e1,e2,e3,e4]
   exact⟨e0.1,e0.2,.inr ⟨h1,h2⟩⟩
 have nx:∀ c:UInt8,(c.toNat<45∨57<c.toNat)→c≠x:=fun c hc e=>by
  subst e
  rcases hxs.2.2 with h|h
  ·rw[h] at hc; revert hc; decide
  ·omega
 have hs2:trimB s=x::(l++t):=by rw[hs,e]; rfl
 have hw:numT b ds++t=x::(l++t):=by rw[e]; rfl
 have c27:=fun{β:Type} {k:TVal→Heap→Option β} {h:Heap} {e:Nat} (hg:h.get (.im 0)=some (rO s 0))=>qBY (β:=β) (k:=k) (h:=h) (d:=e) (.im 0) s 0 hg
 rw[hs2] at c27;have nn:=fun(w:List UInt8) (c:UInt8) (hc:c.toNat<45∨57<c.toNat) {β:Type} {k:TVal→Heap→Option β} {h:Heap} {e:Nat} (hg:h.get (.im 0)=some (rO (x::(l++t)) 0))=>qCA (β:=β) (k:=k) (h:=h) (d:=e) _ (c::w) hg (qBh c w (nx c hc))
 have n1:=fun{β:Type} {k:TVal→Heap→Option β} {h:Heap} {e:Nat}=>nn [117,108,108] 110 (by decide) (β:=β) (k:=k) (h:=h) (e:=e)
 have n2:=fun{β:Type} {k:TVal→Heap→Option β} {h:Heap} {e:Nat}=>nn [114,117,101] 116 (by decide) (β:=β) (k:=k) (h:=h) (e:=e)
 have n3:=fun{β:Type} {k:TVal→Heap→Option β} {h:Heap} {e:Nat}=>nn [97,108,115,101] 102 (by decide) (β:=β) (k:=k) (h:=h) (e:=e)
 have n4:=fun{β:Type} {k:TVal→Heap→Option β} {h:Heap} {e:Nat}=>nn [] 34 (by decide) (β:=β) (k:=k) (h:=h) (e:=e)
 have n5:=fun{β:Type} {k:TVal→Heap→Option β} {h:Heap} {e:Nat}=>nn [] 91 (by decide) (β:=β) (k:=k) (h:=h) (e:=e)
 have n6:=fun{β:Type} {k:TVal→Heap→Option β} {h:Heap} {e:Nat}=>nn [] 123 (by decide) (β:=β) (k:=k) (h:=h) (e:=e)
 have s1:∀ {β:Type}{k:TVal→Heap→Option β}{hh:Heap}{e:Nat},vop Om (.slice 0 true (.k (kS (x::(l++t)))) none (some (.k (kI 1))) none) hh e k=k (kS [x]) hh:=fun{β k hh e}=>qBQ _ 1 (by simp)
 have c53:∀ {β:Type}{k:TVal→Heap→Option β}{h:Heap}{e:Nat},h.get (.im 0)=some (rO (x::(l++t)) 0)→vcall Om (.v (.c (.func 53 []))) [P0] h e k=k (kA (numV (sgn b (valD ds 0))).row) (h.put (.im 0) (rO t 0)):=fun{β k h e} hg =>
  qAq 53 (.im 0) 0 [] [] _ _ _ rfl rfl hg (qAJ _ _) (qAJ _ _) (by simp only[exP]) (by rw[← hw]; exact qRl t ht b ds H)
 have hne:¬ (x::(l++t))=[]:=by simp
 rw[w26_0,b26_0];simp (maxSteps:=9999999) +contextual only[exa,rA,rB,rD,rE,rF,rG,rH,rI,rJ,exY,qBz,qAe,qAd,qAW,c27,n1,n2,n3,n4,n5,n6,hne,s1,qE3,u46n,hxs.1,hxs.2.1,c53,hd',if_false,oneOf];exact qAb true [.agg (pcells (numV (sgn b (valD ds 0))).row)] _ (by simp only[exP]) rfl (qAJ _ _)
end
def Bl(b:List UInt8):Prop:=∀ c∈b,isBl c.toNat=true
theorem Bl.app{a b:List UInt8}(h:Bl a)(g:Bl b):Bl (a++b):=fun c hc=>(List.mem_append.1 hc).elim (h c) (g c)
theorem Bl.nil:Bl []:=fun c hc=>by cases hc
theorem qAo:∀ (b s:List UInt8),Bl b→trimB (b++s)=trimB s
 |[],s,_=>rfl
 |c::b,s,h=>by
  rw[List.cons_append,trimB,if_pos (h c (by simp))];exact qAo b s (fun x hx=>h x (by simp[hx]))
mutual
def norm:VT→VT
 |.mk k b n s ks l=>if k=0 then nullV else if k=1 then boolV b else if k=2 then numV n else if k=3 then txtV s else if k=4 then lstV (normS l) else tabV (ks.list.zip (normS l))
def normS:Sl VT→List VT
 |.nil=>[]
 |.mk _ l=>normL l
def normL:List VT→List VT
 |[]=>[]
 |v::l=>norm v::normL l
end
theorem qNg(l:Sl VT):normS l=normL l.list:=by cases l <;> simp[normS,normL,Sl.list]
theorem qOz(l:List VT):normL l=l.map norm:=by
 induction l with
 |nil=>simp[normL]
 |cons v l ih=>rw[normL,ih]; rfl
theorem qCe(v:VT):norm v=if v.kind=0 then nullV else if v.kind=1 then boolV v.b else if v.kind=2 then numV v.n else if v.kind=3 then txtV v.s else if v.kind=4 then lstV (v.l.list.map norm) else tabV (v.keys.list.zip (v.l.list.map norm)):=by
 cases v with
 |mk k b n s ks l=>rw[norm,qNg,qOz]; rfl
theorem qEZ:∀ (s acc r:List UInt8),(∀ b∈s,inText b.toNat=true)→tGo (s.flatMap escM++34::r) acc=some (acc++s,r)
 |[],acc,r,_=>by
  show tGo (34::r) acc=_;cases r with
  |nil=>rw[tGo,if_neg (by decide),if_pos (by decide)]; simp
  |cons d r=>rw[tGo,if_neg (by decide),if_pos (by decide)]; simp
 |b::s,acc,r,h=>by
  have ih:=qEZ s (acc++[b]) r (fun x hx=>h x (by simp[hx]));have e:(b::s).flatMap escM++34::r=escM b++(s.flatMap escM++34::r):=by simp
  have ea:acc++b::s=(acc++[b])++s:=by simp
  rw[e,ea,← ih];have two:∀ (x y:UInt8),meantM y=some x→tGo (92::y::(s.flatMap escM++34::r)) acc=tGo (s.flatMap escM++34::r) (acc++[x]):=by
   intro x y hm;rw[tGo,if_neg (by decide),if_neg (by decide),if_pos (by decide),hm]
  by_cases h1:b=92
  ·subst h1; exact two 92 92 rfl
  by_cases h2:b=34
  ·subst h2; exact two 34 34 rfl
  by_cases h3:b=10
  ·subst h3; exact two 10 110 rfl
  by_cases h4:b=9
  ·subst h4; exact two 9 116 rfl
  have hb:=h b (by simp);have ne:∀ c:UInt8,¬ b=c→b.toNat≠c.toNat:=fun c hc e=>hc (UInt8.toNat_inj.1 e)
  have hp:plainB b=true:=by
   unfold inText at hb;have n3:¬ ((b.toNat:Nat):Int)=10:=fun e=>ne 10 h3 (by show b.toNat=10; omega)
   have n4:¬ ((b.toNat:Nat):Int)=9:=fun e=>ne 9 h4 (by show b.toNat=9; omega)
   have n2:¬ ((b.toNat:Nat):Int)=34:=fun e=>ne 34 h2 (by show b.toNat=34; omega)
   have n1:¬ ((b.toNat:Nat):Int)=92:=fun e=>ne 92 h1 (by show b.toNat=92; omega)
   rw[decide_eq_false n3,decide_eq_false n4,Bool.or_false,Bool.or_false] at hb;unfold plainB;rw[hb,decide_eq_false n2,decide_eq_false n1]; rfl
  have ee:escM b=[b]:=by unfold escM; rw[if_neg h1,if_neg h2,if_neg h3,if_neg h4]
  rw[ee];obtain⟨d,t,ht⟩:∃ d t,s.flatMap escM++34::r=d::t:=by
   cases hs:s.flatMap escM with
   |nil=>exact⟨34,r,rfl⟩
   |cons d t=>exact⟨d,t++34::r,rfl⟩
  rw[ht];exact qLh b d t acc hp
def isSg(c:UInt8):Bool:=decide (c=91)||decide (c=93)||decide (c=123)||decide (c=125)||decide (c=44)||decide (c=58)
def preM:List Int→List UInt8
 |[]=>[]
 |n::_=>if withinM n 4=0 then [32] else if withinM n 4=1 then [10] else if withinM n 4=2 then [9,13] else []
def postM:List Int→List UInt8
 |[]=>[]
 |n::_=>if withinM (IntKind.i64.wrap (n.tdiv 4)) 3=0 then [] else if withinM (IntKind.i64.wrap (n.tdiv 4)) 3=1 then [32,32] else [10]
def decoM:List UInt8→Bool→List Int→List UInt8
 |[],_,_=>[]
 |[c],i,ns=>if i=false∧isSg c=true then preM ns++c::postM ns else [c]
 |c::d::t,i,ns =>
  if i=true then (if c=92 then c::d::decoM t true ns else if c=34 then c::decoM (d::t) false ns else c::decoM (d::t) true ns)
  else if isSg c=true then preM ns++c::(postM ns++decoM (d::t) false ns.tail)
  else if c=34 then c::decoM (d::t) true ns else c::decoM (d::t) false ns
theorem qDc(i:Bool)(ns:List Int):decoM [] i ns=[]:=by rw[decoM]
theorem qEU(c:UInt8)(i:Bool)(ns:List Int):decoM [c] i ns=if i=false∧isSg c=true then preM ns++c::postM ns else [c]:=by rw[decoM]
theorem qDZ(c d:UInt8)(t:List UInt8)(i:Bool)(ns:List Int):decoM (c::d::t) i ns =
  if i=true then (if c=92 then c::d::decoM t true ns else if c=34 then c::decoM (d::t) false ns else c::decoM (d::t) true ns)
  else if isSg c=true then preM ns++c::(postM ns++decoM (d::t) false ns.tail)
  else if c=34 then c::decoM (d::t) true ns else c::decoM (d::t) false ns:=by rw[decoM]
theorem qDx{l:List UInt8}(h:l.all (fun c=>isBl c.toNat)=true):Bl l:=fun c hc=>List.all_eq_true.1 h c hc
theorem qBc(ns:List Int):Bl (preM ns)∧(preM ns).length≤2:=by
 cases ns with
 |nil=>exact⟨Bl.nil,by decide⟩
 |cons n l =>
  have e:preM (n::l)=if withinM n 4=0 then [32] else if withinM n 4=1 then [10] else if withinM n 4=2 then [9,13] else []:=rfl
  rw[e];by_cases h0:withinM n 4=0
  ·rw[if_pos h0]; exact⟨qDx rfl,by decide⟩
  by_cases h1:withinM n 4=1
  ·rw[if_neg h0,if_pos h1]; exact⟨qDx rfl,by decide⟩
  by_cases h2:withinM n 4=2
  ·rw[if_neg h0,if_neg h1,if_pos h2]; exact⟨qDx rfl,by decide⟩
  ·rw[if_neg h0,if_neg h1,if_neg h2]; exact⟨qDx rfl,by decide⟩
theorem qBS(ns:List Int):Bl (postM ns)∧(postM ns).length≤2:=by
 cases ns with
 |nil=>exact⟨Bl.nil,by decide⟩
 |cons n l =>
  have e:postM (n::l)=if withinM (IntKind.i64.wrap (n.tdiv 4)) 3=0 then [] else if withinM (IntKind.i64.wrap (n.tdiv 4)) 3=1 then [32,32] else [10]:=rfl
  rw[e];by_cases h0:withinM (IntKind.i64.wrap (n.tdiv 4)) 3=0
  ·rw[if_pos h0]; exact⟨qDx rfl,by decide⟩
  by_cases h1:withinM (IntKind.i64.wrap (n.tdiv 4)) 3=1
  ·rw[if_neg h0,if_pos h1]; exact⟨qDx rfl,by decide⟩
  ·rw[if_neg h0,if_neg h1]; exact⟨qDx rfl,by decide⟩
theorem qBA(c:UInt8)(hc:isSg c=true)(t:List UInt8)(ns:List Int):decoM (c::t) false ns=preM ns++c::(postM ns++decoM t false ns.tail):=by
 cases t with
 |nil=>rw[qEU,if_pos ⟨rfl,hc⟩,qDc,List.append_nil]
 |cons d t=>rw[qDZ,if_neg (by decide),if_pos hc]
theorem qQT(c:UInt8)(hc:isSg c=false)(h:¬ c=34)(t:List UInt8)(ns:List Int):decoM (c::t) false ns=c::decoM t false ns:=by
 cases t with
 |nil=>rw[qEU,if_neg (fun e=>by rw[hc] at e; cases e.2),qDc]
 |cons d t=>rw[qDZ,if_neg (by decide),if_neg (by rw[hc]; decide),if_neg h]
theorem qR8(t:List UInt8)(ns:List Int):decoM (34::t) false ns=34::decoM t true ns:=by
 cases t with
 |nil=>rw[qEU,if_neg (fun e=>by have:=e.2; revert this; decide),qDc]
 |cons d t=>rw[qDZ,if_neg (by decide),if_neg (by decide),if_pos rfl]
theorem qRA(c:UInt8)(h1:¬ c=92)(h:¬ c=34)(t:List UInt8)(ns:List Int):decoM (c::t) true ns=c::decoM t true ns:=by
 cases t with
 |nil=>rw[qEU,if_neg (fun e=>by cases e.1),qDc]
 |cons d t=>rw[qDZ,if_pos rfl,if_neg h1,if_neg h]
theorem qPH(t:List UInt8)(ns:List Int):decoM (34::t) true ns=34::decoM t false ns:=by
 cases t with
 |nil=>rw[qEU,if_neg (fun e=>by cases e.1),qDc]
 |cons d t=>rw[qDZ,if_pos rfl,if_neg (by decide),if_pos rfl]
theorem qDf(d:UInt8)(t:List UInt8)(ns:List Int):decoM (92::d::t) true ns=92::d::decoM t true ns:=by
 rw[qDZ,if_pos rfl,if_pos rfl]
theorem qG6:∀ (x t:List UInt8) (ns:List Int),(∀ b∈x,isSg b=false∧¬ b=34)→decoM (x++t) false ns=x++decoM t false ns
 |[],_,_,_=>rfl
 |b::x,t,ns,h=>by
  rw[List.cons_append,qQT b (h b (by simp)).1 (h b (by simp)).2,qG6 x t ns (fun y hy=>h y (by simp[hy]))]; rfl
theorem qNs(b:UInt8)(t:List UInt8)(ns:List Int):decoM (escM b++t) true ns=escM b++decoM t true ns:=by
 unfold escM;by_cases h1:b=92
 ·rw[if_pos h1]; exact qDf _ _ _
 by_cases h2:b=34
 ·rw[if_neg h1,if_pos h2]; exact qDf _ _ _
 by_cases h3:b=10
 ·rw[if_neg h1,if_neg h2,if_pos h3]; exact qDf _ _ _
 by_cases h4:b=9
 ·rw[if_neg h1,if_neg h2,if_neg h3,if_pos h4]; exact qDf _ _ _
 ·rw[if_neg h1,if_neg h2,if_neg h3,if_neg h4]; exact qRA b h1 h2 _ _
theorem qDC(b:UInt8):(escM b).length≤2:=by
 unfold escM;by_cases h1:b=92
 ·rw[if_pos h1]; decide
 by_cases h2:b=34
 ·rw[if_neg h1,if_pos h2]; decide
 by_cases h3:b=10
 ·rw[if_neg h1,if_neg h2,if_pos h3]; decide
 by_cases h4:b=9
 ·rw[if_neg h1,if_neg h2,if_neg h3,if_pos h4]; decide
 ·rw[if_neg h1,if_neg h2,if_neg h3,if_neg h4]; exact Nat.le_succ 1
theorem qGx:∀ (s t:List UInt8) (ns:List Int),decoM (s.flatMap escM++34::t) true ns=s.flatMap escM++34::decoM t false ns
 |[],t,ns=>qPH t ns
 |b::s,t,ns=>by
  have e:∀ u:List UInt8,(b::s).flatMap escM++34::u=escM b++(s.flatMap escM++34::u):=by simp
  rw[e,e,qNs,qGx s t ns]
theorem qBO(s t:List UInt8):quoteM s++t=34::(s.flatMap escM++34::t):=by unfold quoteM; simp
theorem qDt(s t:List UInt8)(ns:List Int):decoM (quoteM s++t) false ns=quoteM s++decoM t false ns:=by
 rw[qBO,qR8,qGx,qBO]
theorem qC1(s:List UInt8):(quoteM s).length≤2*s.length+2:=by
 have:∀ s:List UInt8,(s.flatMap escM).length≤2*s.length:=by
  intro s
  induction s with
  |nil=>exact Nat.le_refl _
  |cons b s ih =>
   rw[List.flatMap_cons,List.length_append,List.length_cons];have:=qDC b;omega
 unfold quoteM;have:=this s;simp only[List.length_append,List.length_cons,List.length_nil];omega
theorem qDh:∀ (n:Nat) (t:List UInt8) (i:Bool),t.length≤n→decoM t i []=t
 |_,[],_,_=>qDc _ _
 |_,[c],i,_=>by
  rw[qEU];by_cases h:i=false∧isSg c=true
  ·rw[if_pos h]; rfl
  ·rw[if_neg h]
 |0,c::d::t,_,h=>by simp at h
 |n+1,c::d::t,i,h=>by
  simp only[List.length_cons] at h;have h1:=qDh n t true (by omega);have h2:=fun i=>qDh n (d::t) i (by simp; omega)
  have h3:([]:List Int).tail=[]:=rfl;have h4:preM []=[]:=rfl;have h5:postM []=[]:=rfl;rw[qDZ,h3,h4,h5,h1,h2,h2];simp
def okN(n:Int):Prop := -9223372036854775808≤n∧n≤9223372036854775807
def okT(m:Nat)(s:List UInt8):Prop:=s.length≤m∧∀ b∈s,inText b.toNat=true
structure Gd1 (P:VT→Prop) (v:VT):Prop where
 k0:0≤v.kind
 k5:v.kind≤5
 n:okN v.n
 s:okT 50 v.s
 l:v.l.list.length≤12
 e:v.kind=5→v.keys.list.length=v.l.list.length
 ks:rowG none v.keys.list=0
 kt:∀ y∈v.keys.list,okT 4 y
 x:∀ x∈v.l.list,P x
 cb:v.kind≠1→v.b=false
 cn:v.kind≠2→v.n=0
 cs:v.kind≠3→v.s=[]
 ck:v.kind≠5→v.keys.list=[]
 cl:v.kind≠4→v.kind≠5→v.l.list=[]
def Gd:Nat→VT→Prop
 |0,_=>False
 |n+1,v=>Gd1 (Gd n) v
mutual
def cntV:VT→Nat
 |.mk _ _ _ _ _ l=>1+cntS l
def cntS:Sl VT→Nat
 |.nil=>0
 |.mk _ l=>cntL l
def cntL:List VT→Nat
 |[]=>0
 |v::l=>cntV v+cntL l
end
theorem qRP(l:Sl VT):cntS l=cntL l.list:=by cases l <;> simp[cntS,cntL,Sl.list]
theorem qBI(v:VT):cntV v=1+cntL v.l.list:=by
 cases v with
 |mk k b n s ks l=>rw[cntV,qRP]; rfl
theorem qGp:∀ x:List UInt8,bless x x=false
 |[]=>rfl
 |a::x=>by
  have:=qGp x;simp only[bless] at this ⊢;simp[this]
theorem qF1:∀ x y:List UInt8,bless x y=true→bless y x=false
 |[],[],h=>by simp[bless] at h
 |[],b::y,_=>by simp[bless]
 |a::x,[],h=>by simp[bless] at h
 |a::x,b::y,h=>by
  have ih:=qF1 x y;simp only[bless,Bool.or_eq_true,Bool.and_eq_true,decide_eq_true_eq,beq_iff_eq] at h;have e:bless (b::y) (a::x)=(decide (b<a)||(b==a&&bless y x)):=rfl;rw[e]
  rcases h with h|⟨h1,h2⟩
  ·have n1:¬ b<a:=fun h'=>by have:=UInt8.lt_iff_toNat_lt.1 h; have:=UInt8.lt_iff_toNat_lt.1 h'; omega
   have n2:¬ b=a:=fun h'=>by subst h'; have:=UInt8.lt_iff_toNat_lt.1 h; omega
   simp[n1,n2]
  ·subst h1;have n1:¬ a<a:=fun h'=>by have:=UInt8.lt_iff_toNat_lt.1 h'; omega
   simp[n1,ih h2]
theorem qKH:∀ (l:List (List UInt8)) (i:Nat) (a b:List UInt8),rowK l=0→l[i]?=some a→l[i+1]?=some b→bless a b=true
 |[],i,a,b,_,h,_=>by simp at h
 |[_],i,a,b,_,_,h=>by simp at h
 |x::y::l,i,a,b,h,ha,hb=>by
  rw[rowK] at h;by_cases hx:bless x y=true
  ·rw[if_pos hx] at h;cases i with
   |zero =>
    simp only[List.getElem?_cons_zero,rK] at ha;simp only[Nat.zero_add,List.getElem?_cons_succ,List.getElem?_cons_zero,rK] at hb;subst ha hb;exact hx
   |succ i=>exact qKH (y::l) i a b h (by simpa using ha) (by simpa using hb)
  ·rw[if_neg hx] at h; cases h
theorem qKL(l:List (List UInt8))(h:rowG none l=0)(i:Nat)(a b:List UInt8)(ha:l[i]?=some a)(hb:l[i+1]?=some b):bless a b=true:=by
 cases l with
 |nil=>simp at ha
 |cons x l=>rw[rowG,qGa] at h; exact qKH _ i a b h ha hb
theorem qQi(l:Es)(h:rowG none (l.map (·.1))=0):∀ i:Nat,down i l=l
 |0=>rfl
 |i+1=>by
  unfold down;split
  ·rename_i p q hp hq;have:=qKL _ h i q.1 p.1 (by rw[List.getElem?_map,hq]; rfl) (by rw[List.getElem?_map,hp]; rfl);rw[if_neg (by rw[qF1 _ _ this]; decide)]
  ·rfl
theorem qJv(l:Es)(h:rowG none (l.map (·.1))=0):∀ m i:Nat,sortM m i l=l
 |0,_=>rfl
 |m+1,i=>by rw[sortM,qQi l h,qJv l h m]
theorem qPh(l:Es)(h:rowG none (l.map (·.1))=0):∀ i:Nat,eM l i=0
 |0=>by unfold eM; rfl
 |i+1=>by
  have ih:=qPh l h i;unfold eM;split
  ·rename_i p hp;rw[if_neg (by rw[ih]; decide)];cases i with
   |zero=>rfl
   |succ j =>
    dsimp only;split
    ·rename_i q hq;have:=qKL _ h j q.1 p.1 (by rw[List.getElem?_map,hq]; rfl) (by rw[List.getElem?_map,hp]; rfl);rw[if_neg (fun e=>by rw[e,qGp] at this; cases this)]
    ·rfl
  ·exact ih
def Hd(w:List UInt8):Prop:=∃ c r,w=c::r∧isBl c.toNat=false∧¬ c=93∧¬ c=125
theorem Hd.trim{w:List UInt8}(h:Hd w){b:List UInt8}(hb:Bl b)(R:List UInt8):trimB (b++(w++R))=w++R:=by
 obtain⟨c,r,rfl,h1,_⟩:=h;rw[qAo b _ hb];exact qCl _ h1
theorem qBP{b:List UInt8}(hb:Bl b)(c:UInt8)(hc:isBl c.toNat=false)(R:List UInt8):trimB (b++c::R)=c::R:=by
 rw[qAo b _ hb];exact qCl _ hc
theorem qIH{c:UInt8}(h:isBl c.toNat=true):isD c=false∧c.toNat<128:=by
 have e:c.toNat=32∨c.toNat=9∨c.toNat=10∨c.toNat=13:=by
  unfold isBl at h;simp only[Bool.or_eq_true] at h
  rcases h with ((h|h)|h)|h
  ·exact .inl (Nat.eq_of_beq_eq_true h)
  ·exact .inr (.inl (Nat.eq_of_beq_eq_true h))
  ·exact .inr (.inr (.inl (Nat.eq_of_beq_eq_true h)))
  ·exact .inr (.inr (.inr (Nat.eq_of_beq_eq_true h)))
 refine⟨?_,by omega⟩;unfold isD;rw[Bool.and_eq_false_iff,decide_eq_false_iff_not,decide_eq_false_iff_not];omega
theorem qEQ{b u R:List UInt8}(hb:Bl b)(h:Aft (u++R)):Aft (b++u++R):=by
 cases b with
 |nil=>exact h
 |cons y b =>
  intro z hz;simp at hz;subst hz;exact qIH (hb y (by simp))
theorem qFY{b:List UInt8}(hb:Bl b){c:UInt8}(hc:isD c=false∧c.toNat<128)(R:List UInt8):Aft (b++c::R):=by
 intro x hx;cases b with
 |nil =>
  simp at hx;subst hx;exact hc
 |cons y b =>
  simp at hx;subst hx;exact qIH (hb y (by simp))
def PV(n:Nat)(v:VT)(w:List UInt8):Prop:=Hd w∧∀ (d:Int) (s R:List UInt8),0≤d→d+n≤13→trimB s=w++R→Aft R→w.length+R.length≤100000→Rd d s (norm v) R
def DV(n:Nat)(v:VT):Prop:=∀ (ns:List Int) (rest:List UInt8),∃ b w b' ns',decoM (txV v++rest) false ns=b++(w++(b'++decoM rest false ns'))∧Bl b∧Bl b'∧PV n v w∧b.length+w.length+b'.length+20≤150*cntV v
theorem qEX(n:Nat)(v:VT)(hw:∀ b∈txV v,isSg b=false∧¬ b=34)(hp:PV n v (txV v))(hl:(txV v).length≤130):DV n v:=by
 intro ns rest;refine⟨[],txV v,[],ns,qG6 _ _ _ hw,Bl.nil,Bl.nil,hp,?_⟩;have:=qBI v;simp only[List.length_nil];omega
theorem qOW{b:UInt8}(h:isD b=true):isSg b=false∧¬ b=34:=by
 obtain⟨h1,h2⟩:=qET h;have ne:∀ c:UInt8,(c.toNat<48∨57<c.toNat)→¬ b=c:=fun c hc e=>by subst e; omega
 unfold isSg;rw[decide_eq_false (ne 91 (by decide)),decide_eq_false (ne 93 (by decide)),decide_eq_false (ne 123 (by decide)),decide_eq_false (ne 125 (by decide)),decide_eq_false (ne 44 (by decide)),decide_eq_false (ne 58 (by decide))];exact⟨rfl,ne 34 (by decide)⟩
theorem qSG{b:UInt8}(h:isD b=true):isBl b.toNat=false∧¬ b=93∧¬ b=125:=by
 obtain⟨h1,h2⟩:=qET h;refine⟨?_,fun e => ?_,fun e => ?_⟩
 ·unfold isBl;have e:∀ y,y<48→Nat.beq b.toNat y=false:=fun y hy=>by apply Bool.eq_false_iff.2; intro hh; have:=Nat.eq_of_beq_eq_true hh; omega
  rw[e 32 (by decide),e 9 (by decide),e 10 (by decide),e 13 (by decide)]; rfl
 ·subst e; revert h2; decide
 ·subst e; revert h2; decide
section
variable (n:Nat) (v:VT) (G:Gd1 (Gd n) v)
theorem qEw(h:v.kind=0):norm v=nullV∧txV v=[110,117,108,108]:=by
 rw[qCe,qB3,if_pos h,if_pos h]; exact⟨rfl,rfl⟩
theorem qFM(h:v.kind=1):norm v=boolV v.b∧txV v=boolM v.b:=by
 rw[qCe,qB3,h]; exact⟨rfl,rfl⟩
theorem qFD(h:v.kind=2):norm v=numV v.n∧txV v=Lib.itoa v.n:=by
 rw[qCe,qB3,h]; exact⟨rfl,rfl⟩
theorem qE8(h:v.kind=3):norm v=txtV v.s∧txV v=quoteM v.s:=by
 rw[qCe,qB3,h]; exact⟨rfl,rfl⟩
theorem qEy(h:v.kind=4):norm v=lstV (v.l.list.map norm)∧txV v=brL v:=by
 rw[qCe,qB3,h]; exact⟨rfl,rfl⟩
theorem qFN(h:v.kind=5):norm v=tabV (v.keys.list.zip (v.l.list.map norm))∧txV v=brT v:=by
 rw[qCe,qB3,h]; exact⟨rfl,rfl⟩
include G
theorem dv0(h:v.kind=0):DV (n+1) v:=by
 obtain⟨e1,e2⟩:=qEw v h;refine qEX _ v (by rw[e2]; decide) ⟨by rw[e2]; exact⟨_,_,rfl,by decide,by decide,by decide⟩,fun d s R h0 h1 ht hr hl => ?_⟩ (by rw[e2]; decide);rw[e1]; rw[e2] at ht;exact qSF d (by omega) s R ht
theorem dv1(h:v.kind=1):DV (n+1) v:=by
 obtain⟨e1,e2⟩:=qFM v h;generalize hb:v.b=b at e1 e2;cases b with
 |true =>
  refine qEX _ v (by rw[e2]; decide) ⟨by rw[e2]; exact⟨_,_,rfl,by decide,by decide,by decide⟩,fun d s R h0 h1 ht hr hl => ?_⟩ (by rw[e2]; decide);rw[e1]; rw[e2] at ht;exact qRg d (by omega) s R ht
 |false =>
  refine qEX _ v (by rw[e2]; decide) ⟨by rw[e2]; exact⟨_,_,rfl,by decide,by decide,by decide⟩,fun d s R h0 h1 ht hr hl => ?_⟩ (by rw[e2]; decide);rw[e1]; rw[e2] at ht;exact qRN d (by omega) s R ht
theorem dv2(h:v.kind=2):DV (n+1) v:=by
 obtain⟨e1,e2⟩:=qFD v h;obtain⟨b,ds,e3,H,e4⟩:=qOl v.n G.n.1 G.n.2;have hw:∀ x∈numT b ds,x=45∨isD x=true:=by
  intro x hx;cases b with
  |true=>rcases List.mem_cons.1 hx with rfl|hx; exact .inl rfl; exact .inr (H.hd x hx)
  |false=>exact .inr (H.hd x hx)
 have hl:=H.hl;rw[e3] at e2;refine qEX _ v ?_ ⟨?_,fun d s R h0 h1 ht hr hl => ?_⟩ ?_
 ·rw[e2];intro x hx
  rcases hw x hx with rfl|hd
  ·decide
  ·exact qOW hd
 ·rw[e2];obtain⟨c,l,e,_⟩:=qDY H;refine⟨c,l,e,?_⟩
  rcases hw c (by rw[e]; simp) with rfl|hd
  ·decide
  ·exact qSG hd
 ·rw[e1,← e4]; rw[e2] at ht;exact qSS d (by omega) s b ds R H hr ht
 ·rw[e2];cases b with
  |true=>show(45::ds).length≤130; simp; omega
  |false=>show ds.length≤130; omega
theorem dv3(h:v.kind=3):DV (n+1) v:=by
 obtain⟨e1,e2⟩:=qE8 v h;intro ns rest;have ql:=qC1 v.s;have sl:=G.s.1;refine⟨[],txV v,[],ns,?_,Bl.nil,Bl.nil,⟨?_,fun d s R h0 h1 ht hr hl => ?_⟩,?_⟩
 ·rw[e2]; exact qDt _ _ _
 ·rw[e2]; exact⟨34,_,rfl,by decide,by decide,by decide⟩
 ·rw[e1]; rw[e2,qBO] at ht;refine qSc d (by omega) s _ v.s R ht ?_ ?_
  ·rw[e2] at hl;have:=congrArg List.length (qBO v.s R);simp only[List.length_append,List.length_cons] at this ⊢;omega
  ·exact qEZ v.s [] R G.s.2
 ·have:=qBI v;rw[e2];simp only[List.length_nil];omega
end
theorem rowD(n:Nat):∀ (xs:List VT),(∀ x∈xs,DV n x)→∀ (ns:List Int) (rest:List UInt8),∃ u b' ns',decoM (Lib.joinTail [44] (txL xs)++93::rest) false ns=u++(b'++decoM rest false ns')∧Bl b'∧(∀ R,Aft (u++R)) ∧
  (∀ (d:Int) (R:List UInt8),0≤d→d+1+n≤13→Aft R→u.length+R.length≤100000→LTail d (trimB (u++R)) (xs.map norm) R)∧u.length+b'.length≤150*cntL xs+10
 |[],_,ns,rest=>by
  obtain⟨p1,p2⟩:=qBc ns;obtain⟨q1,q2⟩:=qBS ns;refine⟨preM ns++[93],postM ns,ns.tail,?_,q1,fun R => ?_,fun d R _ _ _ _ => ?_,?_⟩
  ·show decoM (93::rest) false ns=_;rw[qBA 93 rfl]; simp
  ·rw[List.append_assoc]; exact qFY p1 (by decide) _
  ·rw[List.append_assoc];rw[show [93]++R=93::R from rfl,qBP p1 93 (by decide)];exact LTail.done R
  ·simp only[List.length_append,List.length_cons,List.length_nil];omega
 |x::xs,hx,ns,rest=>by
  obtain⟨p1,p2⟩:=qBc ns;obtain⟨q1,q2⟩:=qBS ns;obtain⟨b,w,b1,ns1,e1,hb,hb1,hp,hl⟩:=hx x (by simp) ns.tail (Lib.joinTail [44] (txL xs)++93::rest);obtain⟨u,b',ns',e2,hb',hA,hT,hul⟩:=rowD n xs (fun y hy=>hx y (by simp[hy])) ns1 rest;refine⟨preM ns++44::(postM ns++b++(w++(b1++u))),b',ns',?_,hb',fun R => ?_,fun d R h0 h1 hr hl => ?_,?_⟩
  ·have e:Lib.joinTail [44] (txL (x::xs))++93::rest=44::(txV x++(Lib.joinTail [44] (txL xs)++93::rest)):=by
    rw[txL]; unfold Lib.joinTail; simp
   rw[e,qBA 44 rfl,e1,e2]; simp
  ·rw[List.append_assoc]; exact qFY p1 (by decide) _
  ·rw[List.append_assoc];simp only[List.length_append,List.length_cons] at hl;rw[List.cons_append,qBP p1 44 (by decide),List.map_cons];have e:postM ns++b++(w++(b1++u))++R=(postM ns++b)++(w++((b1++u)++R)):=by simp
   rw[e];refine LTail.more _ ((b1++u)++R) R (norm x) (xs.map norm) (hp.2 (d+1) _ _ (by omega) h1 (hp.1.trim (q1.app hb) _) ?_ ?_) ?_
   ·exact qEQ hb1 (hA R)
   ·simp only[List.length_append];omega
   ·rw[List.append_assoc,qAo b1 _ hb1];exact hT d R h0 h1 hr (by omega)
  ·rw[cntL];simp only[List.length_append,List.length_cons];omega
theorem dv4(n:Nat)(v:VT)(h:v.kind=4)(ih:∀ x∈v.l.list,DV n x)(hlen:v.l.list.length≤12):DV (n+1) v:=by
 obtain⟨e1,e2⟩:=qEy v h;intro ns rest;have hc:=qBI v;obtain⟨p1,p2⟩:=qBc ns;obtain⟨q1,q2⟩:=qBS ns;obtain⟨p3,p4⟩:=qBc ns.tail;obtain⟨q3,q4⟩:=qBS ns.tail;unfold brL at e2;generalize v.l.list=l at *;cases l with
 |nil =>
  refine⟨preM ns,91::(postM ns++(preM ns.tail++[93])),postM ns.tail,ns.tail.tail,?_,p1,q3,⟨⟨_,_,rfl,by decide,by decide,by decide⟩,fun d s R h0 h1 ht hr hl => ?_⟩,?_⟩
  ·rw[e2,txL];show decoM (91::93::rest) false ns=_;rw[qBA 91 rfl,qBA 93 rfl]; simp
  ·rw[e1];refine qPr d ⟨h0,by omega⟩ s (postM ns++(preM ns.tail++[93])++R) (by rw[ht]; rfl) R ?_;rw[List.append_assoc,qAo _ _ q1,List.append_assoc];exact qBP p3 93 (by decide) R
  ·rw[cntL] at hc;simp only[List.length_append,List.length_cons,List.length_nil];omega
 |cons x xs =>
  obtain⟨b,w,b1,ns1,e3,hb,hb1,hp,hl1⟩:=ih x (by simp) ns.tail (Lib.joinTail [44] (txL xs)++93::rest);obtain⟨u,b',ns',e4,hb',hA,hT,hul⟩:=rowD n xs (fun y hy=>ih y (by simp[hy])) ns1 rest;refine⟨preM ns,91::(postM ns++b++(w++(b1++u))),b',ns',?_,p1,hb',⟨⟨_,_,rfl,by decide,by decide,by decide⟩,fun d s R h0 h1 ht hr hl => ?_⟩,?_⟩
  ·rw[e2,txL,Lib.join_cons];have e:[91]++(txV x++Lib.joinTail [44] (txL xs))++[93]++rest=91::(txV x++(Lib.joinTail [44] (txL xs)++93::rest)):=by simp
   rw[e,qBA 91 rfl,e3,e4]; simp
  ·rw[e1,List.map_cons];simp only[List.length_append,List.length_cons] at hl hlen;have e:trimB ((postM ns++b)++(w++((b1++u)++R)))=w++((b1++u)++R):=hp.1.trim (q1.app hb) _;obtain⟨c,r,ew,hw1,hw2,hw3⟩:=hp.1;refine qRE d ⟨h0,by omega⟩ s ((postM ns++b)++(w++((b1++u)++R))) (by rw[ht]; simp) ((b1++u)++R) R (norm x) (xs.map norm) (fun z hz => ?_) ?_ ?_ (by rw[List.length_map]; omega)
   ·rw[e,ew] at hz;exact hw2 (List.cons.inj hz).1
   ·rw[e];refine hp.2 (d+1) _ _ (by omega) (by omega) ?_ (qEQ hb1 (hA R)) (by simp only[List.length_append]; omega);rw[ew];exact qCl _ hw1
   ·rw[List.append_assoc,qAo b1 _ hb1];exact hT d R h0 (by omega) hr (by omega)
  ·rw[cntL] at hc;simp only[List.length_append,List.length_cons];omega
theorem rowE(n:Nat):∀ (ks:List (List UInt8)) (xs:List VT),ks.length=xs.length→(∀ y∈ks,okT 4 y)→(∀ x∈xs,DV n x)→∀ (ns:List Int) (rest:List UInt8),∃ u b' ns',decoM (Lib.joinTail [44] (enL ks xs)++125::rest) false ns=u++(b'++decoM rest false ns')∧Bl b'∧(∀ R,Aft (u++R)) ∧
  (∀ (d:Int) (R:List UInt8),0≤d→d+1+n≤13→Aft R→u.length+R.length≤100000→Tail d (trimB (u++R)) (ks.zip (xs.map norm)) R)∧u.length+b'.length≤150*cntL xs+10
 |[],[],_,_,_,ns,rest=>by
  obtain⟨p1,p2⟩:=qBc ns;obtain⟨q1,q2⟩:=qBS ns;refine⟨preM ns++[125],postM ns,ns.tail,?_,q1,fun R => ?_,fun d R _ _ _ _ => ?_,?_⟩
  ·show decoM (125::rest) false ns=_;rw[qBA 125 rfl]; simp
  ·rw[List.append_assoc]; exact qFY p1 (by decide) _
  ·rw[List.append_assoc];rw[show [125]++R=125::R from rfl,qBP p1 125 (by decide)];exact Tail.done R
  ·simp only[List.length_append,List.length_cons,List.length_nil];omega
 |[],_::_,h,_,_,_,_=>by simp at h
 |_::_,[],h,_,_,_,_=>by simp at h
 |k::ks,x::xs,hkx,hk,hx,ns,rest=>by
  obtain⟨p1,p2⟩:=qBc ns;obtain⟨q1,q2⟩:=qBS ns;obtain⟨p3,p4⟩:=qBc ns.tail;obtain⟨q3,q4⟩:=qBS ns.tail;obtain⟨b,w,b1,ns1,e1,hb,hb1,hp,hl⟩:=hx x (by simp) ns.tail.tail (Lib.joinTail [44] (enL ks xs)++125::rest);obtain⟨u,b',ns',e2,hb',hA,hT,hul⟩:=rowE n ks xs (by simpa using hkx) (fun y hy=>hk y (by simp[hy])) (fun y hy=>hx y (by simp[hy])) ns1 rest;obtain⟨k1,k2⟩:=hk k (by simp);have ql:=qC1 k;refine⟨preM ns++44::(postM ns++(quoteM k++(preM ns.tail++58::(postM ns.tail++b++(w++(b1++u)))))),b',ns',?_,hb',fun R => ?_,fun d R h0 h1 hr hl => ?_,?_⟩
  ·have e:Lib.joinTail [44] (enL (k::ks) (x::xs))++125::rest=44::(quoteM k++58::(txV x++(Lib.joinTail [44] (enL ks xs)++125::rest))):=by
    rw[enL]; unfold Lib.joinTail; simp
   rw[e,qBA 44 rfl,qDt,qBA 58 rfl,e1,e2]; simp
  ·rw[List.append_assoc]; exact qFY p1 (by decide) _
  ·rw[List.append_assoc];simp only[List.length_append,List.length_cons] at hl;rw[List.cons_append,qBP p1 44 (by decide),List.map_cons,List.zip_cons_cons];refine Tail.more _ ((b1++u)++R) R k (norm x) (ks.zip (xs.map norm)) ⟨⟨k.flatMap escM++34::(preM ns.tail++58::(postM ns.tail++b++(w++((b1++u)++R)))),preM ns.tail++58::(postM ns.tail++b++(w++((b1++u)++R))),postM ns.tail++b++(w++((b1++u)++R)),?_,?_,qEZ k [] _ k2,qBP p3 58 (by decide) _,?_⟩,h0,by omega⟩ ?_
   ·rw[List.append_assoc,qAo _ _ q1,List.append_assoc,qBO];refine(qCl _ (by decide)).trans ?_;simp
   ·have:=congrArg List.length (qBO k []);simp only[List.length_append,List.length_cons,List.length_nil] at this ⊢;omega
   ·refine hp.2 (d+1) _ _ (by omega) h1 (hp.1.trim (q3.app hb) _) (qEQ hb1 (hA R)) (by simp only[List.length_append]; omega)
   ·rw[List.append_assoc,qAo b1 _ hb1];exact hT d R h0 h1 hr (by omega)
  ·rw[cntL];simp only[List.length_append,List.length_cons];omega
theorem dv5(n:Nat)(v:VT)(h:v.kind=5)(ih:∀ x∈v.l.list,DV n x)(hlen:v.l.list.length≤12)(he:v.keys.list.length=v.l.list.length)(hg:rowG none v.keys.list=0)(hk:∀ y∈v.keys.list,okT 4 y):DV (n+1) v:=by
 obtain⟨e1,e2⟩:=qFN v h;intro ns rest;have hc:=qBI v;obtain⟨p1,p2⟩:=qBc ns;obtain⟨q1,q2⟩:=qBS ns;obtain⟨p3,p4⟩:=qBc ns.tail;obtain⟨q3,q4⟩:=qBS ns.tail;unfold brT at e2;generalize v.l.list=l at *;generalize v.keys.list=kl at *;cases l with
 |nil =>
  cases kl with
  |cons _ _=>simp at he
  |nil =>
   refine⟨preM ns,123::(postM ns++(preM ns.tail++[125])),postM ns.tail,ns.tail.tail,?_,p1,q3,⟨⟨_,_,rfl,by decide,by decide,by decide⟩,fun d s R h0 h1 ht hr hl => ?_⟩,?_⟩
   ·rw[e2,qCG];show decoM (123::125::rest) false ns=_;rw[qBA 123 rfl,qBA 125 rfl]; simp
   ·rw[e1];refine qPa d (by omega) s (postM ns++(preM ns.tail++[125])++R) _ R 0 (by rw[ht]; rfl) ?_;refine qOn _ R d ?_;rw[List.append_assoc,qAo _ _ q1,List.append_assoc];exact qBP p3 125 (by decide) R
   ·rw[cntL] at hc;simp only[List.length_append,List.length_cons,List.length_nil];omega
 |cons x xs =>
  cases kl with
  |nil=>simp at he
  |cons k ks =>
   obtain⟨k1,k2⟩:=hk k (by simp);have ql:=qC1 k;obtain⟨b,w,b1,ns1,e3,hb,hb1,hp,hl1⟩:=ih x (by simp) ns.tail.tail (Lib.joinTail [44] (enL ks xs)++125::rest);obtain⟨u,b',ns',e4,hb',hA,hT,hul⟩:=rowE n ks xs (by simpa using he) (fun y hy=>hk y (by simp[hy])) (fun y hy=>ih y (by simp[hy])) ns1 rest;refine⟨preM ns,123::(postM ns++(quoteM k++(preM ns.tail++58::(postM ns.tail++b++(w++(b1++u)))))),b',ns',?_,p1,hb',⟨⟨_,_,rfl,by decide,by decide,by decide⟩,fun d s R h0 h1 ht hr hl => ?_⟩,?_⟩
   ·rw[e2,enL,Lib.join_cons];have e:[123]++(quoteM k++[58]++txV x++Lib.joinTail [44] (enL ks xs))++[125]++rest=123::(quoteM k++58::(txV x++(Lib.joinTail [44] (enL ks xs)++125::rest))):=by simp
    rw[e,qBA 123 rfl,qDt,qBA 58 rfl,e3,e4]; simp
   ·rw[e1,List.map_cons,List.zip_cons_cons];simp only[List.length_append,List.length_cons] at hl hlen he;have hz:(ks.zip (xs.map norm)).length=ks.length:=by rw[List.length_zip,List.length_map]; omega
    have hgz:rowG none (((k,norm x)::ks.zip (xs.map norm)).map (·.1))=0:=by
     rw[List.map_cons,List.map_fst_zip (by rw[List.length_map]; omega)];exact hg
    have eq:quoteM k++(preM ns.tail++58::(postM ns.tail++b++(w++(b1++u))))++R=quoteM k++(preM ns.tail++58::(postM ns.tail++b++(w++((b1++u)++R)))):=by simp
    have T:=qOB (postM ns++(quoteM k++(preM ns.tail++58::(postM ns.tail++b++(w++(b1++u)))))++R) ((b1++u)++R) R k (norm x) d (ks.zip (xs.map norm)) ?_ ?_ (by omega)
    ·rw[qJv _ hgz,qPh _ hgz] at T;exact qPa d (by omega) s _ _ R 0 (by rw[ht]; simp) T
    ·refine⟨⟨k.flatMap escM++34::(preM ns.tail++58::(postM ns.tail++b++(w++((b1++u)++R)))),preM ns.tail++58::(postM ns.tail++b++(w++((b1++u)++R))),postM ns.tail++b++(w++((b1++u)++R)),?_,?_,qEZ k [] _ k2,qBP p3 58 (by decide) _,?_⟩,h0,by omega⟩
     ·rw[qDi,List.append_assoc,qAo _ _ q1,eq,qBO];exact qCl _ (by decide)
     ·have:=congrArg List.length (qBO k []);simp only[List.length_append,List.length_cons,List.length_nil] at this ⊢;omega
     ·exact hp.2 (d+1) _ _ (by omega) (by omega) (hp.1.trim (q3.app hb) _) (qEQ hb1 (hA R)) (by simp only[List.length_append]; omega)
    ·rw[List.append_assoc,qAo b1 _ hb1];exact hT d R h0 (by omega) hr (by omega)
   ·rw[cntL] at hc;simp only[List.length_append,List.length_cons];omega
theorem dv:∀ (n:Nat) (v:VT),Gd n v→DV n v
 |0,_,G=>G.elim
 |n+1,v,G=>by
  have ih:∀ x∈v.l.list,DV n x:=fun x hx=>dv n x (Gd1.x G x hx)
  have h0:=Gd1.k0 G;have h5:=Gd1.k5 G;by_cases k0:v.kind=0
  ·exact dv0 n v G k0
  by_cases k1:v.kind=1
  ·exact dv1 n v G k1
  by_cases k2:v.kind=2
  ·exact dv2 n v G k2
  by_cases k3:v.kind=3
  ·exact dv3 n v G k3
  by_cases k4:v.kind=4
  ·exact dv4 n v k4 ih (Gd1.l G)
  ·have k5:v.kind=5:=by omega
   exact dv5 n v k5 ih (Gd1.l G) (Gd1.e G k5) (Gd1.ks G) (Gd1.kt G)
theorem qMA(v:VT)(G:Gd 12 v)(ns:List Int)(a R:List UInt8)(ha:Bl a)(hR:Bl R)(hl:150*cntV v+R.length≤100000):∃ R',Bl R'∧Rd 1 (a++decoM (txV v) false ns++R) (norm v) R'∧(decoM (txV v) false ns).length≤150*cntV v:=by
 obtain⟨b,w,b',ns',e,hb,hb',hp,hle⟩:=dv 12 v G ns [];rw[List.append_nil] at e;have e0:decoM ([]:List UInt8) false ns'=[]:=by rw[decoM]
 rw[e0,List.append_nil] at e;refine⟨b'++R,hb'.app hR,?_,by rw[e]; simp only[List.length_append]; omega⟩;rw[e];have e1:a++(b++(w++b'))++R=(a++b)++(w++(b'++R)):=by simp
 rw[e1];refine hp.2 1 _ _ (by decide) (by decide) (hp.1.trim (ha.app hb) _) ?_ (by simp only[List.length_append]; omega);intro z hz;exact qIH ((hb'.app hR) z (List.mem_of_getElem? hz))
theorem qFR(n:Nat)(v:VT)(G:Gd1 (Gd n) v):(norm v).kind=v.kind∧(norm v).b=v.b∧(norm v).n=v.n∧(norm v).s=v.s∧(norm v).keys.list=v.keys.list∧(norm v).l.list=v.l.list.map norm:=by
 have h0:=G.k0;have h5:=G.k5;by_cases k0:v.kind=0
 ·rw[(qEw v k0).1,k0,G.cb (by omega),G.cn (by omega),G.cs (by omega),G.ck (by omega),G.cl (by omega) (by omega)]; exact⟨rfl,rfl,rfl,rfl,rfl,rfl⟩
 by_cases k1:v.kind=1
 ·rw[(qFM v k1).1,k1,G.cn (by omega),G.cs (by omega),G.ck (by omega),G.cl (by omega) (by omega)]; exact⟨rfl,rfl,rfl,rfl,rfl,rfl⟩
 by_cases k2:v.kind=2
 ·rw[(qFD v k2).1,k2,G.cb (by omega),G.cs (by omega),G.ck (by omega),G.cl (by omega) (by omega)]; exact⟨rfl,rfl,rfl,rfl,rfl,rfl⟩
 by_cases k3:v.kind=3
 ·rw[(qE8 v k3).1,k3,G.cb (by omega),G.cn (by omega),G.ck (by omega),G.cl (by omega) (by omega)]; exact⟨rfl,rfl,rfl,rfl,rfl,rfl⟩
 by_cases k4:v.kind=4
 ·rw[(qEy v k4).1,k4,G.cb (by omega),G.cn (by omega),G.cs (by omega),G.ck (by omega)];cases v.l.list.map norm <;> exact⟨rfl,rfl,rfl,rfl,rfl,rfl⟩
 ·have k5:v.kind=5:=by omega
  have hl:v.keys.list.length=(v.l.list.map norm).length:=by rw[List.length_map]; exact G.e k5
  rw[(qFN v k5).1,k5,G.cb (by omega),G.cn (by omega),G.cs (by omega)];refine⟨rfl,rfl,rfl,rfl,?_,?_⟩
  ·show(grown ((v.keys.list.zip (v.l.list.map norm)).map (·.1))).list=_;rw[qCb];exact List.map_fst_zip (by omega)
  ·show(grown ((v.keys.list.zip (v.l.list.map norm)).map (·.2))).list=_;rw[qCb];exact List.map_snd_zip (by omega)
theorem qJY:∀ (l:List (List UInt8)) (i:Nat),(∀ y∈l,y.length≤200)→fidx l i = -1
 |[],_,_=>rfl
 |y::l,i,h=>by
  have:=h y (by simp);unfold fidx;rw[if_neg (by omega)];exact qJY l (i+1) (fun z hz=>h z (by simp[hz]))
theorem qNu(l:List (List UInt8))(h:rowG none l=0)(hk:∀ y∈l,okT 4 y):keysE l=0:=by
 unfold keysE longK;rw[qJY l 0 (fun y hy=>by have:=(hk y hy).1; omega),if_neg (by decide)];exact h
theorem qIL:∀ (n:Nat) (v:VT),Gd n v→∀ d m:Int,0≤d→d+n≤13→0≤m→m+cntV v≤2000→chkV (norm v) d m=(0,m+cntV v)
 |0,_,G,_,_,_,_,_,_=>G.elim
 |n+1,v,G,d,m,h0,h1,m0,m1=>by
  have G':Gd1 (Gd n) v:=G;obtain⟨f1,f2,f3,f4,f5,f6⟩:=qFR n v G';have hc:=qBI v;have ll:=G'.l;have sl:=G'.s.1;have row:∀ (l:List VT),(∀ x∈l,Gd n x)→∀ m:Int,0≤m→m+cntL l≤2000→chkL (l.map norm) (d+1) m=(0,m+cntL l):=by
   intro l
   induction l with
   |nil=>intro _ m _ _; rw[List.map_nil,chkL,cntL]; simp
   |cons x l ihl =>
    intro hx m a b;rw[cntL] at b ⊢;have e:=qIL n x (hx x (by simp)) (d+1) m (by omega) (by omega) a (by omega);rw[List.map_cons,chkL,e,if_neg (by simp),ihl (fun y hy=>hx y (by simp[hy])) _ (by omega) (by omega)];simp only[Prod.mk.injEq,true_and];omega
  have hlen:(norm v).l.len=v.l.list.length:=by unfold Sl.len; rw[f6,List.length_map]
  have klen:(norm v).keys.len=v.keys.list.length:=by unfold Sl.len; rw[f5]
  have hb:badV0 (norm v)=false:=by
   unfold badV0 extraM;rw[f1,f2,f3,f4,hlen,klen];have k0:=G'.k0;have k5:=G'.k5;have e1:(if v.kind=1 then false else v.b)=false:=by by_cases h:v.kind=1; rw[if_pos h]; rw[if_neg h]; exact G'.cb h
   have e2:(if v.kind=2 then false else !decide (v.n=0))=false:=by by_cases h:v.kind=2; rw[if_pos h]; rw[if_neg h,G'.cn h]; rfl
   have e3:(if v.kind=3 then false else !decide (v.s=[]))=false:=by by_cases h:v.kind=3; rw[if_pos h]; rw[if_neg h,G'.cs h]; rfl
   have e4:(if v.kind=5 then false else decide (0<(v.keys.list.length:Int)))=false:=by by_cases h:v.kind=5; rw[if_pos h]; rw[if_neg h,G'.ck h]; rfl
   have e5:(if v.kind=5∨v.kind=4 then false else decide (0<(v.l.list.length:Int)))=false:=by
    by_cases h:v.kind=5∨v.kind=4
    ·rw[if_pos h]
    ·rw[if_neg h,G'.cl (fun e=>h (.inr e)) (fun e=>h (.inl e))]; rfl
   rw[e1,e2,e3,e4,e5,decide_eq_false (show ¬ v.kind<0 by omega),decide_eq_false (show ¬ 5<v.kind by omega)];by_cases h:v.kind=5
   ·rw[decide_eq_true (show((v.keys.list.length:Nat):Int)=(v.l.list.length:Int) by rw[G'.e h])]; simp
   ·rw[decide_eq_false h]; rfl
  rw[qGN,hb,hlen,f4,f5,f6,qNu _ G'.ks G'.kt,if_neg (by omega),if_neg (by decide),if_neg (by omega),if_neg (by omega),if_neg (by omega),if_neg (by decide)];rw[row v.l.list G'.x (m+1) (by omega) (by omega)];simp only[Prod.mk.injEq,true_and];omega
theorem qNO:∀ l:List VT,(∀ x∈l,wtA x)→wtL l
 |[],_=>by rw[wtL]; trivial
 |x::l,h=>by rw[wtL]; exact⟨h x (by simp),qNO l (fun y hy=>h y (by simp[hy]))⟩
theorem qLw(v:VT)(h1:v.keys.len≤1000000)(h2:v.l.len≤1000000)(h:∀ x∈v.l.list,wtA x):wtA v:=by
 cases v with
 |mk k b n s ks l =>
  rw[wtA];refine⟨⟨h1,h2⟩,?_⟩;cases l with
  |nil=>rw[wtS]; trivial
  |mk t l=>rw[wtS]; exact qNO l h
theorem qGR{n:Nat}{v:VT}(G:Gd1 (Gd n) v):v.keys.list.length≤12:=by
 have:=G.l;by_cases h:v.kind=5
 ·rw[G.e h]; exact this
 ·rw[G.ck h]; simp
theorem qCB:∀ (n:Nat) (v:VT),Gd n v→wtA v∧wtA (norm v)
 |0,_,G=>G.elim
 |n+1,v,G=>by
  have G':Gd1 (Gd n) v:=G;obtain⟨f1,f2,f3,f4,f5,f6⟩:=qFR n v G';have ll:=G'.l;have kl:=qGR G';refine⟨qLw v (by unfold Sl.len; omega) (by unfold Sl.len; omega) (fun x hx=>(qCB n x (G'.x x hx)).1),qLw _ (by unfold Sl.len; rw[f5]; omega) (by unfold Sl.len; rw[f6,List.length_map]; omega) (fun x hx => ?_)⟩;rw[f6] at hx;obtain⟨y,hy,rfl⟩:=List.mem_map.1 hx;exact(qCB n y (G'.x y hy)).2
theorem qDX:∀ (n:Nat) (v:VT),Gd n v→smV v∧smV (norm v)
 |0,_,G=>G.elim
 |n+1,v,G=>by
  have G':Gd1 (Gd n) v:=G;obtain⟨f1,f2,f3,f4,f5,f6⟩:=qFR n v G';have ll:=G'.l;have kl:=qGR G';have sl:=G'.s.1;refine⟨(qHh v).2 ⟨by omega,by unfold Sl.len; omega,by unfold Sl.len; omega,fun x hx=>(qDX n x (G'.x x hx)).1⟩,(qHh _).2 ⟨by rw[f4]; omega,by unfold Sl.len; rw[f5]; omega,by unfold Sl.len; rw[f6,List.length_map]; omega,fun x hx => ?_⟩⟩;rw[f6] at hx;obtain⟨y,hy,rfl⟩:=List.mem_map.1 hx;exact(qDX n y (G'.x y hy)).2
theorem qL7(l:List VT):(∀ x∈l,sameV (norm x) x=true)→sameL (l.map norm) l=true:=by
 induction l with
 |nil=>intro _; simp[sameL]
 |cons x l ih =>
  intro h;rw[List.map_cons,sameL,h x (by simp),ih (fun y hy=>h y (by simp[hy]))]; rfl
theorem qC4:∀ (n:Nat) (v:VT),Gd n v→sameV (norm v) v=true
 |0,_,G=>G.elim
 |n+1,v,G=>by
  have G':Gd1 (Gd n) v:=G;obtain⟨f1,f2,f3,f4,f5,f6⟩:=qFR n v G';rw[qCC,f1,f2,f3,f4,f5,f6,qL7 _ (fun x hx=>qC4 n x (G'.x x hx))];simp
theorem qFU:∀ l m:List VT,(∀ x∈l,∀ y,sameV x y=true→sameV y x=true)→sameL l m=true→sameL m l=true
 |[],[],_,_=>by simp[sameL]
 |[],_::_,_,h=>by simp[sameL] at h
 |_::_,[],_,h=>by simp[sameL] at h
 |a::l,b::m,hR,h=>by
  rw[sameL,Bool.and_eq_true] at h;rw[sameL,hR a (by simp) b h.1,qFU l m (fun x hx=>hR x (by simp[hx])) h.2]; rfl
theorem qEf:∀ l m k:List VT,(∀ x∈l,∀ y z,sameV x y=true→sameV y z=true→sameV x z=true)→sameL l m=true→sameL m k=true→sameL l k=true
 |[],[],[],_,_,_=>by simp[sameL]
 |[],[],_::_,_,_,h=>by simp[sameL] at h
 |[],_::_,_,_,h,_=>by simp[sameL] at h
 |_::_,[],_,_,h,_=>by simp[sameL] at h
 |_::_,_::_,[],_,_,h=>by simp[sameL] at h
 |a::l,b::m,c::k,hR,h,g=>by
  rw[sameL,Bool.and_eq_true] at h g;rw[sameL,hR a (by simp) b c h.1 g.1,qEf l m k (fun x hx=>hR x (by simp[hx])) h.2 g.2]; rfl
theorem qG3:∀ (n:Nat) (v w:VT),SizeOf.sizeOf v<n→sameV v w=true→sameV w v=true
 |0,_,_,h,_=>by omega
 |n+1,v,w,hs,h=>by
  rw[qCC] at h ⊢;simp only[Bool.and_eq_true,decide_eq_true_eq,beq_iff_eq] at h ⊢;obtain⟨⟨⟨⟨⟨a,b⟩,c⟩,d⟩,e⟩,f⟩:=h;exact⟨⟨⟨⟨⟨a.symm,b.symm⟩,c.symm⟩,d.symm⟩,e.symm⟩,qFU _ _ (fun x hx y hy=>qG3 n x y (by have:=VT.mem_size hx; omega) hy) f⟩
theorem qFm:∀ (n:Nat) (v w u:VT),SizeOf.sizeOf v<n→sameV v w=true→sameV w u=true→sameV v u=true
 |0,_,_,_,h,_,_=>by omega
 |n+1,v,w,u,hs,h,g=>by
  rw[qCC] at h g ⊢;simp only[Bool.and_eq_true,decide_eq_true_eq,beq_iff_eq] at h g ⊢;obtain⟨⟨⟨⟨⟨a,b⟩,c⟩,d⟩,e⟩,f⟩:=h;obtain⟨⟨⟨⟨⟨a',b'⟩,c'⟩,d'⟩,e'⟩,f'⟩:=g;exact⟨⟨⟨⟨⟨a.trans a',b.trans b'⟩,c.trans c'⟩,d.trans d'⟩,e.trans e'⟩,qEf _ _ _ (fun x hx y z hy hz=>qFm n x y z (by have:=VT.mem_size hx; omega) hy hz) f f'⟩
theorem qHI:∀ l m:List VT,(∀ x∈l,∀ y,sameV x y=true→txV x=txV y)→sameL l m=true→txL l=txL m∧∀ ks,enL ks l=enL ks m
 |[],[],_,_=>⟨rfl,fun _=>rfl⟩
 |[],_::_,_,h=>by simp[sameL] at h
 |_::_,[],_,h=>by simp[sameL] at h
 |a::l,b::m,hR,h=>by
  rw[sameL,Bool.and_eq_true] at h;obtain⟨e,f⟩:=qHI l m (fun x hx=>hR x (by simp[hx])) h.2;have ab:=hR a (by simp) b h.1;refine⟨by rw[txL,txL,ab,e],fun ks => ?_⟩;cases ks with
  |nil=>rw[qCG,qCG]
  |cons k ks=>rw[enL,enL,ab,f]
theorem qHF:∀ (n:Nat) (v w:VT),SizeOf.sizeOf v<n→sameV v w=true→txV v=txV w
 |0,_,_,h,_=>by omega
 |n+1,v,w,hs,h=>by
  rw[qCC] at h;simp only[Bool.and_eq_true,decide_eq_true_eq,beq_iff_eq] at h;obtain⟨⟨⟨⟨⟨a,b⟩,c⟩,d⟩,e⟩,f⟩:=h;obtain⟨t,u⟩:=qHI _ _ (fun x hx y hy=>qHF n x y (by have:=VT.mem_size hx; omega) hy) f;rw[qB3,qB3,a,b,c,d];unfold brL brT;rw[e,t,u]
theorem qML(n:Nat)(v:VT)(G:Gd n v):(txV v).length≤150*cntV v:=by
 obtain⟨b,w,b',ns',e,hb,hb',hp,hle⟩:=dv n v G [] [];rw[List.append_nil,qDh _ _ _ (Nat.le_refl _),qDc,List.append_nil] at e;rw[e];simp only[List.length_append];omega
theorem qST(l:List (List UInt8))(B:Nat)(h:∀ x∈l,x.length≤B):(Lib.joinTail [44] l).length≤l.length*(B+1):=by
 induction l with
 |nil=>exact Nat.zero_le _
 |cons x l ih =>
  have:=ih (fun y hy=>h y (by simp[hy]));have hx:=h x (by simp);have e:Lib.joinTail [44] (x::l)=44::(x++Lib.joinTail [44] l):=by unfold Lib.joinTail; simp
  rw[e];simp only[List.length_cons,List.length_append];rw[Nat.succ_mul];omega
theorem qPe(l:List (List UInt8))(B:Nat)(h:∀ x∈l,x.length≤B):(Lib.join l [44]).length≤l.length*(B+1):=by
 cases l with
 |nil=>exact Nat.zero_le _
 |cons x l =>
  have:=qST l B (fun y hy=>h y (by simp[hy]));have hx:=h x (by simp);rw[Lib.join_cons];simp only[List.length_cons,List.length_append];rw[Nat.succ_mul];omega
theorem qGH:∀ (l:List VT) (x:VT),x∈l→cntV x≤cntL l
 |y::l,x,h=>by
  rw[cntL]
  rcases List.mem_cons.1 h with rfl|h
  ·omega
  ·have:=qGH l x h; omega
theorem qPc(B:Nat):∀ (ks:List (List UInt8)) (l:List VT),(∀ y∈ks,okT 4 y)→(∀ x∈l,(txV x).length≤B)→∀ z∈enL ks l,z.length≤B+11
 |[],l,_,_,z,hz=>by rw[qCG] at hz; cases hz
 |k::ks,[],_,_,z,hz=>by rw[qDv] at hz; cases hz
 |k::ks,x::l,h,g,z,hz=>by
  rw[enL] at hz
  rcases List.mem_cons.1 hz with rfl|hz
  ·have:=qC1 k;have h1:=(h k (by simp)).1;have h2:=g x (by simp);simp only[List.length_append,List.length_cons,List.length_nil];omega
  ·exact qPc B ks l (fun y hy=>h y (by simp[hy])) (fun y hy=>g y (by simp[hy])) z hz
theorem qKM:∀ (n:Nat) (v:VT),Gd n v→cntV v≤1000→wrV n v
 |0,_,G,_=>G.elim
 |n+1,v,G,hc=>by
  have G':Gd1 (Gd n) v:=G;have ll:=G'.l;have kl:=qGR G';have sl:=G'.s.1;have cv:=qBI v;have cx:∀ x∈v.l.list,cntV x≤1000:=fun x hx=>by have:=qGH _ x hx; omega
  have tl:∀ x∈v.l.list,(txV x).length≤150000:=fun x hx=>by
   have:=qML n x (G'.x x hx);have:=cx x hx;omega
  have j1:=qPe (txL v.l.list) 150000 (fun y hy=>by rw[qIh] at hy; obtain⟨x,hx,rfl⟩:=List.mem_map.1 hy; exact tl x hx);have j2:=qPe (enL v.keys.list v.l.list) 150011 (qPc 150000 _ _ G'.kt tl);have el:=qGV v.keys.list v.l.list;have tn:(txL v.l.list).length=v.l.list.length:=by rw[qIh,List.length_map]
  rw[tn] at j1;have m1:v.l.list.length*(150000+1)≤12*(150000+1):=Nat.mul_le_mul_right _ ll;have m2:(enL v.keys.list v.l.list).length*(150011+1)≤12*(150011+1):=Nat.mul_le_mul_right _ (by omega);refine⟨?_,?_,by unfold Sl.len; omega,by unfold Sl.len; omega,G'.n,fun _=>qok _ (by omega),fun k hk=>qok k (by have:=(G'.kt k hk).1; omega),fun x hx=>qKM n x (G'.x x hx) (cx x hx)⟩
  ·unfold brL;simp only[List.length_append,List.length_cons,List.length_nil];omega
  ·unfold brT;simp only[List.length_append,List.length_cons,List.length_nil];omega
theorem qNG(v:VT)(G:Gd 12 v)(hc:cntV v≤1000):Om 14 [kA v.row] []=some (kS (txV v),[]):=qNW 12 v (qKM 12 v G hc)
open Go Go.AI
def kindM(k deep:Int):Int:=if deep≤1∧4≤withinM k 6 then 2 else withinM k 6
def keyL:List (List UInt8):=[[97],[98],[99],[110,97,109,101],[110],[],[120,34,121],[10]]
def keyM(n:Int):List UInt8:=keyL.getD (withinM n 8).toNat []
def tabM:VT→List Int→List VT→VT
 |v,_,[]=>v
 |v,ks,g::gs=>tabM (putM v (keyM (ks.headD 0)) g) ks.tail gs
def v0(k:Int):VT := .mk k false 0 [] .nil .nil
def goodK(k n:Int)(s:Sl UInt8)(ks:List Int)(g:List VT):VT :=
 if k=1 then .mk 1 (decide (n.tmod 2=0)) 0 [] .nil .nil else if k=2 then .mk 2 false n [] .nil .nil else if k=3 then .mk 3 false 0 (textM s.list) .nil .nil else
 if k=4 then .mk 4 false 0 [] .nil (grown g) else if k=5 then tabM (v0 5) ks g else v0 k
mutual
def goodR:RT→Int→VT
 |.mk k n s ks l,deep=>goodK (kindM k deep) n s ks.list (goodS l (IntKind.i64.wrap (deep - 1)))
def goodS:Sl RT→Int→List VT
 |.nil,_=>[]
 |.mk _ l,d=>goodL l d
def goodL:List RT→Int→List VT
 |[],_=>[]
 |r::rs,d=>goodR r d::goodL rs d
end
theorem qPC(l:Sl RT)(d:Int):goodS l d=goodL l.list d:=by cases l <;> simp[goodS,goodL,Sl.list]
theorem qE1(r:RT)(d:Int):goodR r d=goodK (kindM r.kind d) r.n r.s r.keys.list (goodL r.kids.list (IntKind.i64.wrap (d - 1))):=by
 cases r with
 |mk k n s ks l=>rw[goodR,qPC]; rfl
theorem qGt(d:Int):∀ l:List RT,(goodL l d).length=l.length
 |[]=>rfl
 |r::l=>by rw[goodL,List.length_cons,qGt d l,List.length_cons]
mutual
def smR:RT→Prop
 |.mk k n s ks l=>l.len≤12∧s.len≤50∧ks.len≤12∧smS l
def smS:Sl RT→Prop
 |.nil=>True
 |.mk _ l=>smL l
def smL:List RT→Prop
 |[]=>True
 |r::rs=>smR r∧smL rs
end
theorem qNU:∀ l:List RT,smL l↔∀ x∈l,smR x
 |[]=>by simp[smL]
 |r::l=>by simp[smL,qNU l]
theorem qFd(r:RT):smR r↔r.kids.len≤12∧r.s.len≤50∧r.keys.len≤12∧∀ x∈r.kids.list,smR x:=by
 cases r with
 |mk k n s ks l =>
  rw[smR,← qNU];cases l <;> simp[smS,smL,Sl.list,RT.kids,RT.s,RT.keys]
theorem qMO:∀ (n:Nat) (r:RT),SizeOf.sizeOf r<n→∀ m:Int,m≤1000→0≤fewR r m∧(fewR r m≤m∨m<0)∧(fewR r m≠0→smR r):=by
 intro n
 induction n with
 |zero=>intro r h; omega
 |succ n ih =>
  intro r hs m hm;have hl:∀ l:List RT,(∀ x∈l,SizeOf.sizeOf x<n)→∀ m:Int,0≤m→m≤1000→0≤fewL l m∧fewL l m≤m∧(fewL l m≠0→∀ x∈l,smR x):=by
   intro l
   induction l with
   |nil=>intro _ m h0 _; exact⟨h0,Int.le_refl _,fun _ x hx=>by cases hx⟩
   |cons x l ihl =>
    intro hx m h0 h1;unfold fewL;by_cases hp:0<m
    ·rw[if_pos hp];obtain⟨a1,a2,a3⟩:=ih x (hx x (by simp)) m h1;have a2':fewR x m≤m:=by rcases a2 with a|a <;> omega
     obtain⟨b1,b2,b3⟩:=ihl (fun y hy=>hx y (by simp[hy])) (fewR x m) a1 (by omega);refine⟨b1,by omega,fun hz y hy => ?_⟩
     rcases List.mem_cons.1 hy with rfl|hy
     ·exact a3 (by omega)
     ·exact b3 hz y hy
    ·rw[if_neg hp];exact⟨h0,Int.le_refl _,fun hz=>by omega⟩
  rw[qGU];cases hb:bigR r m
  ·simp only[Bool.false_eq_true,if_false];have hb':=hb;simp only[bigR,Bool.or_eq_false_iff,decide_eq_false_iff_not,Bool.not_eq_false',decide_eq_true_eq] at hb';obtain⟨⟨⟨h1,h2⟩,h3⟩,h4⟩:=hb';rw[qAH (m - 1) (by omega) (by omega)];obtain⟨c1,c2,c3⟩:=hl r.kids.list (fun x hx=>by have:=RT.mem_size hx; omega) (m - 1) (by omega) (by omega);exact⟨c1,by omega,fun hz=>(qFd r).2 ⟨by omega,by omega,by omega,c3 hz⟩⟩
  ·simp only[if_true];exact⟨Int.le_refl _,by omega,fun hz=>absurd rfl hz⟩
theorem qEJ{r:RT}{m:Int}(hm:m≤1000)(h:fewR r m≠0):smR r:=(qMO _ r (Nat.lt_succ_self _) m hm).2.2 h
open Go Go.AI
abbrev gq2:TVal := .v (.c (.ptr (.own 2 1) 0))
abbrev gq4:TVal := .v (.c (.ptr (.own 4 1) 0))
abbrev gq6:TVal := .v (.c (.ptr (.own 6 1) 0))
abbrev z6:List Cell:=[.p (.int .i64 0),.p (.bool false),.p (.int .i64 0),.p (.str []),.p .nilslice,.p .nilslice]
structure GoodH (r:RT) (cs:List Cell) (h:Heap):Prop where
 a2:h.get (.own 2 1)=some (.cells (pcells r.row) 0)
 a4:h.get (.own 4 1)=some (.cells z6 0)
 a6:h.get (.own 6 1)=some (.cells cs 0)
theorem GoodH.put{r:RT}{cs:List Cell}{h:Heap}(H:GoodH r cs h)(cs':List Cell):GoodH r cs' (h.own 6 1 (.cells cs' 0)) :=
 ⟨(Heap.own_get_ne h 6 1 _ 2 1 (by decide)).trans H.a2,(Heap.own_get_ne h 6 1 _ 4 1 (by decide)).trans H.a4,qBG h 6 1 _ 0 (by decide)⟩
theorem qFL(r:RT)(cs:List Cell)(h:Heap)(H:GoodH r cs h)(hc:cs.length=6)(hp:cs.all isPT=true):lim tab.get S 16 0 5 [gq4,gq6] h=some (.v (.agg (cs.map Cell.strip)),[]):=by
 rw[w16_5,b16_5];have ht:cs.take 6=cs:=List.take_of_length_le (by omega);have hz:put1 z6 0 cs=cs:=qAh _ _ hc;simp (maxSteps:=9999999) +contextual only[exa,rA,rB,rD,rE,rF,rG,rH,rI,rJ,H.a4,H.a6,ht,hz,hc];exact qIQ _ (by show(cs.all isPT&&true)=true; rw[hp]; rfl)
def GoodOK(x:RT):Prop:=∀ d:Int,Om 16 [kA x.row,kI d] []=some (kA (goodR x d).row,[])
theorem y31{β:Type}{kt:TVal→Heap→AI.Touch→Option β}{h:Heap}{d:Nat}{x:RT}(ok:GoodOK x)(n:Int):vtouch Om (.call (.k (.v (.c (.func 16 [])))) [.k (kA x.row),.k (kI n)]) h d kt=kt (kA (goodR x n).row) h noTouch :=
 qBb 16 [kA x.row,kI n] _ (by simp only[exP]) (ok n) (by simp only[exP])
theorem qMF(r:RT)(deep:Int)(hl:r.kids.len≤12)(ih:∀ x∈r.kids.list,GoodOK x) :
  ∀ (i:Nat) (acc:List VT) (c:Cell) (h:Heap),acc.length≤i→GoodH r [.p (.int .i64 4),.p (.bool false),.p (.int .i64 0),.p (.str []),.p .nilslice,c] h→GS [60] 6 c (acc.map VT.row) h→(acc=[]→c = .p .nilslice)→(acc≠[]→∃ q,c = .tsl 6 (acc.map VT.row) q) →
  lim tab.get S 16 0 2 [kI deep,gq2,gq4,gq6,kI (i:Int)] h=some (kA (VT.mk 4 false 0 [] .nil (grown (acc++goodL (r.kids.list.drop i) (IntKind.i64.wrap (deep - 1))))).row,[]):=by
 refine qAk r.kids.len (fun i hi acc c h ha H G c0 c1 => ?_) (fun i hi ihl acc c h ha H G c0 c1 => ?_) <;> rw[w16_2,b16_2]
 ·have h1:¬ (i:Int)<(r.kids.len:Int):=by omega
  simp (maxSteps:=9999999) +contextual only[exa,rA,rB,rD,rE,rF,rG,rH,rI,rJ,exW,exY,H.a2,h1,qAc hi,goodL];refine(qFL r _ h H rfl (by simp only[List.all_cons,List.all_nil,G.pt,Bool.and_true]; rfl)).trans ?_;rw[VT.row_eq];cases acc with
  |nil=>rw[c0 rfl]; rfl
  |cons a acc =>
   obtain⟨q,e⟩:=c1 (by simp);rw[e,List.append_nil]; rfl
 ·have h1:(i:Int)<(r.kids.len:Int):=by omega
  obtain⟨x,hs,h2,hx⟩:=qAT hi;have B2:∀ {β:Type}{O:Oracle}{h:Heap}{d:Nat}{kt:TVal→Heap→AI.Touch→Option β}(y:VT),vtouch O (.bslice 6 1 z6 [(0,.k (.v (.agg (pcells y.row))))] false) h d kt=kt (kSl 6 true [y.row]) h noTouch:=fun y=>qDm 6 _ _ rfl (VT.row_len y)
  obtain⟨c',h',t',G',e',T',K',I',X'⟩:=qB4 (d:=60) (by':=88) (new:=[(goodR x (IntKind.i64.wrap (deep - 1))).row]) (b := .slice 6 true [(goodR x (IntKind.i64.wrap (deep - 1))).row]) (.inr ⟨_,rfl⟩) G (by decide) (fun r hr=>by simp at hr; rw[hr]; exact VT.row_len _) (by simp <;> omega) (by decide);have H':GoodH r [.p (.int .i64 4),.p (.bool false),.p (.int .i64 0),.p (.str []),.p .nilslice,c] h':=⟨K' 2 1 _ (by decide) H.a2,K' 4 1 _ (by decide) H.a4,K' 6 1 _ (by decide) H.a6⟩;have P1:∀ a b c d f g:Cell,put1 [a,b,c,d,f,g] 5 [c']=[a,b,c,d,f,c']:=fun _ _ _ _ _ _=>rfl
  obtain⟨q,eq⟩:=X' (.inl (by simp));simp (maxSteps:=9999999) +contextual only[exa,rA,rB,rD,rE,rF,rG,rH,rI,rJ,exW,exY,H.a2,H.a4,H.a6,H'.a2,H'.a4,H'.a6,h1,hs,y31 (ih x hx),B2,e',P1,qBL,qAl i (by omega)];have G2:GS [60] 6 c' ((acc++[goodR x (IntKind.i64.wrap (deep - 1))]).map VT.row) h':=by rw[List.map_append]; exact G'
  have:=ihl (acc++[goodR x (IntKind.i64.wrap (deep - 1))]) c' _ (by simp; omega) (H'.put _) (G2.own 1 _ (by decide)) (fun e=>absurd e (by simp)) (fun _=>⟨q,by rw[eq,List.map_append]; rfl⟩);rw[List.append_assoc] at this;rw[h2,goodL];exact this
theorem y81{β:Type}{kt:TVal→Heap→AI.Touch→Option β}{h:Heap}{d:Nat}(v x:VT)(key:List UInt8)(hv:evenT 1000 v):vtouch Om (.call (.k (.v (.c (.func 34 [])))) [.k (kA v.row),.k (kS key),.k (kA x.row)]) h d kt=kt (kA (putM v key x).row) h noTouch :=
 qBb 34 [kA v.row,kS key,kA x.row] _ (by simp only[exP]) (qEM v x key hv) (by simp only[exP])
theorem y79{β:Type}{kt:TVal→Heap→AI.Touch→Option β}{h:Heap}{d:Nat}(a n:Int)(hn:0<n)(hs:n<1000000):vtouch Om (.call (.k (.v (.c (.func 12 [])))) [.k (kI a),.k (kI n)]) h d kt=kt (kI (withinM a n)) h noTouch :=
 qBb 12 [kI a,kI n] _ (by simp only[exP]) (qIq a n hn hs) (by simp only[exP])
theorem qR6(n:Int):(keyL.map sRow)[(withinM n 8).toNat]?=some (sRow (keyM n)):=by
 have h:=qB2 n 8 (by decide);have h1:(withinM n 8).toNat<keyL.length:=by show _<8; omega
 rw[List.getElem?_map,List.getElem?_eq_getElem h1];unfold keyM;rw[List.getD_eq_getElem?_getD,List.getElem?_eq_getElem h1]; rfl
theorem qNq(r:RT)(deep:Int)(hl:r.kids.len≤12)(hk:r.keys.len≤12)(ih:∀ x∈r.kids.list,GoodOK x) :
  ∀ (i:Nat) (v:VT) (h:Heap),evenT i v→GoodH r (pcells v.row) h →
  lim tab.get S 16 0 3 [kI deep,gq2,gq4,gq6,kI (i:Int)] h=some (kA (tabM v (r.keys.list.drop i) (goodL (r.kids.list.drop i) (IntKind.i64.wrap (deep - 1)))).row,[]):=by
 refine qAk r.kids.len (fun i hi v h ev H => ?_) (fun i hi ihl v h ev H => ?_) <;> rw[w16_3,b16_3]
 ·have h1:¬ (i:Int)<(r.kids.len:Int):=by omega
  simp (maxSteps:=9999999) +contextual only[exa,rA,rB,rD,rE,rF,rG,rH,rI,rJ,exW,exY,H.a2,h1,qAc hi,goodL,tabM];refine(qFL r _ h H (by rw[qAM,VT.row_len]) ?_).trans ?_
  ·show(pcells v.row).all isPT=true;unfold pcells; rw[List.all_map,List.all_eq_true]; intro x _; rfl
  ·unfold pcells; rw[List.map_map]; rfl
 ·have h1:(i:Int)<(r.kids.len:Int):=by omega
  obtain⟨x,hs,h2,hx⟩:=qAT hi;have B1:∀ {β:Type}{O:Oracle}{h:Heap}{d:Nat}{kt:TVal→Heap→AI.Touch→Option β},vtouch O (.bslice 1 8 [.p (.str [])] [(0,.k (kS [97])),(1,.k (kS [98])),(2,.k (kS [99])),(3,.k (kS [110,97,109,101])),(4,.k (kS [110])),(5,.k (kS [])),(6,.k (kS [120,34,121])),(7,.k (kS [10]))] false) h d kt=kt (kSl 1 true (keyL.map sRow)) h noTouch:=qAv _ _ rfl;have step:∀ n:Int,(r.keys.list.drop i).headD 0=n→lim tab.get S 16 0 4 [kI deep,gq2,gq4,gq6,kI (i:Int),kI n] h=some (kA (tabM v (r.keys.list.drop i) (goodL (r.kids.list.drop i) (IntKind.i64.wrap (deep - 1)))).row,[]):=by
   intro n hn;have wb:=qB2 n 8 (by decide);rw[w16_4,b16_4,h2,goodL,tabM,hn];have P:put1 (pcells v.row) 0 (pcells (putM v (keyM n) (goodR x (IntKind.i64.wrap (deep - 1)))).row)=pcells (putM v (keyM n) (goodR x (IntKind.i64.wrap (deep - 1)))).row:=qAh _ _ (by rw[qAM,qAM,VT.row_len,VT.row_len]);have ev':evenT 1000 v:=⟨ev.1,by have:=ev.2; omega⟩;simp (maxSteps:=9999999) +contextual only[exa,rA,rB,rD,rE,rF,rG,rH,rI,rJ,exW,exY,H.a2,H.a4,H.a6,h1,hs,y31 (ih x hx),y79 n 8 (by decide) (by decide),y81 v _ _ ev',qR6,wb.1,B1,P,qBL,qAl i (by omega)];have:=ihl _ _ (qIV i v (goodR x (IntKind.i64.wrap (deep - 1))) (keyM n) ev) (H.put _);rw[← List.tail_drop] at this;exact this
  by_cases h3:(i:Int)<(r.keys.len:Int)
  ·obtain⟨n,hn,h4,_⟩:=qAT (l:=r.keys.list) (i:=i) (by unfold Sl.len at h3; omega);simp (maxSteps:=9999999) +contextual only[exa,rA,rB,rD,rE,rF,rG,rH,rI,rJ,exW,exY,H.a2,h1,h3,hn];exact step n (by rw[h4]; rfl)
  ·simp (maxSteps:=9999999) +contextual only[exa,rA,rB,rD,rE,rF,rG,rH,rI,rJ,exW,exY,H.a2,h1,h3];exact step 0 (by rw[qAc (l:=r.keys.list) (i:=i) (by unfold Sl.len at h3; omega)]; rfl)
theorem qNr(r:List PVal):(pcells r).map Cell.strip=pcells r:=by unfold pcells; rw[List.map_map]; rfl
theorem qSy(r:List PVal):(pcells r).all isPT=true:=by unfold pcells; rw[List.all_map,List.all_eq_true]; intro x _; rfl
theorem qD5(r:RT)(deep kk:Int)(hs:smR r)(hk:kk=kindM r.kind deep)(ih:∀ x∈r.kids.list,GoodOK x)(h:Heap)(a2:h.get (.own 2 1)=some (.cells (pcells r.row) 0))(a4:h.get (.own 4 1)=some (.cells z6 0))(hg:h.gen 6=0) :
  lim tab.get S 16 0 1 [kI deep,gq2,gq4,kI kk] h=some (kA (goodR r deep).row,[]):=by
 obtain⟨s1,s2,s3,_⟩:=(qFd r).1 hs;rw[w16_1,b16_1,qE1,← hk];have H:∀ cs,GoodH r cs (h.own 6 1 (.cells cs 0)):=fun cs=>⟨(Heap.own_get_ne h 6 1 _ 2 1 (by decide)).trans a2,(Heap.own_get_ne h 6 1 _ 4 1 (by decide)).trans a4,qBG h 6 1 _ 0 (by decide)⟩
 have H2:∀ cs cs',GoodH r cs' ((h.own 6 1 (.cells cs 0)).own 6 1 (.cells cs' 0)):=fun cs cs'=>(H cs).put cs'
 have H3:∀ cs cs' cs'',GoodH r cs'' (((h.own 6 1 (.cells cs 0)).own 6 1 (.cells cs' 0)).own 6 1 (.cells cs'' 0)):=fun cs cs' cs''=>(H2 cs cs').put cs''
 have F:∀ (cs:List Cell) (h:Heap) (v:VT),GoodH r cs h→cs=pcells v.row→lim tab.get S 16 0 5 [gq4,gq6] h=some (kA v.row,[]):=by
  intro cs h v H e;subst e;refine(qFL r _ h H (by rw[qAM,VT.row_len]) (qSy _)).trans ?_;rw[qNr]
 by_cases k1:kk=1
 ·rw[k1];simp (maxSteps:=9999999) +contextual only[exa,rA,rB,rD,rE,rF,rG,rH,rI,rJ,exW,exY,a2,a4,hg,goodK,if_true,qA6 0 .i64 r.n 2 (by decide)];exact F _ _ _ (H3 _ _ _) rfl
 by_cases k2:kk=2
 ·rw[k2];simp (maxSteps:=9999999) +contextual only[exa,rA,rB,rD,rE,rF,rG,rH,rI,rJ,exW,exY,a2,a4,hg,goodK,if_true,if_false];exact F _ _ _ (H3 _ _ _) rfl
 by_cases k3:kk=3
 ·rw[k3];simp (maxSteps:=9999999) +contextual only[exa,rA,rB,rD,rE,rF,rG,rH,rI,rJ,exW,exY,a2,a4,hg,goodK,if_true,if_false,u80 r.s (by omega)];exact F _ _ _ (H3 _ _ _) rfl
 by_cases k4:kk=4
 ·rw[k4];simp (maxSteps:=9999999) +contextual only[exa,rA,rB,rD,rE,rF,rG,rH,rI,rJ,exW,exY,a2,a4,hg,goodK,if_true,if_false];exact qMF r deep s1 ih 0 [] _ _ (Nat.le_refl _) (H2 _ _) (.inl ⟨rfl,rfl⟩) (fun _=>rfl) (fun e=>absurd rfl e)
 by_cases k5:kk=5
 ·rw[k5];simp (maxSteps:=9999999) +contextual only[exa,rA,rB,rD,rE,rF,rG,rH,rI,rJ,exW,exY,a2,a4,hg,goodK,if_true,if_false];refine(qNq r deep s1 s3 ih 0 (v0 5) _ ⟨rfl,Nat.le_refl _⟩ (H2 _ _)).trans ?_;rw[List.drop_zero,List.drop_zero]
 ·simp (maxSteps:=9999999) +contextual only[exa,rA,rB,rD,rE,rF,rG,rH,rI,rJ,exW,exY,a2,a4,hg,k1,k2,k3,k4,k5,goodK,if_false];exact F _ _ _ (H2 _ _) rfl
theorem qJm:∀ (n:Nat) (r:RT),SizeOf.sizeOf r<n→smR r→GoodOK r:=by
 intro n
 induction n with
 |zero=>intro r h; omega
 |succ n ihn =>
  intro r hs sm deep;have ih:∀ x∈r.kids.list,GoodOK x:=fun x hx=>ihn x (by have:=RT.mem_size hx; omega) (((qFd r).1 sm).2.2.2 x hx)
  refine(qAB rfl).trans ?_;show lim tab.get S 16 0 0 [kA r.row,kI deep] h0=_;rw[w16_0,b16_0];by_cases h1:deep≤1
  ·have h1':¬ (1:Int)<deep:=by omega
   by_cases h2:4≤withinM r.kind 6
   ·have h2':¬ withinM r.kind 6<4:=by omega
    simp (maxSteps:=9999999) +contextual only[exa,rA,rB,rD,rE,rF,rG,rH,rI,rJ,exW,exY,u79 r.kind 6 (by decide) (by decide),h1,h1',h2,h2'];exact qD5 r deep 2 sm (by unfold kindM; rw[if_pos ⟨h1,h2⟩]) ih _ rfl rfl rfl
   ·have h2':withinM r.kind 6<4:=by omega
    simp (maxSteps:=9999999) +contextual only[exa,rA,rB,rD,rE,rF,rG,rH,rI,rJ,exW,exY,u79 r.kind 6 (by decide) (by decide),h1,h1',h2,h2'];exact qD5 r deep _ sm (by unfold kindM; rw[if_neg (fun x=>h2 x.2)]) ih _ rfl rfl rfl
  ·have h1':(1:Int)<deep:=by omega
   simp (maxSteps:=9999999) +contextual only[exa,rA,rB,rD,rE,rF,rG,rH,rI,rJ,exW,exY,u79 r.kind 6 (by decide) (by decide),h1,h1'];exact qD5 r deep _ sm (by unfold kindM; rw[if_neg (fun x=>h1 x.1)]) ih _ rfl rfl rfl
open Go Go.AI
open Go Go.AI
theorem qSL:∀ a∈keyL,∀ b∈keyL,a=b∨bless a b=true∨bless b a=true:=by decide +kernel
theorem qSA:∀ a∈keyL,∀ b∈keyL,∀ c∈keyL,bless a b=true→bless b c=true→bless a c=true:=by decide +kernel
theorem qJ1(n:Int):keyM n∈keyL:=by
 have h:=qB2 n 8 (by decide);have h1:(withinM n 8).toNat<keyL.length:=by show _<8; omega
 unfold keyM;rw[List.getD_eq_getElem?_getD,List.getElem?_eq_getElem h1];exact List.getElem_mem h1
def Srt:List (List UInt8)→Prop
 |[]=>True
 |a::l=>a∈keyL∧(∀ b∈l,bless a b=true)∧Srt l
theorem Srt.mem:∀ {l:List (List UInt8)},Srt l→∀ a∈l,a∈keyL
 |a::l,h,b,hb=>by
  rcases List.mem_cons.1 hb with rfl|hb
  ·exact h.1
  ·exact h.2.2.mem b hb
theorem Srt.ins{key:List UInt8}(hk:key∈keyL):∀ {l:List (List UInt8)},Srt l→l[leadM key l]?≠some key→Srt (l.take (leadM key l)++[key]++l.drop (leadM key l))
 |[],_,_=>by
  show Srt [key];exact⟨hk,(fun b hb=>by cases hb),trivial⟩
 |a::l,h,hn=>by
  cases hb:bless a key with
  |true =>
   have e:leadM key (a::l)=leadM key l+1:=by rw[leadM,if_pos hb]
   rw[e] at hn ⊢;rw[List.getElem?_cons_succ] at hn;have ih:=h.2.2.ins hk hn;rw[List.take_succ_cons,List.drop_succ_cons,List.cons_append,List.cons_append];refine⟨h.1,fun b hb2 => ?_,ih⟩;simp only[List.mem_append,List.mem_singleton] at hb2
   rcases hb2 with (hb2|rfl)|hb2
   ·exact h.2.1 b (List.mem_of_mem_take hb2)
   ·exact hb
   ·exact h.2.1 b (List.mem_of_mem_drop hb2)
  |false =>
   have e:leadM key (a::l)=0:=by rw[leadM,if_neg (by rw[hb]; decide)]
   rw[e] at hn ⊢;have hne:a≠key:=fun e=>hn (by simp[e])
   have hka:bless key a=true:=by
    rcases qSL a h.1 key hk with e|e|e
    ·exact absurd e hne
    ·rw[hb] at e; cases e
    ·exact e
   refine⟨hk,fun b hb2 => ?_,h⟩
   rcases List.mem_cons.1 hb2 with rfl|hb2
   ·exact hka
   ·exact qSA key hk a h.1 b (h.mem b (by simp[hb2])) hka (h.2.1 b hb2)
structure TabI (n:Nat) (v:VT):Prop where
 kd:v.kind=5
 so:Srt v.keys.list
 ev:evenT n v
theorem TabI.put{n:Nat}{v x:VT}{key:List UInt8}(H:TabI n v)(hk:key∈keyL):TabI (n+1) (putM v key x):=by
 refine⟨?_,?_,qIV n v x key H.ev⟩
 ·unfold putM;split
  ·exact H.kd
  ·exact H.kd
 ·unfold putM;split
  ·exact H.so
  ·rename_i hn;exact H.so.ins hk hn
theorem TabI.all:∀ (g:List VT) (n:Nat) (v:VT) (ks:List Int),TabI n v→TabI (n+g.length) (tabM v ks g)
 |[],_,_,_,H=>H
 |x::g,n,v,ks,H=>by
  rw[tabM,List.length_cons,show n+(g.length+1)=n+1+g.length by omega];exact TabI.all g (n+1) _ _ (H.put (qJ1 _))
theorem qPy:∀ y∈keyL,okT 4 y:=by
 have h:∀ y∈keyL,y.length≤4∧∀ b∈y,inText b.toNat=true:=by decide +kernel
 exact h
theorem qQB:∀ l:List (List UInt8),Srt l→rowG none l=0
 |[],_=>rfl
 |a::l,h=>by
  rw[rowG,qGa];have:∀ (l:List (List UInt8)) (a:List UInt8),(∀ b∈l,bless a b=true)→Srt l→rowK (a::l)=0:=by
   intro l
   induction l with
   |nil=>intro a _ _; rfl
   |cons b l ih =>
    intro a ha hs;rw[rowK,if_pos (ha b (by simp))];exact ih b hs.2.1 hs.2.2
  exact this l a h.2.1 h.2.2
theorem qOA(s:Sl UInt8)(h:s.len≤50):okT 50 (textM s.list):=by
 refine⟨by have:=qLc s.list; unfold Sl.len at h; omega,fun b hb => ?_⟩;unfold textM at hb;exact(List.mem_filter.1 hb).2
structure TabG (P:VT→Prop) (m:Nat) (v:VT):Prop where
 kd:v.kind=5
 cb:v.b=false
 cn:v.n=0
 cs:v.s=[]
 so:Srt v.keys.list
 e:v.keys.list.length=v.l.list.length
 l:v.l.list.length≤m
 x:∀ x∈v.l.list,P x
theorem TabG.put{P:VT→Prop}{m:Nat}{v x:VT}{key:List UInt8}(H:TabG P m v)(hx:P x)(hk:key∈keyL):TabG P (m+1) (putM v key x):=by
 unfold putM;by_cases hn:v.keys.list[leadM key v.keys.list]?=some key
 ·rw[if_pos hn];exact⟨H.kd,H.cb,H.cn,H.cs,H.so,H.e,by have:=H.l; omega,H.x⟩
 ·rw[if_neg hn];have hl:=qDn key v.keys.list;have he:=H.e;have hm:=H.l;refine⟨H.kd,H.cb,H.cn,H.cs,H.so.ins hk hn,?_,?_,fun y hy => ?_⟩
  ·show(v.keys.list.take _++[key]++v.keys.list.drop _).length=(v.l.list.take _++[x]++v.l.list.drop _).length;simp only[List.length_append,List.length_take,List.length_drop,List.length_cons,List.length_nil];omega
  ·show(v.l.list.take _++[x]++v.l.list.drop _).length≤m+1;simp only[List.length_append,List.length_take,List.length_drop,List.length_cons,List.length_nil];omega
  ·have hy':y∈v.l.list.take (leadM key v.keys.list)++[x]++v.l.list.drop (leadM key v.keys.list):=hy;simp only[List.mem_append,List.mem_singleton] at hy'
   rcases hy' with (h|h)|h
   ·exact H.x y (List.mem_of_mem_take h)
   ·rw[h]; exact hx
   ·exact H.x y (List.mem_of_mem_drop h)
theorem TabG.all{P:VT→Prop}:∀ (g:List VT) (m:Nat) (v:VT) (ks:List Int),TabG P m v→(∀ x∈g,P x)→TabG P (m+g.length) (tabM v ks g)
 |[],_,_,_,H,_=>H
 |x::g,m,v,ks,H,hx=>by
  rw[tabM,List.length_cons,show m+(g.length+1)=m+1+g.length by omega];exact TabG.all g (m+1) _ _ (H.put (hx x (by simp)) (qJ1 _)) (fun y hy=>hx y (by simp[hy]))
theorem qR3{n:Int}(h:inI n):okN n:=by
 unfold okN;unfold inI at h;omega
theorem qEb(n:Nat)(k:Int)(b:Bool)(m:Int)(s:List UInt8)(h0:0≤k)(h3:k≤3)(hb:k≠1→b=false)(hm:k≠2→m=0)(hn:okN m)(hs:k≠3→s=[])(ht:okT 50 s):Gd1 (Gd n) (.mk k b m s .nil .nil) :=
 ⟨h0,(by show k≤5; omega),hn,ht,Nat.zero_le _,(fun _=>rfl),rfl,(fun y hy=>by cases hy),(fun y hy=>by cases hy),hb,hm,hs,(fun _=>rfl),(fun _ _=>rfl)⟩
theorem qGi(P:VT→Prop)(d:Int):∀ l:List RT,(∀ r∈l,P (goodR r d))→∀ x∈goodL l d,P x
 |[],_,x,hx=>by rw[goodL] at hx; cases hx
 |r::l,h,x,hx=>by
  rw[goodL] at hx
  rcases List.mem_cons.1 hx with rfl|hx
  ·exact h r (by simp)
  ·exact qGi P d l (fun y hy=>h y (by simp[hy])) x hx
theorem qIj:okN 0:=⟨by decide,by decide⟩
theorem qHu(m:Nat):okT m []:=⟨Nat.zero_le _,fun b hb=>by cases hb⟩
theorem qJX:∀ (n:Nat) (r:RT),n≤100→smR r→r.inR→Gd (n+1) (goodR r ((n+1:Nat):Int))
 |n,r,hn,sm,ir=>by
  obtain⟨t1,t2,t3,t4⟩:=(qFd r).1 sm;obtain⟨i1,i2,_,_,_,_,i3⟩:=(RT.inR_eq r).1 ir;show Gd1 (Gd n) _;rw[qE1,qAH _ (by omega) (by omega)];have hk:0≤kindM r.kind ((n+1:Nat):Int)∧kindM r.kind ((n+1:Nat):Int)≤5∧(4≤kindM r.kind ((n+1:Nat):Int)→1≤n):=by
   have:=qB2 r.kind 6 (by decide);unfold kindM;by_cases h:((n+1:Nat):Int)≤1∧4≤withinM r.kind 6
   ·rw[if_pos h]; omega
   ·rw[if_neg h]; omega
  obtain⟨h0,h5,h4⟩:=hk;generalize hkk:kindM r.kind ((n+1:Nat):Int)=kk at *;have hg:4≤kk→∀ x∈goodL r.kids.list (((n+1:Nat):Int) - 1),Gd n x:=by
   intro h;have hn1:=h4 h;refine qGi _ _ _ fun x hx => ?_
   cases n with
   |zero=>omega
   |succ n =>
    have e:(((n+1+1:Nat):Int) - 1)=((n+1:Nat):Int):=by omega
    rw[e];exact qJX n x (by omega) (t4 x hx) (i3 x hx)
  have gl:=qGt (((n+1:Nat):Int) - 1) r.kids.list;have kl:r.kids.list.length≤12:=t1;generalize goodL r.kids.list (((n+1:Nat):Int) - 1)=g at *;unfold goodK;by_cases k1:kk=1
  ·rw[if_pos k1]; exact qEb n 1 _ 0 [] (by decide) (by decide) (fun h=>absurd rfl h) (fun _=>rfl) qIj (fun _=>rfl) (qHu _)
  by_cases k2:kk=2
  ·rw[if_neg k1,if_pos k2]; exact qEb n 2 _ _ [] (by decide) (by decide) (fun _=>rfl) (fun h=>absurd rfl h) (qR3 i2) (fun _=>rfl) (qHu _)
  by_cases k3:kk=3
  ·rw[if_neg k1,if_neg k2,if_pos k3]; exact qEb n 3 _ 0 _ (by decide) (by decide) (fun _=>rfl) (fun _=>rfl) qIj (fun h=>absurd rfl h) (qOA _ t2)
  by_cases k4:kk=4
  ·rw[if_neg k1,if_neg k2,if_neg k3,if_pos k4];have hx:=hg (by omega);have e:(VT.mk 4 false 0 [] .nil (grown g)).l.list=g:=qCb g;exact⟨(by decide:(0:Int)≤4),(by decide:(4:Int)≤5),qIj,qHu _,(by rw[e]; omega),(fun h=>absurd h (by decide:¬ (4:Int)=5)),rfl,(fun y hy=>by cases hy),(by rw[e]; exact hx),(fun _=>rfl),(fun _=>rfl),(fun _=>rfl),(fun _=>rfl),(fun h=>absurd rfl h)⟩
  by_cases k5:kk=5
  ·rw[if_neg k1,if_neg k2,if_neg k3,if_neg k4,if_pos k5];have H:=TabG.all g 0 (v0 5) r.keys.list ⟨rfl,rfl,rfl,rfl,trivial,rfl,Nat.le_refl _,(fun x hx=>by cases hx)⟩ (hg (by omega));generalize tabM (v0 5) r.keys.list g=v at H;have hl:=H.l;have kd:=H.kd;exact⟨by omega,by omega,(by rw[H.cn]; exact qIj),(by rw[H.cs]; exact qHu _),by omega,(fun _=>H.e),qQB _ H.so,(fun y hy=>qPy y (H.so.mem y hy)),H.x,(fun _=>H.cb),(fun _=>H.cn),(fun _=>H.cs),(fun h=>absurd kd h),(fun _ h=>absurd kd h)⟩
  ·rw[if_neg k1,if_neg k2,if_neg k3,if_neg k4,if_neg k5];exact qEb n kk _ 0 [] (by omega) (by omega) (fun _=>rfl) (fun _=>rfl) qIj (fun _=>rfl) (qHu _)
theorem qEz(a b:List VT):cntL (a++b)=cntL a+cntL b:=by
 induction a with
 |nil=>simp[cntL]
 |cons x a ih=>rw[List.cons_append,cntL,cntL,ih]; omega
theorem qQj(v x:VT)(key:List UInt8):cntV (putM v key x)≤cntV v+cntV x:=by
 unfold putM;by_cases hn:v.keys.list[leadM key v.keys.list]?=some key
 ·rw[if_pos hn]; omega
 ·rw[if_neg hn,qBI,qBI v];show 1+cntL (v.l.list.take (leadM key v.keys.list)++[x]++v.l.list.drop (leadM key v.keys.list))≤_;have:=qEz (v.l.list.take (leadM key v.keys.list)) (v.l.list.drop (leadM key v.keys.list));rw[List.take_append_drop] at this;rw[qEz,qEz,cntL,cntL];omega
theorem qJ8:∀ (g:List VT) (v:VT) (ks:List Int),cntV (tabM v ks g)≤cntV v+cntL g
 |[],v,ks=>by rw[tabM]; omega
 |x::g,v,ks=>by
  rw[tabM,cntL];have:=qJ8 g (putM v (keyM (ks.headD 0)) x) ks.tail;have:=qQj v x (keyM (ks.headD 0));omega
theorem qLj(k n:Int)(s:Sl UInt8)(ks:List Int)(g:List VT):cntV (goodK k n s ks g)≤1+cntL g:=by
 have leaf:∀ (k:Int) (b:Bool) (n:Int) (s:List UInt8),cntV (.mk k b n s .nil .nil)=1:=fun k b n s=>by rw[qBI]; rfl
 unfold goodK;by_cases k1:k=1
 ·rw[if_pos k1,leaf]; omega
 by_cases k2:k=2
 ·rw[if_neg k1,if_pos k2,leaf]; omega
 by_cases k3:k=3
 ·rw[if_neg k1,if_neg k2,if_pos k3,leaf]; omega
 by_cases k4:k=4
 ·rw[if_neg k1,if_neg k2,if_neg k3,if_pos k4,qBI];have e:(VT.mk 4 false 0 [] .nil (grown g)).l.list=g:=qCb g;rw[e]; omega
 by_cases k5:k=5
 ·rw[if_neg k1,if_neg k2,if_neg k3,if_neg k4,if_pos k5];have:=qJ8 g (v0 5) ks;have e:cntV (v0 5)=1:=leaf _ _ _ _;omega
 ·rw[if_neg k1,if_neg k2,if_neg k3,if_neg k4,if_neg k5];have e:cntV (v0 k)=1:=leaf _ _ _ _;omega
theorem qKG(l:List RT)(m:Int)(h:0<fewL l m):0<m:=by
 cases l with
 |nil=>exact h
 |cons r l =>
  unfold fewL at h;by_cases hm:0<m
  ·exact hm
  ·rw[if_neg hm] at h; exact h
theorem qKI:∀ (k:Nat) (r:RT),SizeOf.sizeOf r<k→∀ m d:Int,m≤1000→0<fewR r m→(cntV (goodR r d):Int)+fewR r m≤m
 |0,_,h,_,_,_,_=>by omega
 |k+1,r,hs,m,d,hm,hf=>by
  rw[qGU] at hf ⊢;cases hb:bigR r m
  ·rw[hb] at hf;simp only[Bool.false_eq_true,if_false] at hf ⊢;have h0:0<m:=by
    simp only[bigR,Bool.or_eq_false_iff,decide_eq_false_iff_not,Bool.not_eq_false',decide_eq_true_eq] at hb;exact hb.1.1.1
   rw[qAH (m - 1) (by omega) (by omega)] at hf ⊢;have row:∀ (l:List RT),(∀ x∈l,SizeOf.sizeOf x<k)→∀ m d:Int,m≤1000→0<fewL l m→(cntL (goodL l d):Int)+fewL l m≤m:=by
    intro l
    induction l with
    |nil=>intro _ m d _ _; rw[goodL,cntL,fewL]; omega
    |cons x l ih =>
     intro hx m d h1 h2;have h3:=qKG _ _ h2;rw[goodL,cntL];unfold fewL at h2 ⊢;rw[if_pos h3] at h2 ⊢;have h4:=qKG _ _ h2;have h5:=qKI k x (hx x (by simp)) m d h1 h4;have h6:=ih (fun y hy=>hx y (by simp[hy])) (fewR x m) d (by omega) h2;omega
   have h1:=row r.kids.list (fun x hx=>by have:=RT.mem_size hx; omega) (m - 1) (IntKind.i64.wrap (d - 1)) (by omega) hf;rw[qE1];have:=qLj (kindM r.kind d) r.n r.s r.keys.list (goodL r.kids.list (IntKind.i64.wrap (d - 1)));omega
  ·rw[hb] at hf;simp only[if_true] at hf;omega
theorem qIY(r:RT)(m:Int)(d:Nat)(hm:m≤1000)(hd:d≤100)(ir:r.inR)(h:fewR r m≠0):Gd (d+1) (goodR r ((d+1:Nat):Int))∧(cntV (goodR r ((d+1:Nat):Int)):Int)≤m:=by
 have sm:=qEJ hm h;have h0:=(qMO _ r (Nat.lt_succ_self _) m hm).1;have hc:=qKI _ r (Nat.lt_succ_self _) m ((d+1:Nat):Int) hm (by omega);exact⟨qJX d r hd sm ir,by omega⟩
section
variable (ns:Sl Int) (t:List UInt8) (ht:t.length≤100000) (h:Heap)
include ht
end
theorem qOP(t R:List UInt8)(v:List PVal)(hv:v.length=6)(ht:t.length≤20000)(hR:trimB R=[])(H26:Om 26 [P0,kI 1] [rO t 0]=some (kA v,[rO R 0]))(H24:Om 24 [kA v] []=some (kI 0,[])) :
  Om 13 [kS t] []=some (.tup [.agg (pcells v),.c (.p (.int .i64 0))],[]):=by
 refine(qAB rfl).trans ?_;show lim tab.get S 13 0 0 [kS t] h0=_;have l:¬ (20000:Int)<((t.length:Nat):Int):=by omega
 have c26:∀ {β:Type}{k:TVal→Heap→Option β}{h:Heap}{d:Nat}(r:Ref),h.get r=some (rC t)→vcall Om (.v (.c (.func 26 []))) [.v (.c (.ptr r 0)),kI 1] h d k=k (kA v) (h.put r (rC R)):=fun{β k h d} r hg =>
  qAq 26 r 0 [] [kI 1] _ _ _ rfl rfl hg (qAJ _ _) (qAJ _ _) (by simp only[exP]) H26
 have c27:∀ {β:Type}{k:TVal→Heap→Option β}{h:Heap}{d:Nat}(r:Ref),h.get r=some (rC R)→vcall Om (.v (.c (.func 27 []))) [.v (.c (.ptr r 0))] h d k=k (.tup []) (h.put r (rC [])):=fun{β k h d} r hg=>(qBY r R 0 hg).trans (by rw[hR]; rfl)
 have c24:CAL 24 [kA v] (kI 0):=fun{β k h d}=>qAC 24 _ _ (by simp only[exP]) H24 rfl
 have pa:∀ Z:List Cell,Z.length=6→put1 Z 0 (pcells v)=pcells v:=fun Z hz=>qAh _ _ (by rw[qAM,hv,hz])
 have pl:(pcells v).length=6:=by rw[qAM,hv]
 have pt:(pcells v).take 6=pcells v:=List.take_of_length_le (by omega);rw[w13_0,b13_0];simp (maxSteps:=9999999) +contextual only[exa,rA,rB,rD,rE,rF,rG,rH,rI,rJ,exW,exY,qBz,qAe,qAd,qAW,l,c26,c27,c24,pa,pl,pt,if_false,oneOf,w13_1,b13_1,w13_2,b13_2]
theorem qLG(v:VT)(G:Gd 12 v)(hc:cntV v≤100)(ns:List Int)(a R:List UInt8)(ha:Bl a)(hR:Bl R)(h1:a.length≤10)(h2:R.length≤10) :
  Om 13 [kS (a++decoM (txV v) false ns++R)] []=some (.tup [.agg (pcells (norm v).row),.c (.p (.int .i64 0))],[]):=by
 obtain⟨R',hR',hrd,hl⟩:=qMA v G ns a R ha hR (by omega);refine qOP _ R' _ (VT.row_len _) (by simp only[List.length_append]; omega) ?_ hrd ?_
 ·have:=qAo R' [] hR';rw[List.append_nil] at this;exact this
 ·rw[qQH _ (qCB 12 v G).2,qIL 12 v G 1 0 (by decide) (by decide) (by decide) (by omega)]
theorem qDA(v:VT)(G:Gd 12 v)(hc:cntV v≤100):Om 13 [kS (txV v)] []=some (.tup [.agg (pcells (norm v).row),.c (.p (.int .i64 0))],[]):=by
 have:=qLG v G hc [] [] [] Bl.nil Bl.nil (by simp) (by simp);rw[qDh _ _ _ (Nat.le_refl _),List.append_nil] at this;exact this
theorem qTC(a b:Sl (List UInt8))(hl:a.len≤1000000):Om 35 [.v (.c (.p (slP 1 sRow a))),.v (.c (.p (slP 1 sRow b)))] []=some (kB (decide (a.list=b.list)),[]):=by
 refine(qAB rfl).trans ?_;show lim tab.get S 35 0 0 [.v (.c (.p (slP 1 sRow a))),.v (.c (.p (slP 1 sRow b)))] h0=_;rw[w35_0,b35_0];by_cases hn:(a.len:Int)=(b.len:Int)
 ·have hn':a.list.length=b.list.length:=by unfold Sl.len at hn; omega
  have loop:∀ i:Nat,lim tab.get S 35 0 1 [.v (.c (.p (slP 1 sRow a))),.v (.c (.p (slP 1 sRow b))),kI (a.len:Int),kI (i:Int)] h0=some (kB (decide (a.list.drop i=b.list.drop i)),[]):=by
   refine qAk a.len (fun i hi => ?_) (fun i hi ih => ?_) <;> rw[w35_1,b35_1]
   ·have h1:¬ (i:Int)<(a.len:Int):=by omega
    rw[qAc (l:=a.list) (i:=i) hi,qAc (l:=b.list) (i:=i) (by unfold Sl.len at hi; omega)];simp (maxSteps:=9999999) +contextual only[exa,rA,rB,rD,rE,rF,rG,rH,rI,rJ,exW,exY,h1,oneOf,decide_true]
   ·have h1:(i:Int)<(a.len:Int):=by omega
    obtain⟨x,hx,e1,_⟩:=qAT (l:=a.list) (i:=i) hi;obtain⟨y,hy,e2,_⟩:=qAT (l:=b.list) (i:=i) (by unfold Sl.len at hi; omega);rw[e1,e2];by_cases c:x=y
    ·subst c;simp (maxSteps:=9999999) +contextual only[exa,rA,rB,rD,rE,rF,rG,rH,rI,rJ,exW,exY,h1,hx,hy,qAl i (by omega),ih,List.cons.injEq,true_and]
    ·simp (maxSteps:=9999999) +contextual only[exa,rA,rB,rD,rE,rF,rG,rH,rI,rJ,exW,exY,h1,hx,hy,c,List.cons.injEq,false_and,decide_false,oneOf]
  have:=loop 0;rw[List.drop_zero,List.drop_zero] at this;simp (maxSteps:=9999999) +contextual only[exa,rA,rB,rD,rE,rF,rG,rH,rI,rJ,exW,exY,hn];rw[← hn];exact this
 ·have hn':¬ a.list=b.list:=fun e=>hn (by unfold Sl.len; rw[e])
  simp (maxSteps:=9999999) +contextual only[exa,rA,rB,rD,rE,rF,rG,rH,rI,rJ,exW,exY,hn,hn',decide_false,oneOf]
abbrev F17:TVal := .v (.c (.func 17 []))
def PSame(x:VT):Prop:=∀ y,Om 17 [kA x.row,kA y.row] []=some (kB (sameV x y),[])
theorem qSq(a b:Sl VT)(hl:a.len≤1000000)(ok:∀ x∈a.list,PSame x):Om 36 [vsP a,vsP b,F17] []=some (kB (sameL a.list b.list),[]):=by
 refine(qAB rfl).trans ?_;show lim tab.get S 36 0 0 [vsP a,vsP b,F17] h0=_;rw[w36_0,b36_0];by_cases hn:(a.len:Int)=(b.len:Int)
 ·have hn':a.list.length=b.list.length:=by unfold Sl.len at hn; omega
  have loop:∀ (i:Nat) (h:Heap),lim tab.get S 36 0 1 [vsP b,F17,vsP a,kI (a.len:Int),kI (i:Int)] h=some (kB (sameL (a.list.drop i) (b.list.drop i)),[]):=by
   refine qAk a.len (fun i hi h => ?_) (fun i hi ih h => ?_) <;> rw[w36_1,b36_1]
   ·have h1:¬ (i:Int)<(a.len:Int):=by omega
    rw[qAc (l:=a.list) (i:=i) hi,qAc (l:=b.list) (i:=i) (by unfold Sl.len at hi; omega)];simp (maxSteps:=9999999) +contextual only[exa,rA,rB,rD,rE,rF,rG,rH,rI,rJ,exW,exY,h1,oneOf,sameL]
   ·have h1:(i:Int)<(a.len:Int):=by omega
    obtain⟨x,hx,e1,mx⟩:=qAT (l:=a.list) (i:=i) hi;obtain⟨y,hy,e2,_⟩:=qAT (l:=b.list) (i:=i) (by unfold Sl.len at hi; omega);have cc:∀ {β:Type}{k:TVal→Heap→Option β}{h:Heap}{d:Nat},vcall Om F17 [kA x.row,kA y.row] h d k=k (kB (sameV x y)) h:=qAC 17 _ _ (by simp only[exP]) (ok x mx y) rfl;rw[e1,e2,sameL];cases hs:sameV x y
    ·simp (maxSteps:=9999999) +contextual only[exa,rA,rB,rD,rE,rF,rG,rH,rI,rJ,exW,exY,h1,hx,hy,z6put,cc,hs,oneOf,Bool.false_and]
    ·simp (maxSteps:=9999999) +contextual only[exa,rA,rB,rD,rE,rF,rG,rH,rI,rJ,exW,exY,h1,hx,hy,z6put,cc,hs,qAl i (by omega),ih,Bool.true_and]
  have:=fun h=>loop 0 h
  simp only[List.drop_zero] at this;simp (maxSteps:=9999999) +contextual only[exa,rA,rB,rD,rE,rF,rG,rH,rI,rJ,exW,exY,hn];rw[← hn];exact this _
 ·have hs:sameL a.list b.list=false:=by
   have key:∀ (l m:List VT),sameL l m=true→l.length=m.length:=by
    intro l
    induction l with
    |nil=>intro m e; cases m with|nil=>rfl|cons _ _=>rw[qD6] at e; cases e
    |cons x l ih=>intro m e; cases m with
     |nil=>simp[sameL] at e
     |cons y m =>
      rw[sameL,Bool.and_eq_true] at e;rw[List.length_cons,List.length_cons,ih m e.2]
   refine Bool.eq_false_iff.2 fun e=>hn ?_
   have:=key _ _ e;unfold Sl.len;omega
  simp (maxSteps:=9999999) +contextual only[exa,rA,rB,rD,rE,rF,rG,rH,rI,rJ,exW,exY,hn,hs,oneOf]
theorem qLJ:∀ (m:Nat) (v:VT),SizeOf.sizeOf v<m→wtA v→PSame v:=by
 intro m
 induction m with
 |zero=>intro v h; omega
 |succ m ihm =>
  intro v hs wt w;obtain⟨⟨w1,w2⟩,w3⟩:=qLa v wt;have c35:=fun{β:Type} {k:TVal→Heap→Option β} {h:Heap} {d:Nat}=>qAC (O:=Om) (k:=k) (h:=h) (d:=d) 35 [.v (.c (.p (slP 1 sRow v.keys))),.v (.c (.p (slP 1 sRow w.keys)))] _ (by simp only[exP]) (qTC v.keys w.keys w1) rfl
  have c36:=fun{β:Type} {k:TVal→Heap→Option β} {h:Heap} {d:Nat}=>qGY (O:=Om) (k:=k) (h:=h) (d:=d) 36 [vsP v.l,vsP w.l,F17] _ rfl rfl (fun _=>rfl) (fun _=>rfl) (qSq v.l w.l w2 (fun x hx=>ihm x (by have:=VT.mem_size hx; omega) (w3 x hx)))
  refine(qAB rfl).trans ?_;show lim tab.get S 17 0 0 [kA v.row,kA w.row] h0=_;rw[w17_0,b17_0,qCC];by_cases e1:v.kind=w.kind
  ·by_cases e2:v.b=w.b
   ·by_cases e3:v.n=w.n
    ·by_cases e4:v.s=w.s
     ·by_cases e5:v.keys.list=w.keys.list
      ·simp (maxSteps:=9999999) +contextual only[exa,rA,rB,rD,rE,rF,rG,rH,rI,rJ,exW,exY,e1,e2,e3,e4,e5,c35,c36,decide_true,Bool.and_true,Bool.true_and,beq_self_eq_true,oneOf]
      ·simp (maxSteps:=9999999) +contextual only[exa,rA,rB,rD,rE,rF,rG,rH,rI,rJ,exW,exY,e1,e2,e3,e4,e5,c35,c36,decide_true,decide_false,Bool.and_true,Bool.true_and,Bool.and_false,Bool.false_and,beq_self_eq_true,oneOf]
     ·simp (maxSteps:=9999999) +contextual only[exa,rA,rB,rD,rE,rF,rG,rH,rI,rJ,exW,exY,e1,e2,e3,e4,decide_true,decide_false,Bool.and_true,Bool.true_and,Bool.and_false,Bool.false_and,beq_self_eq_true,oneOf]
    ·simp (maxSteps:=9999999) +contextual only[exa,rA,rB,rD,rE,rF,rG,rH,rI,rJ,exW,exY,e1,e2,e3,decide_true,decide_false,Bool.and_true,Bool.true_and,Bool.and_false,Bool.false_and,beq_self_eq_true,oneOf]
   ·have e2':(v.b==w.b)=false:=by simpa using e2
    simp (maxSteps:=9999999) +contextual only[exa,rA,rB,rD,rE,rF,rG,rH,rI,rJ,exW,exY,e1,e2',decide_true,decide_false,Bool.and_true,Bool.true_and,Bool.and_false,Bool.false_and,oneOf]
  ·simp (maxSteps:=9999999) +contextual only[exa,rA,rB,rD,rE,rF,rG,rH,rI,rJ,exW,exY,e1,decide_true,decide_false,Bool.and_true,Bool.true_and,Bool.and_false,Bool.false_and,oneOf]
theorem qLU{β:Type}{k:TVal→Heap→Option β}{h:Heap}{d:Nat}:vcall Om (.v (.c (.func 11 []))) [] h d k=k (kB true) h:=qAC 11 _ _ rfl qQ1 rfl
theorem bk14{β:Type}{k:TVal→Heap→Option β}{h:Heap}{d:Nat}(v:VT)(G:Gd 12 v)(hc:cntV v≤100):vcall Om (.v (.c (.func 14 []))) [kA v.row] h d k=k (kS (txV v)) h:=qAC 14 _ _ (by simp only[exP]) (qNG v G (by omega)) rfl
theorem bk13{β:Type}{k:TVal→Heap→Option β}{h:Heap}{d:Nat}(t:List UInt8)(v:VT)(H:Om 13 [kS t] []=some (.tup [.agg (pcells v.row),.c (.p (.int .i64 0))],[])):vcall Om (.v (.c (.func 13 []))) [kS t] h d k=k (.tup [.agg (pcells v.row),.c (.p (.int .i64 0))]) h:=qAC 13 _ _ rfl H (by simp only[exP])
open Go Go.AI
def decM:Nat→Nat→List UInt8
 |0,_=>[]
 |f+1,n=>if 10≤n then decM f (n / 10)++[UInt8.ofNat (48+n % 10)] else [UInt8.ofNat (48+n)]
theorem qE5:∀ (f n:Nat),n<10 ^ f→(decM f n).length≤f
 |0,n,_=>Nat.zero_le _
 |f+1,n,h=>by
  unfold decM;split
  ·have:=qE5 f (n / 10) (by rw[Nat.pow_succ] at h; omega);simp; omega
  ·simp
theorem qSj{β:Type}{O:Oracle}{h:Heap}{d:Nat}{k:TVal→Heap→Option β}(x:Int):vop O (.bslice 1 1 [.p (.int .u8 0)] [(0,.k (kN .u8 x))] false) h d k=k (kSl 1 true [[.int .u8 x]]) h:=qAY _ _ rfl
theorem qNe(m:Nat)(hm:m<10):Om 96 [kI (m:Int)] []=some (kS [UInt8.ofNat (48+m)],[]):=by
 refine(qAB rfl).trans ?_;show lim tab.get S 96 0 0 [kI (m:Int)] h0=_;have a1:¬ (m:Int)<0:=by omega
 have a2:(m:Int)<10:=by omega
 have w1:IntKind.i64.wrap (48+(m:Int))=48+(m:Int):=qAH _ (by omega) (by omega);have w2:IntKind.u8.wrap (48+(m:Int))=48+(m:Int):=qAO .u8 _ (by show(0:Int)≤_; omega) (by show _≤(255:Int); omega);have T:plan .nil (.toStr (.k (kSl 1 true [[.int .u8 (48+(m:Int))]])))=some (.pure (kS [UInt8.ofNat (48+m)])):=by
  have:∀ m:Nat,m<10→plan .nil (.toStr (.k (kSl 1 true [[.int .u8 (48+(m:Int))]])))=some (.pure (kS [UInt8.ofNat (48+m)])):=by
   intro m hm
   match m,hm with
   |0,_=>rfl
   |1,_=>rfl
   |2,_=>rfl
   |3,_=>rfl
   |4,_=>rfl
   |5,_=>rfl
   |6,_=>rfl
   |7,_=>rfl
   |8,_=>rfl
   |9,_=>rfl
  exact this m hm
 rw[w96_0,b96_0];simp (maxSteps:=9999999) +contextual only[exa,rA,rB,rD,rE,rF,rG,rH,rI,rJ,a1,a2,w1,w2,qSj,qAY _ _ T,oneOf]
theorem decN:∀ (f n:Nat),n<10 ^ (f+1)→(n:Int)≤9223372036854775807→f≤30→Om 96 [kI (n:Int)] []=some (kS (decM (f+1) n),[]):=by
 intro f
 induction f with
 |zero =>
  intro n h _ _;unfold decM;rw[if_neg (by omega)];exact qNe n (by omega)
 |succ f ih =>
  intro n h hn hf;unfold decM;by_cases h10:10≤n
  ·rw[if_pos h10];have i1:=ih (n / 10) (by rw[Nat.pow_succ] at h; omega) (by omega) (by omega);have i2:=qNe (n % 10) (by omega);have c1:CAL 96 [kI ((n / 10:Nat):Int)] (kS (decM (f+1) (n / 10))):=qAC 96 _ _ rfl i1 rfl;have c2:CAL 96 [kI ((n % 10:Nat):Int)] (kS [UInt8.ofNat (48+n % 10)]):=qAC 96 _ _ rfl i2 rfl;have q1:IntKind.i64.wrap ((n:Int).tdiv 10)=((n / 10:Nat):Int):=by
    rw[Int.tdiv_eq_ediv_of_nonneg (by omega),qAH _ (by omega) (by omega)]; omega
   have q2:(n:Int).tmod 10=((n % 10:Nat):Int):=by
    rw[Int.tmod_eq_emod_of_nonneg (by omega)]; omega
   have a1:¬ (n:Int)<0:=by omega
   have a2:¬ (n:Int)<10:=by omega
   have ll:=qE5 (f+1) (n / 10) (by rw[Nat.pow_succ] at h; omega);have l1:(decM (f+1) (n / 10)).length+1≤4611686018427387904:=by omega
   refine(qAB rfl).trans ?_;show lim tab.get S 96 0 0 [kI (n:Int)] h0=_;rw[w96_0,b96_0];simp (maxSteps:=9999999) +contextual only[exa,rA,rB,rD,rE,rF,rG,rH,rI,rJ,a1,a2,qBZ 0 .i64 (n:Int) 10 (by decide),qA6 0 .i64 (n:Int) 10 (by decide),q1,q2,c1,c2,l1,oneOf]
  ·rw[if_neg h10];exact qNe n (by omega)
theorem qC7:∀ (f n:Nat),n<10 ^ (f+1)→Lib.decDigits n=decM (f+1) n
 |0,n,h=>by
  have:n<10:=by omega
  rw[Lib.decDigits,dif_pos this,decM,if_neg (by omega)]
 |f+1,n,h=>by
  rw[Lib.decDigits,decM];by_cases h10:10≤n
  ·rw[dif_neg (by omega),if_pos h10,qC7 f (n / 10) (by rw[Nat.pow_succ] at h; omega)]
  ·rw[dif_pos (by omega),if_neg h10]
theorem qJd(n:Nat)(hn:(n:Int)≤9223372036854775807):Om 96 [kI (n:Int)] []=some (kS (Lib.decDigits n),[]):=by
 have h:n<10 ^ (19+1):=by
  have:(10:Nat) ^ (19+1)=100000000000000000000:=by decide
  omega
 rw[qC7 19 n h];exact decN 19 n h hn (by decide)
theorem qDs(n:Nat)(hn:(n:Int)≤9223372036854775808):(Lib.decDigits n).length≤20:=by
 have h:n<10 ^ (19+1):=by
  have:(10:Nat) ^ (19+1)=100000000000000000000:=by decide
  omega
 rw[qC7 19 n h];exact qE5 _ _ h
theorem qSD(n:Int)(h1 : -9223372036854775808≤n)(h2:n≤9223372036854775807):Om 96 [kI n] []=some (kS (Lib.itoa n),[]):=by
 unfold Lib.itoa;by_cases h0:n<0
 ·rw[if_pos h0];refine(qAB rfl).trans ?_;show lim tab.get S 96 0 0 [kI n] Go.AI.h0=_;rw[w96_0,b96_0];by_cases hm:n = -9223372036854775808
  ·subst hm;have e:Lib.decDigits (-9223372036854775808:Int).natAbs=[57,50,50,51,51,55,50,48,51,54,56,53,52,55,55,53,56,48,56]:=by
    rw[qC7 19 _ (by decide)]; decide +kernel
   rw[e];simp (maxSteps:=9999999) +contextual only[exa,rA,rB,rD,rE,rF,rG,rH,rI,rJ,h0,oneOf]
  ·have w1:IntKind.i64.wrap (0 - n)=((n.natAbs:Nat):Int):=by rw[qAH _ (by omega) (by omega)]; omega
   have c1:CAL 96 [kI ((n.natAbs:Nat):Int)] (kS (Lib.decDigits n.natAbs)):=qAC 96 _ _ rfl (qJd n.natAbs (by omega)) rfl;have ll:=qDs n.natAbs (by omega);have l1:1+(Lib.decDigits n.natAbs).length≤4611686018427387904:=by omega
   have l2:0+1+(Lib.decDigits n.natAbs).length≤4611686018427387904:=by omega
   simp (maxSteps:=9999999) +contextual only[exa,rA,rB,rD,rE,rF,rG,rH,rI,rJ,h0,hm,w1,c1,l1,l2,oneOf];rfl
 ·rw[if_neg h0];have e:n=((n.toNat:Nat):Int):=by omega
  have:=qJd n.toNat (by omega);rw[← e] at this;exact this
theorem qHY:((1:Nat):Int)=1:=rfl
def opRow(n:Int):List PVal:=[.int .i64 3,.str [],.nilslice,.str [],.int .i64 n,.bool false,.nilslice]
theorem qOc(n:Int)(h1 : -9223372036854775808≤n)(h2:n≤9223372036854775807):(Lib.itoa n).length≤21:=by
 unfold Lib.itoa;split
 ·have:=qDs n.natAbs (by omega); simp; omega
 ·have:=qDs n.toNat (by omega); omega
theorem qSk(n:Int)(h1 : -9223372036854775808≤n)(h2:n≤9223372036854775807):Om 64 [kA (opRow n)] []=some (kS (Lib.itoa n),[]):=by
 have c1:CAL 96 [kI n] (kS (Lib.itoa n)):=qAC 96 _ _ rfl (qSD n h1 h2) rfl;refine(qAB rfl).trans ?_;show lim tab.get S 64 0 0 [kA (opRow n)] h0=_;rw[w64_0,b64_0];have p0:(opRow n)[0]?=some (.int .i64 3):=rfl;have p4:(opRow n)[4]?=some (.int .i64 n):=rfl;simp (maxSteps:=9999999) +contextual only[exa,rA,rB,rD,rE,rF,rG,rH,rI,rJ,p0,p4,c1,oneOf]
abbrev pipeP(n:Int):TVal:=kSl 1 true [[.slice 7 true [opRow n]]]
theorem qRz(n:Int)(h1 : -9223372036854775808≤n)(h2:n≤9223372036854775807):Om 39 [pipeP n] []=some (kS (Lib.itoa n),[]):=by
 have c1:CAL 64 [kA (opRow n)] (kS (Lib.itoa n)):=qAC 64 _ _ (by simp only[exP]) (qSk n h1 h2) rfl;have ll:=qOc n h1 h2;have l1:(Lib.itoa n).length≤4611686018427387904:=by omega
 have l0:0+(Lib.itoa n).length≤4611686018427387904:=by omega
 have r0:∀ a:List PVal,[a][(0:Int).toNat]?=some a:=fun _=>rfl
 have rl:∀ {β:Type}{h:Heap}{k:TVal→Heap→Option β},vload true 7 (.v (.c (.p (.pptr (opRow n) 0)))) h k=k (kA (opRow n)) h:=qBe 7 _ rfl;have w1:IntKind.i64.wrap (0+1)=1:=rfl;have ff:∀ h:Heap,vfin true 0 [.c (.p (.str (Lib.itoa n)))] h=some (kS (Lib.itoa n),[]):=fun h=>qAV _ _ rfl
 refine(qAB rfl).trans ?_;show lim tab.get S 39 0 0 [pipeP n] h0=_;rw[w39_0,b39_0,w39_1,b39_1];simp (maxSteps:=9999999) +contextual only[exa,rA,rB,rD,rE,rF,rG,rH,rI,rJ,qHY];rw[w39_2,b39_2,w39_3,b39_3];simp (maxSteps:=9999999) +contextual only[exa,rA,rB,rD,rE,rF,rG,rH,rI,rJ,r0,qHY];rw[w39_4,b39_4];simp (maxSteps:=9999999) +contextual only[exa,rA,rB,rD,rE,rF,rG,rH,rI,rJ,r0,rl,c1,l0,l1,List.nil_append,w1];rw[w39_3,b39_3];simp (maxSteps:=9999999) +contextual only[exa,rA,rB,rD,rE,rF,rG,rH,rI,rJ,r0,qHY];rw[w39_5,b39_5];simp (maxSteps:=9999999) +contextual only[exa,rA,rB,rD,rE,rF,rG,rH,rI,rJ,w1];rw[w39_1,b39_1];simp (maxSteps:=9999999) +contextual only[exa,rA,rB,rD,rE,rF,rG,rH,rI,rJ,qHY,oneOf]
def trueS:List UInt8:=[116,114,117,101]
def falseS:List UInt8:=[102,97,108,115,101]
theorem qL5(v:VT)(hk:v.kind=1):Om 21 [kA v.row] []=some (kS (if v.b=true then trueS else falseS),[]):=by
 refine(qAB rfl).trans ?_;show lim tab.get S 21 0 0 [kA v.row] h0=_;rw[w21_0,b21_0];cases hb:v.b
 ·simp (maxSteps:=9999999) +contextual only[exa,rA,rB,rD,rE,rF,rG,rH,rI,rJ,hk,hb,oneOf];rfl
 ·simp (maxSteps:=9999999) +contextual only[exa,rA,rB,rD,rE,rF,rG,rH,rI,rJ,hk,hb,oneOf];rfl
theorem qN2(v:VT)(hk:v.kind=2)(h1 : -9223372036854775808≤v.n)(h2:v.n≤9223372036854775807):Om 21 [kA v.row] []=some (kS (Lib.itoa v.n),[]):=by
 have c1:CAL 39 [pipeP v.n] (kS (Lib.itoa v.n)):=qAC 39 _ _ rfl (qRz v.n h1 h2) rfl;have b7:∀ {β:Type}{O:Oracle}{h:Heap}{d:Nat}{k:TVal→Heap→Option β},vop O (.bslice 7 1 [.p (.int .i64 0),.p (.str []),.p .nilslice,.p (.str []),.p (.int .i64 0),.p (.bool false),.p .nilslice] [(0,.k (.v (.agg [.p (.int .i64 3),.p (.str []),.p .nilslice,.p (.str []),.p (.int .i64 v.n),.p (.bool false),.p .nilslice])))] false) h d k=k (kSl 7 true [opRow v.n]) h:=qAY _ _ rfl;have b1:∀ {β:Type}{O:Oracle}{h:Heap}{d:Nat}{k:TVal→Heap→Option β},vop O (.bslice 1 1 [.p .nilslice] [(0,.k (.v (.agg [.p (.slice 7 true [opRow v.n])])))] false) h d k=k (pipeP v.n) h:=qAY _ _ rfl;refine(qAB rfl).trans ?_;show lim tab.get S 21 0 0 [kA v.row] h0=_;rw[w21_0,b21_0];simp (maxSteps:=9999999) +contextual only[exa,rA,rB,rD,rE,rF,rG,rH,rI,rJ,hk,b7,b1,c1,oneOf]
end Go.Proofs.YtiahgnkffnokfaaGreatDoor.Ab
