/- The rules,the contracts,the plain laws that lead to the statement. Own work. Condition: what each theorem names. -/
import Derived.Test.YtiahgnkffnokfaaGreatDoorG1
set_option linter.all false
set_option linter.unusedVariables false
set_option linter.unusedSimpArgs false
set_option linter.unusedSectionVars false
set_option maxRecDepth 100000
set_option maxHeartbeats 4000000
open Nat renaming reduceAdd→rA,reduceMul→rB,reduceLT→rD,reduceLeDiff→rE,reduceEqDiff→rF
open Int renaming reduceLT→rG,reduceLE→rH,reduceEq→rI,reduceToNat→rJ
open Option renaming some.injEq→rK,bind_eq_some_iff→rL,bind_eq_bind→rM
namespace Go.Proofs.YtiahgnkffnokfaaGreatDoor.Ab
open Go Go.AI
theorem qP3(s acc:List UInt8)(h:Heap)(ha:acc.length≤1000000):lim tab.get S 40 0 4 [kS acc] h=some (kS (acc++[34]),[]):=by
 have A1:∀ {β:Type}{h:Heap}{k:TVal→Heap→Option β},vbin .add 0 (kS acc) (kS [34]) h k=k (kS (acc++[34])) h:=fun{β h k}=>qA0 0 _ _ (by simp; omega)
 rw[w40_4,b40_4];simp (maxSteps:=9999999) +contextual only[A1,exa,rA,rB,rD,rE,rF,rG,rH,rI,rJ,exW,exY,oneOf]
theorem qNK(s acc:List UInt8)(h:Heap)(i:Nat)(hi:i<1000000):lim tab.get S 40 0 3 [kS s,kS acc,kI (i:Int)] h=lim tab.get S 40 0 1 [kS s,kS acc,kI ((i+1:Nat):Int)] h:=by
 rw[w40_3,b40_3];simp (maxSteps:=9999999) +contextual only[exa,rA,rB,rD,rE,rF,rG,rH,rI,rJ,exW,exY,qAl i (by omega)]
theorem qPq(s acc:List UInt8)(h:Heap)(i:Nat)(c:UInt8)(hc:s[i]?=some c)(hs:s.length≤100000)(ha:acc.length≤1000000) :
  lim tab.get S 40 0 2 [kS s,kS acc,kI (i:Int),kU c,kB (decide (c=92)||decide (c=34))] h=lim tab.get S 40 0 1 [kS s,kS (acc++escM c),kI ((i+1:Nat):Int)] h:=by
 have hi:i<s.length:=(List.getElem?_eq_some_iff.1 hc).1;have ew:IntKind.i64.wrap ((i:Int)+1)=((i+1:Nat):Int):=qAl i (by omega)
 have sl:∀ {β:Type}{kk:TVal→Heap→Option β}{hh:Heap}{d:Nat},vop Om (.slice 0 true (.k (kS s)) (some (.k (kI (i:Int)))) (some (.k (kI ((i+1:Nat):Int)))) none) hh d kk=kk (kS [c]) hh:=fun{β kk hh d}=>(qNY s i (i+1) (by omega) (by omega)).trans (by
  have e:(s.take (i+1)).drop i=[c]:=by
   obtain⟨h1,h2⟩:=List.getElem?_eq_some_iff.1 hc;rw[List.drop_take,show i+1 - i=1 by omega,List.drop_eq_getElem_cons h1,h2]; rfl
  rw[e])
 have A:∀ (u:List UInt8) (hu:u.length≤10) (acc:List UInt8) (ha:acc.length≤1000010) {β:Type} {h:Heap} {k:TVal→Heap→Option β},vbin .add 0 (kS acc) (kS u) h k=k (kS (acc++u)) h:=fun u hu acc ha {β h k}=>qA0 0 _ _ (by omega)
 have ne:∀ x:UInt8,¬ c=x→¬ ((c.toNat:Nat):Int)=(x.toNat:Int):=fun x hx e=>hx (UInt8.toNat_inj.1 (by omega))
 have t3:=fun(u:List UInt8)=>qNK s u h i (by omega)
 rw[w40_2,b40_2];unfold escM;by_cases h1:c=92
 ·subst h1;rw[if_pos rfl,show(decide ((92:UInt8)=92)||decide ((92:UInt8)=34))=true from rfl];simp (maxSteps:=9999999) +contextual only[A [92] (by decide) acc (by omega),A [92] (by decide) (acc++[92]) (by simp; omega),exa,rA,rB,rD,rE,rF,rG,rH,rI,rJ,exW,exY,ew,sl,t3,List.append_assoc,List.singleton_append,List.cons_append,List.nil_append]
 by_cases h2:c=34
 ·subst h2;rw[if_neg h1,if_pos rfl,show(decide ((34:UInt8)=92)||decide ((34:UInt8)=34))=true from rfl];simp (maxSteps:=9999999) +contextual only[A [92] (by decide) acc (by omega),A [34] (by decide) (acc++[92]) (by simp; omega),exa,rA,rB,rD,rE,rF,rG,rH,rI,rJ,exW,exY,ew,sl,t3,List.append_assoc,List.singleton_append,List.cons_append,List.nil_append]
 rw[if_neg h1,if_neg h2,decide_eq_false h1,decide_eq_false h2,Bool.or_false];by_cases h3:c=10
 ·have m3:((c.toNat:Nat):Int)=10:=by rw[h3]; rfl
  rw[if_pos h3];simp (maxSteps:=9999999) +contextual only[A [92,110] (by decide) acc (by omega),exa,rA,rB,rD,rE,rF,rG,rH,rI,rJ,exW,exY,ew,sl,t3,m3]
 by_cases h4:c=9
 ·have m4:((c.toNat:Nat):Int)=9:=by rw[h4]; rfl
  have m3:¬ ((c.toNat:Nat):Int)=10:=ne 10 h3;rw[if_neg h3,if_pos h4];simp (maxSteps:=9999999) +contextual only[A [92,116] (by decide) acc (by omega),exa,rA,rB,rD,rE,rF,rG,rH,rI,rJ,exW,exY,ew,sl,t3,m3,m4,show ¬ (9:Int)=10 by decide]
 ·have m4:¬ ((c.toNat:Nat):Int)=9:=ne 9 h4;have m3:¬ ((c.toNat:Nat):Int)=10:=ne 10 h3;rw[if_neg h3,if_neg h4];simp (maxSteps:=9999999) +contextual only[A [c] (by simp) acc (by omega),exa,rA,rB,rD,rE,rF,rG,rH,rI,rJ,exW,exY,ew,sl,t3,m3,m4]
theorem qPB(s:List UInt8)(hs:s.length≤100000)(h:Heap):∀ (i:Nat) (acc:List UInt8),acc.length≤1+2*i→i≤s.length→lim tab.get S 40 0 1 [kS s,kS acc,kI (i:Int)] h=some (kS (acc++(s.drop i).flatMap escM++[34]),[]):=by
 refine qAk s.length (fun i hi => ?_) (fun i hi ih => ?_)
 ·intro acc ha hi2;have lt:¬ (i:Int)<(s.length:Int):=by omega
  rw[w40_1,b40_1,List.drop_eq_nil_of_le hi];simp (maxSteps:=9999999) +contextual only[exa,rA,rB,rD,rE,rF,rG,rH,rI,rJ,exW,exY,lt,qP3 s acc h (by omega),List.flatMap_nil,List.append_nil]
 ·intro acc ha hi2;obtain⟨c,hc,hd,_⟩:=qAT hi;have lt:(i:Int)<(s.length:Int):=by omega
  have tw:=qPq s acc h i c hc hs (by omega);have el:=qDC c;rw[ih (acc++escM c) (by simp; omega) (by omega)] at tw;have ne:∀ x:UInt8,¬ c=x→¬ ((c.toNat:Nat):Int)=(x.toNat:Int):=fun x hx e=>hx (UInt8.toNat_inj.1 (by omega))
  rw[w40_1,b40_1,hd,List.flatMap_cons];by_cases h1:c=92
  ·have m1:((c.toNat:Nat):Int)=92:=by rw[h1]; rfl
   rw[decide_eq_true h1,Bool.true_or] at tw;simp (maxSteps:=9999999) +contextual only[exa,rA,rB,rD,rE,rF,rG,rH,rI,rJ,exW,exY,lt,hc,m1];rw[tw]; simp
  ·have m1:¬ ((c.toNat:Nat):Int)=92:=ne 92 h1;rw[decide_eq_false h1,Bool.false_or] at tw;by_cases h2:c=34
   ·have m2:((c.toNat:Nat):Int)=34:=by rw[h2]; rfl
    rw[decide_eq_true h2] at tw;simp (maxSteps:=9999999) +contextual only[exa,rA,rB,rD,rE,rF,rG,rH,rI,rJ,exW,exY,lt,hc,m1,m2];rw[tw]; simp
   ·have m2:¬ ((c.toNat:Nat):Int)=34:=ne 34 h2;rw[decide_eq_false h2] at tw;simp (maxSteps:=9999999) +contextual only[exa,rA,rB,rD,rE,rF,rG,rH,rI,rJ,exW,exY,lt,hc,m1,m2];rw[tw]; simp
theorem qJk(s:List UInt8)(hs:s.length≤100000):Om 40 [kS s] []=some (kS (quoteM s),[]):=by
 refine(qAB rfl).trans ?_;show lim tab.get S 40 0 0 [kS s] h0=_;rw[w40_0,b40_0];exact(qPB s hs h0 0 [34] (by decide) (Nat.zero_le _)).trans (by rw[List.drop_zero]; rfl)
def cj:Bool→List (List UInt8)→List UInt8
 |_,[]=>[]
 |b,x::r=>(if b=true then [44] else [])++x++cj true r
theorem qJ6:∀ r:List (List UInt8),cj true r=Lib.joinTail [44] r
 |[]=>rfl
 |x::r=>by rw[cj,qJ6 r]; unfold Lib.joinTail; simp
theorem qEV(r:List (List UInt8)):cj false r=Lib.join r [44]:=by
 cases r with
 |nil=>rfl
 |cons x r=>rw[cj,qJ6,Lib.join_cons]; simp
abbrev r1:TVal := .v (.c (.ptr (.own 1 1) 0))
def RxOK(v:VT):Prop:=Om 21 [kA v.row] []=some (kS (txV v),[])
theorem qN6(acc:List UInt8)(h:Heap)(ha:acc.length≤1000000):lim tab.get S 21 0 3 [kS acc] h=some (kS (acc++[93]),[]):=by
 have A1:∀ {β:Type}{h:Heap}{k:TVal→Heap→Option β},vbin .add 0 (kS acc) (kS [93]) h k=k (kS (acc++[93])) h:=fun{β h k}=>qA0 0 _ _ (by simp; omega)
 rw[w21_3,b21_3];simp (maxSteps:=9999999) +contextual only[A1,exa,rA,rB,rD,rE,rF,rG,rH,rI,rJ,exW,exY,oneOf]
theorem qRC(v:VT)(hl:v.l.list.length≤1000)(ok:∀ x∈v.l.list,RxOK x)(h:Heap)(hv:h.get (.own 1 1)=some (.cells (pcells v.row) 0)) :
  ∀ (i:Nat) (acc:List UInt8),acc.length+(cj (decide (0<i)) (txL (v.l.list.drop i))).length≤900000→lim tab.get S 21 0 1 [r1,kS acc,kI (i:Int)] h=some (kS (acc++cj (decide (0<i)) (txL (v.l.list.drop i))++[93]),[]):=by
 have hl':v.l.len≤1000:=hl;refine qAk v.l.len (fun i hi => ?_) (fun i hi ih => ?_)
 ·intro acc ha;have h1:¬ (i:Int)<(v.l.len:Int):=by omega
  have e1:v.l.list.drop i=[]:=qAc hi;rw[w21_1,b21_1,e1];simp (maxSteps:=9999999) +contextual only[exa,rA,rB,rD,rE,rF,rG,rH,rI,rJ,exW,exY,hv,h1,qN6 acc h (by omega),txL,cj,List.append_nil]
 ·intro acc ha;have h1:(i:Int)<(v.l.len:Int):=by omega
  obtain⟨x,hx,dx,mx⟩:=qAT (l:=v.l.list) (i:=i) hi;rw[dx,txL,cj] at ha;simp only[List.length_append] at ha;have A:∀ (acc u:List UInt8) (ha:acc.length≤1000000) (hu:u.length≤1000000) {β:Type} {h:Heap} {k:TVal→Heap→Option β},vbin .add 0 (kS acc) (kS u) h k=k (kS (acc++u)) h:=fun acc u ha hu {β h k}=>qA0 0 _ _ (by omega)
  have c21:CAL 21 [kA x.row] (kS (txV x)):=qAC 21 _ _ (by simp only[exP]) (ok x mx) rfl;have two:∀ acc:List UInt8,acc.length+(txV x).length+(cj true (txL (v.l.list.drop (i+1)))).length≤900000→lim tab.get S 21 0 2 [r1,kS acc,kI (i:Int)] h=some (kS (acc++txV x++cj true (txL (v.l.list.drop (i+1)))++[93]),[]):=by
   intro acc ha;have nx:=ih (acc++txV x) (by rw[decide_eq_true (show 0<i+1 by omega)]; simp only[List.length_append]; omega);rw[decide_eq_true (show 0<i+1 by omega)] at nx;rw[w21_2,b21_2];simp (maxSteps:=9999999) +contextual only[A acc (txV x) (by omega) (by omega),exa,rA,rB,rD,rE,rF,rG,rH,rI,rJ,exW,exY,hv,hx,c21,z6put,VT.row_len,qAl i (by omega)];exact nx
  rw[w21_1,b21_1,dx,txL,cj];by_cases h0:0<i
  ·have h0':(0:Int)<(i:Int):=by omega
   rw[decide_eq_true h0] at ha ⊢;rw[if_pos rfl] at ha ⊢;simp only[List.length_cons,List.length_nil] at ha;simp (maxSteps:=9999999) +contextual only[A acc [44] (by omega) (by decide),exa,rA,rB,rD,rE,rF,rG,rH,rI,rJ,exW,exY,hv,h1,h0'];rw[two _ (by simp only[List.length_append,List.length_cons,List.length_nil]; omega)];simp
  ·have h0':¬ (0:Int)<(i:Int):=by omega
   rw[decide_eq_false h0] at ha ⊢;rw[if_neg (by decide)] at ha ⊢;simp only[List.length_nil] at ha;simp (maxSteps:=9999999) +contextual only[exa,rA,rB,rD,rE,rF,rG,rH,rI,rJ,exW,exY,hv,h1,h0'];rw[two _ (by omega)];simp
theorem qOQ(acc:List UInt8)(h:Heap)(ha:acc.length≤1000000):lim tab.get S 21 0 7 [kS acc] h=some (kS (acc++[125]),[]):=by
 have A1:∀ {β:Type}{h:Heap}{k:TVal→Heap→Option β},vbin .add 0 (kS acc) (kS [125]) h k=k (kS (acc++[125])) h:=fun{β h k}=>qA0 0 _ _ (by simp; omega)
 rw[w21_7,b21_7];simp (maxSteps:=9999999) +contextual only[A1,exa,rA,rB,rD,rE,rF,rG,rH,rI,rJ,exW,exY,oneOf]
theorem k40t{β:Type}{kt:TVal→Heap→AI.Touch→Option β}{h:Heap}{d:Nat}(s:List UInt8)(hs:s.length≤100000):vtouch Om (.call (.k (.v (.c (.func 40 [])))) [.k (kS s)]) h d kt=kt (kS (quoteM s)) h noTouch :=
 qBb 40 [kS s] _ rfl (qJk s hs) rfl
theorem qPR{β:Type}{kt:TVal→Heap→AI.Touch→Option β}{h:Heap}{d:Nat}{x:VT}(ok:RxOK x):vtouch Om (.call (.k (.v (.c (.func 21 [])))) [.k (kA x.row)]) h d kt=kt (kS (txV x)) h noTouch :=
 qBb 21 [kA x.row] _ (by simp only[exP]) ok (by simp only[exP])
theorem qQR(v:VT)(hl:v.l.list.length≤1000)(he:v.keys.list.length=v.l.list.length)(hk:∀ y∈v.keys.list,y.length≤100000)(ok:∀ x∈v.l.list,RxOK x)(h:Heap)(hv:h.get (.own 1 1)=some (.cells (pcells v.row) 0)) :
  ∀ (i:Nat) (acc:List UInt8),acc.length+(cj (decide (0<i)) (enL (v.keys.list.drop i) (v.l.list.drop i))).length≤900000→lim tab.get S 21 0 5 [r1,kS acc,kI (i:Int)] h=some (kS (acc++cj (decide (0<i)) (enL (v.keys.list.drop i) (v.l.list.drop i))++[125]),[]):=by
 have hl':v.l.len≤1000:=hl;refine qAk v.l.len (fun i hi => ?_) (fun i hi ih => ?_)
 ·intro acc ha;have h1:¬ (i:Int)<(v.l.len:Int):=by omega
  have e1:v.l.list.drop i=[]:=qAc hi;rw[w21_5,b21_5,e1,qDv];simp (maxSteps:=9999999) +contextual only[exa,rA,rB,rD,rE,rF,rG,rH,rI,rJ,exW,exY,hv,h1,qOQ acc h (by omega),cj,List.append_nil]
 ·intro acc ha;have h1:(i:Int)<(v.l.len:Int):=by omega
  obtain⟨x,hx,dx,mx⟩:=qAT (l:=v.l.list) (i:=i) hi;obtain⟨y,hy,dy,my⟩:=qAT (l:=v.keys.list) (i:=i) (by rw[he]; exact hi);rw[dx,dy,enL,cj] at ha;simp only[List.length_append,List.length_cons,List.length_nil] at ha;have A:∀ (acc u:List UInt8) (ha:acc.length≤1000000) (hu:u.length≤1000000) {β:Type} {h:Heap} {k:TVal→Heap→Option β},vbin .add 0 (kS acc) (kS u) h k=k (kS (acc++u)) h:=fun acc u ha hu {β h k}=>qA0 0 _ _ (by omega)
  have two:∀ acc:List UInt8,acc.length+(quoteM y).length+1+(txV x).length+(cj true (enL (v.keys.list.drop (i+1)) (v.l.list.drop (i+1)))).length≤900000→lim tab.get S 21 0 6 [r1,kS acc,kI (i:Int)] h=some (kS (acc++quoteM y++[58]++txV x++cj true (enL (v.keys.list.drop (i+1)) (v.l.list.drop (i+1)))++[125]),[]):=by
   intro acc ha;have nx:=ih (acc++quoteM y++[58]++txV x) (by rw[decide_eq_true (show 0<i+1 by omega)]; simp only[List.length_append,List.length_cons,List.length_nil]; omega);rw[decide_eq_true (show 0<i+1 by omega)] at nx;have A1:=@A acc (quoteM y) (by omega) (by omega);have A2:=@A (acc++quoteM y) [58] (by simp only[List.length_append]; omega) (by decide);have A3:=@A (acc++quoteM y++[58]) (txV x) (by simp only[List.length_append,List.length_cons,List.length_nil]; omega) (by omega);rw[w21_6,b21_6];simp (maxSteps:=9999999) +contextual only[A1,A2,A3,exa,rA,rB,rD,rE,rF,rG,rH,rI,rJ,exW,exY,hv,hx,hy,k40t y (hk y my),qPR (ok x mx),z6put,VT.row_len,qAl i (by omega)];exact nx
  rw[w21_5,b21_5,dx,dy,enL,cj];by_cases h0:0<i
  ·have h0':(0:Int)<(i:Int):=by omega
   rw[decide_eq_true h0] at ha ⊢;rw[if_pos rfl] at ha ⊢;simp only[List.length_cons,List.length_nil] at ha;simp (maxSteps:=9999999) +contextual only[A acc [44] (by omega) (by decide),exa,rA,rB,rD,rE,rF,rG,rH,rI,rJ,exW,exY,hv,h1,h0'];rw[two _ (by simp only[List.length_append,List.length_cons,List.length_nil]; omega)];simp
  ·have h0':¬ (0:Int)<(i:Int):=by omega
   rw[decide_eq_false h0] at ha ⊢;rw[if_neg (by decide)] at ha ⊢;simp only[List.length_nil] at ha;simp (maxSteps:=9999999) +contextual only[exa,rA,rB,rD,rE,rF,rG,rH,rI,rJ,exW,exY,hv,h1,h0'];rw[two _ (by omega)];simp
theorem qGM:∀ (n:Nat) (v:VT),Gd n v→cntV v≤1000→RxOK v
 |0,_,G,_=>G.elim
 |n+1,v,G,hc=>by
  have G':Gd1 (Gd n) v:=G;have cv:=qBI v;have ll:=G'.l;have ih:∀ x∈v.l.list,RxOK x:=fun x hx=>qGM n x (G'.x x hx) (by have:=qGH _ x hx; omega)
  have tl:=qML (n+1) v G;have h0':=G'.k0;have h5':=G'.k5;by_cases k1:v.kind=1
  ·unfold RxOK;rw[(qFM v k1).2];exact qL5 v k1
  by_cases k2:v.kind=2
  ·unfold RxOK;rw[(qFD v k2).2];exact qN2 v k2 G'.n.1 G'.n.2
  unfold RxOK;refine(qAB rfl).trans ?_;show lim tab.get S 21 0 0 [kA v.row] h0=_;rw[w21_0,b21_0];have rv:=VT.row_len v;by_cases k0:v.kind=0
  ·rw[(qEw v k0).2];simp (maxSteps:=9999999) +contextual only[exa,rA,rB,rD,rE,rF,rG,rH,rI,rJ,exW,exY,rv,k0,oneOf]
  by_cases k3:v.kind=3
  ·have c40:CAL 40 [kS v.s] (kS (quoteM v.s)):=qAC 40 _ _ rfl (qJk v.s (by have:=G'.s.1; omega)) rfl;rw[(qE8 v k3).2];simp (maxSteps:=9999999) +contextual only[exa,rA,rB,rD,rE,rF,rG,rH,rI,rJ,exW,exY,rv,k3,c40,oneOf,show ¬ (3:Int)=0 by decide,show ¬ (3:Int)=1 by decide,show ¬ (3:Int)=2 by decide]
  by_cases k4:v.kind=4
  ·have e:=(qEy v k4).2;rw[e] at tl ⊢;unfold brL at tl ⊢;simp only[List.length_append,List.length_cons,List.length_nil] at tl;have L:=fun h hv=>qRC v (by omega) ih h hv 0 [91] (by rw[List.drop_zero,show decide (0<0)=false from rfl,qEV]; simp only[List.length_cons,List.length_nil]; omega)
   simp only[List.drop_zero,Nat.lt_irrefl,decide_false,qEV] at L;rw[show((0:Nat):Int)=0 from rfl] at L;simp (maxSteps:=9999999) +contextual only[exa,rA,rB,rD,rE,rF,rG,rH,rI,rJ,exW,exY,rv,k4,oneOf,show ¬ (4:Int)=0 by decide,show ¬ (4:Int)=1 by decide,show ¬ (4:Int)=2 by decide,show ¬ (4:Int)=3 by decide];exact L _ rfl
  ·have k5:v.kind=5:=by omega
   have e:=(qFN v k5).2;rw[e] at tl ⊢;unfold brT at tl ⊢;simp only[List.length_append,List.length_cons,List.length_nil] at tl;have L:=fun h hv=>qQR v (by omega) (G'.e k5) (fun y hy=>by have:=(G'.kt y hy).1; omega) ih h hv 0 [123] (by rw[List.drop_zero,List.drop_zero,show decide (0<0)=false from rfl,qEV]; simp only[List.length_cons,List.length_nil]; omega)
   simp only[List.drop_zero,Nat.lt_irrefl,decide_false,qEV] at L;rw[show((0:Nat):Int)=0 from rfl] at L;simp (maxSteps:=9999999) +contextual only[exa,rA,rB,rD,rE,rF,rG,rH,rI,rJ,exW,exY,rv,k5,oneOf,show ¬ (5:Int)=0 by decide,show ¬ (5:Int)=1 by decide,show ¬ (5:Int)=2 by decide,show ¬ (5:Int)=3 by decide,show ¬ (5:Int)=4 by decide];rw[w21_4,b21_4];exact L _ rfl
theorem qKE{β:Type}{O:Oracle}{h:Heap}{d:Nat}{kt:TVal→Heap→AI.Touch→Option β}(x y:TVal):vtouch O (.pick (.k (kB true)) (.k x) (.k y)) h d kt=kt x h noTouch:=qAv _ _ rfl
theorem qJt{β:Type}{O:Oracle}{h:Heap}{d:Nat}{kt:TVal→Heap→AI.Touch→Option β}(x y:TVal):vtouch O (.pick (.k (kB false)) (.k x) (.k y)) h d kt=kt y h noTouch:=qAv _ _ rfl
@[congr] theorem vguardT_congr {β:Type} {v v':TVal} {w:Bool} {doit:(TVal→Heap→AI.Touch→Option β)→Option β} {h:Heap} {k:TVal→Heap→AI.Touch→Option β} (e:v=v'):vguardT v w doit h k=vguardT v' w doit h k:=by rw[e]
theorem qOy(v w:VT)(Gv:Gd 12 v)(Gw:Gd 12 w)(hv:cntV v≤100)(hw:cntV w≤100):sameV v w=decide (txV v=txV w):=by
 by_cases h:txV v=txV w
 ·rw[decide_eq_true h];have p1:=qDA v Gv hv;have p2:=qDA w Gw hw;rw[h,p2] at p1;have e:kA (norm w).row=kA (norm v).row:=by
   simp only[rK,Prod.mk.injEq,TVal.tup.injEq,List.cons.injEq,Comp.agg.injEq,and_true] at p1;show TVal.v (.agg (pcells (norm w).row))=TVal.v (.agg (pcells (norm v).row));rw[p1]
  have q1:=qLJ _ (norm v) (Nat.lt_succ_self _) (qCB 12 v Gv).2 w;have q2:=qLJ _ (norm w) (Nat.lt_succ_self _) (qCB 12 w Gw).2 w;rw[← e,q2,qC4 12 w Gw] at q1;have e2:sameV (norm v) w=true:=by
   simp only[rK,Prod.mk.injEq,TVal.v.injEq,Comp.c.injEq,Cell.p.injEq,PVal.bool.injEq,and_true] at q1;exact q1.symm
  exact qFm _ v (norm v) w (Nat.lt_succ_self _) (qG3 _ (norm v) v (Nat.lt_succ_self _) (qC4 12 v Gv)) e2
 ·rw[decide_eq_false h];cases e:sameV v w with
  |false=>rfl
  |true=>exact absurd (qHF _ v w (Nat.lt_succ_self _) e) h
theorem bk20{β:Type}{kt:TVal→Heap→AI.Touch→Option β}{h:Heap}{d:Nat}(v w:VT)(sm:smV v):vtouch Om (.call (.k (.v (.c (.func 20 [])))) [.k (kA v.row),.k (kA w.row)]) h d kt=kt (kB (sameV v w)) h noTouch :=
 qBb 20 [kA v.row,kA w.row] _ (by simp only[exP]) (qP6 _ v (Nat.lt_succ_self _) sm w) rfl
theorem bk17{β:Type}{kt:TVal→Heap→AI.Touch→Option β}{h:Heap}{d:Nat}(v w:VT)(wt:wtA v):vtouch Om (.call (.k (.v (.c (.func 17 [])))) [.k (kA v.row),.k (kA w.row)]) h d kt=kt (kB (sameV v w)) h noTouch :=
 qBb 17 [kA v.row,kA w.row] _ (by simp only[exP]) (qLJ _ v (Nat.lt_succ_self _) wt w) rfl
theorem back_law(r q:RT)(ir:r.inR)(iq:q.inR):orc S (lim tab.get S) 8 [kA r.row,kA q.row] []=some (kB true,[]):=by
 refine(qAB rfl).trans ?_;show lim tab.get S 8 0 0 [kA r.row,kA q.row] h0=_;rw[w8_0,b8_0];have rl:=RT.row_len r;have ql:=RT.row_len q;by_cases hf:fewR r 80=0
 ·simp (maxSteps:=9999999) +contextual only[exa,rA,rB,rD,rE,rF,rG,rH,rI,rJ,exW,exY,qLU,u29,hf,rl,ql,oneOf]
 by_cases hg:fewR q 80=0
 ·simp (maxSteps:=9999999) +contextual only[exa,rA,rB,rD,rE,rF,rG,rH,rI,rJ,exW,exY,qLU,u29,hf,hg,rl,ql,oneOf]
 have smr:=qEJ (by decide) hf;have smq:=qEJ (by decide) hg;obtain⟨Gv,hv⟩:=qIY r 80 11 (by decide) (by decide) ir hf;obtain⟨Gw,hw⟩:=qIY q 80 11 (by decide) (by decide) iq hg;rw[show((11+1:Nat):Int)=12 from rfl] at Gv hv Gw hw;have c16:=fun{β:Type} {kt:TVal→Heap→AI.Touch→Option β} {h:Heap} {d:Nat}=>y31 (β:=β) (kt:=kt) (h:=h) (d:=d) (qJm _ r (Nat.lt_succ_self _) smr) 12
 have c16q:=fun{β:Type} {kt:TVal→Heap→AI.Touch→Option β} {h:Heap} {d:Nat}=>y31 (β:=β) (kt:=kt) (h:=h) (d:=d) (qJm _ q (Nat.lt_succ_self _) smq) 12
 generalize goodR r 12=v at *;generalize goodR q 12=w at *;have c14:=fun{β:Type} {k:TVal→Heap→Option β} {h:Heap} {d:Nat}=>bk14 (β:=β) (k:=k) (h:=h) (d:=d) v Gv (by omega)
 have c13:=fun{β:Type} {k:TVal→Heap→Option β} {h:Heap} {d:Nat}=>bk13 (β:=β) (k:=k) (h:=h) (d:=d) (txV v) (norm v) (qDA v Gv (by omega))
 have c21:=fun{β:Type} {kt:TVal→Heap→AI.Touch→Option β} {h:Heap} {d:Nat}=>qPR (β:=β) (kt:=kt) (h:=h) (d:=d) (qGM 12 v Gv (by omega))
 have c21w:=fun{β:Type} {kt:TVal→Heap→AI.Touch→Option β} {h:Heap} {d:Nat}=>qPR (β:=β) (kt:=kt) (h:=h) (d:=d) (qGM 12 w Gw (by omega))
 have a20:=fun{β:Type} {kt:TVal→Heap→AI.Touch→Option β} {h:Heap} {d:Nat}=>bk20 (β:=β) (kt:=kt) (h:=h) (d:=d) (norm v) v (qDX 12 v Gv).2
 have a17:=fun{β:Type} {kt:TVal→Heap→AI.Touch→Option β} {h:Heap} {d:Nat}=>bk17 (β:=β) (kt:=kt) (h:=h) (d:=d) (norm v) v (qCB 12 v Gv).2
 rw[qC4 12 v Gv] at a20 a17;have b20:=fun{β:Type} {kt:TVal→Heap→AI.Touch→Option β} {h:Heap} {d:Nat}=>bk20 (β:=β) (kt:=kt) (h:=h) (d:=d) v w (qDX 12 v Gv).1
 have b17:=fun{β:Type} {kt:TVal→Heap→AI.Touch→Option β} {h:Heap} {d:Nat}=>bk17 (β:=β) (kt:=kt) (h:=h) (d:=d) v w (qCB 12 v Gv).1
 rw[qOy v w Gv Gw (by omega) (by omega)] at b20 b17;have rv:=VT.row_len v;have rw':=VT.row_len w;have rn:=VT.row_len (norm v);have A1:AI.Touch.apart ⟨[(Ref.own 2 1).site],[],false⟩ ⟨[],[.own 5],false⟩=true:=rfl;have A2:AI.Touch.apart ⟨[(Ref.own 3 1).site],[],false⟩ ⟨[],[.own 5],false⟩=true:=rfl;have A3:AI.Touch.apart ⟨[(Ref.own 2 1).site],[],false⟩ ⟨[],[.own 6],false⟩=true:=rfl;have A4:AI.Touch.apart ⟨[(Ref.own 3 1).site],[],false⟩ ⟨[],[.own 6],false⟩=true:=rfl;have A5:AI.Touch.apart ⟨[],[.own 5],false⟩ ⟨[],[.own 6],false⟩=true:=rfl;have bt:(true==true)=true:=rfl;have bf:(false==false)=true:=rfl;by_cases e:txV v=txV w
 ·rw[decide_eq_true e] at b20 b17;rw[e] at c13 c14 c21;simp (maxSteps:=9999999) +contextual only[exa,rA,rB,rD,rE,rF,rG,rH,rI,rJ,exW,exY,qFy,qFl,qFS,qFi,qD2,qKE,qJt,qJ9,qBL,qLU,u29,hf,hg,rl,ql,c16,c16q,c14,c13,c21,c21w,a20,a17,b20,b17,qCd _ rv,qCd _ rw',qCd _ rn,rv,rw',rn,bt,bf,A1,A2,A3,A4,A5,oneOf]
 ·rw[decide_eq_false e] at b20 b17;simp (maxSteps:=9999999) +contextual only[exa,rA,rB,rD,rE,rF,rG,rH,rI,rJ,exW,exY,qFy,qFl,qFS,qFi,qD2,qKE,qJt,qJ9,qBL,qLU,u29,hf,hg,rl,ql,c16,c16q,c14,c13,c21,c21w,a20,a17,b20,b17,qCd _ rv,qCd _ rw',qCd _ rn,rv,rw',rn,bt,bf,A1,A2,A3,A4,A5,e,oneOf]
end Go.Proofs.YtiahgnkffnokfaaGreatDoor.Ab
