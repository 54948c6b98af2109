/- The rules,the contracts,the plain laws that lead to the statement. Own work. Condition: what each theorem names. -/
import Derived.Test.YtnlmlcfipbnpgaaDoorG1
set_option linter.all false
set_option linter.unusedVariables false
set_option linter.unusedSimpArgs false
set_option linter.unusedSectionVars false
set_option maxRecDepth 100000
set_option maxHeartbeats 4000000
open Nat renaming reduceAdd->rA,reduceMul->rB,reduceLT->rC,reduceLeDiff->rD,reduceEqDiff->rE
open Int renaming reduceLT->rF,reduceLE->rG,reduceEq->rH,reduceToNat->rI
namespace Go.Proofs.YtnlmlcfipbnpgaaDoor.Ab
open Go Go.AI
theorem qHL{β:Type}{O:Oracle}{h:Heap}{d:Nat}{kt:TVal->Heap->AI.Touch->Option β}(x y:TVal):vtouch O (.pick (.k (kB true)) (.k x) (.k y)) h d kt=kt x h noTouch:=qBe _ _ rfl
theorem qHH{β:Type}{O:Oracle}{h:Heap}{d:Nat}{kt:TVal->Heap->AI.Touch->Option β}(x y:TVal):vtouch O (.pick (.k (kB false)) (.k x) (.k y)) h d kt=kt y h noTouch:=qBe _ _ rfl
@[congr] theorem vguardT_congr {β:Type} {v v':TVal} {w:Bool} {doit:(TVal->Heap->AI.Touch->Option β)->Option β} {h:Heap} {k:TVal->Heap->AI.Touch->Option β} (e:v=v'):vguardT v w doit h k=vguardT v' w doit h k:=by rw[e]
def addN(l:List Nm)(z:Int):List Nm:=if nameM z∈l then l else l++[nameM z]
def Nd(l:List Nm)(v:Cell)(h:Heap):Prop:=(l=[]/\v = .p .nilslice)\/(l≠[]/\∃ g,v = .tsl 1 (l.map sRow) (.own 68 g)/\h.get (.own 68 g)=some (.cells [] 0))
theorem Nd.gs{l:List Nm}{v:Cell}{h:Heap}(N:Nd l v h):AI.GS [68] 1 v (l.map sRow) h:=by
 rcases N with ⟨rfl,rfl⟩|⟨_,g,rfl,hg⟩
 ·exact .inl ⟨rfl,rfl⟩
 ·exact .inr (.inr ⟨68,g,by simp,rfl,hg⟩)
theorem Nd.len{β:Type}{l:List Nm}{v:Cell}{h:Heap}(N:Nd l v h){h':Heap}{d:Nat}{k:TVal->Heap->Option β}:vlen Om 2 (.v (.c v)) h' d k=k (kI (l.length:Int)) h':=by
 rcases N with ⟨rfl,rfl⟩|⟨_,g,rfl,hg⟩
 ·rfl
 ·simp (maxSteps:=9999999) +contextual only[exa,rA,rB,rC,rD,rE,rF,rG,rH,rI,List.length_map]
theorem Nd.at{β:Type}{l:List Nm}{v:Cell}{h:Heap}(N:Nd l v h){i:Nat}{n:Nm}(hi:l[i]?=some n){h':Heap}{k:TVal->Heap->Option β}:viaddr 1 (.v (.c v)) (kI (i:Int)) h' k=k (.v (.c (.p (.pptr (sRow n) 0)))) h':=by
 rcases N with ⟨rfl,rfl⟩|⟨_,g,rfl,hg⟩
 ·cases hi
 ·have e:(l.map sRow)[i]?=some (sRow n):=by rw[List.getElem?_map,hi]; rfl
  have t:(0:Int)<=((i:Nat):Int):=by omega
  simp (maxSteps:=9999999) +contextual only[exa,rA,rB,rC,rD,rE,rF,rG,rH,rI,t,e,Int.toNat_natCast]
theorem y21{β:Type}{kt:TVal->Heap->AI.Touch->Option β}{h:Heap}{d:Nat}(n:Int):vtouch Om (.call (.k (.v (.c (.func 21 [])))) [.k (kI n)]) h d kt=kt (kS (nameM n)) h noTouch:=qKo 21 [kI n] _ rfl (qNB n) rfl
theorem qN8(s:Sl Int)(t:Int)(tw:Bool)(i:Nat)(z:Int)(hz:s.list[i]?=some z)(l:List Nm)(hl:l.length<=8)(v:Cell)(h:Heap)(N:Nd l v h):∀ (m k:Nat) (b:Bool),k+m=l.length ->
  lim tab.get S 6 0 2 [IsP s,kI t,kB tw,.v (.c v),kI (i:Int),kB b,kI (k:Int)] h=lim tab.get S 6 0 3 [IsP s,kI t,kB tw,.v (.c v),kI (i:Int),kB (b||decide (nameM z∈l.drop k))] h
 |0,k,b,hk=>by
  have q:¬ (k:Int)<(l.length:Int):=by omega
  have e:l.drop k=[]:=List.drop_eq_nil_of_le (by omega);have LN:=λ{β:Type} {h':Heap} {d:Nat} {k:TVal->Heap->Option β}=>N.len (h':=h') (d:=d) (k:=k)
  rw[e,w6_2,b6_2];simp (maxSteps:=9999999) +contextual only[exa,rA,rB,rC,rD,rE,rF,rG,rH,rI,LN,q,if_false,List.not_mem_nil,decide_false,Bool.or_false]
 |m+1,k,b,hk=>by
  have q:(k:Int)<(l.length:Int):=by omega
  obtain⟨n,hn⟩:∃ n,l[k]?=some n:=⟨l[k]'(by omega),by simp⟩;have dr:l.drop k=n::l.drop (k+1):=by
   obtain⟨h1,h2⟩:=List.getElem?_eq_some_iff.1 hn;rw[List.drop_eq_getElem_cons h1,h2]
  have LN:=λ{β:Type} {h':Heap} {d:Nat} {k:TVal->Heap->Option β}=>N.len (h':=h') (d:=d) (k:=k)
  have AT:=λ{β:Type} {h':Heap} {k:TVal->Heap->Option β}=>N.at hn (h':=h') (k:=k)
  have ih:=qN8 s t tw i z hz l hl v h N m (k+1) (b||decide (n=nameM z)) (by omega);have e1:((b||decide (n=nameM z))||decide (nameM z∈l.drop (k+1)))=(b||decide (nameM z∈l.drop k)):=by
   rw[dr];by_cases hh:n=nameM z
   ·subst hh; simp
   ·have:nameM z≠n:=λe=>hh e.symm
    simp[hh,this]
  rw[e1] at ih;have w:=qAq k (by omega);rw[<- ih,w6_2,b6_2];cases b with
  |true=>simp (maxSteps:=9999999) +contextual only[exa,rA,rB,rC,rD,rE,rF,rG,rH,rI,exT,exY,LN,AT,q,w,y21,hz,qEC,qEH,qEM,qDn,qCu,qHL,qHH,Bool.true_or]
  |false =>
   by_cases hh:n=nameM z
   ·simp (maxSteps:=9999999) +contextual only[exa,rA,rB,rC,rD,rE,rF,rG,rH,rI,exT,exY,LN,AT,q,w,y21,hz,qEC,qEH,qEM,qDn,qCu,qHL,qHH,hh,Bool.false_or,decide_true]
   ·simp (maxSteps:=9999999) +contextual only[exa,rA,rB,rC,rD,rE,rF,rG,rH,rI,exT,exY,LN,AT,q,w,y21,hz,qEC,qEH,qEM,qDn,qCu,qHL,qHH,hh,Bool.false_or,decide_false]
theorem qQH(l:List Nm)(z:Int):(addN l z).length<=l.length+1:=by unfold addN; split <;> simp
theorem qF8(s:Sl Int)(t:Int)(tw:Bool):∀ (m i:Nat) (l:List Nm) (v:Cell) (h:Heap),i+m=8->l.length<=i->Nd l v h ->
  ∃ v' h',Nd (((s.list.drop i).take m).foldl addN l) v' h'/\lim tab.get S 6 0 1 [IsP s,kI t,kB tw,.v (.c v),kI (i:Int)] h=lim tab.get S 6 0 5 [kI t,kB tw,.v (.c v')] h'
 |0,i,l,v,h,hi,hl,N=>by
  refine⟨v,h,by rw[List.take_zero]; exact N,?_⟩;have q:¬ (i:Int)<8:=by omega
  rw[w6_1,b6_1];by_cases h1:(i:Int)<(s.len:Int)
  ·simp (maxSteps:=9999999) +contextual only[exa,rA,rB,rC,rD,rE,rF,rG,rH,rI,exR,h1,q,if_false]
  ·simp (maxSteps:=9999999) +contextual only[exa,rA,rB,rC,rD,rE,rF,rG,rH,rI,exR,h1,q,if_false]
 |m+1,i,l,v,h,hi,hl,N=>by
  have q:(i:Int)<8:=by omega
  by_cases h1:(i:Int)<(s.len:Int)
  ·obtain⟨z,hz,dz,mz⟩:=qBN (l:=s.list) (i:=i) (by show i<s.len; omega);have ID:=qN8 s t tw i z hz l (by omega) v h N l.length 0 false (by omega);rw[List.drop_zero,Bool.false_or] at ID;have w:=qAq i (by omega);by_cases hm:nameM z∈l
   ·have ea:addN l z=l:=by unfold addN; rw[if_pos hm]
    obtain⟨v',h',N',e'⟩:=qF8 s t tw m (i+1) l v h (by omega) (by omega) N;refine⟨v',h',by rw[dz,List.take_succ_cons,List.foldl_cons,ea]; exact N',?_⟩;rw[decide_eq_true hm] at ID;rw[<- e',w6_1,b6_1];simp (maxSteps:=9999999) +contextual only[exa,rA,rB,rC,rD,rE,rF,rG,rH,rI,exR,h1,q];refine ID.trans ?_;rw[w6_3,b6_3];simp (maxSteps:=9999999) +contextual only[exa,rA,rB,rC,rD,rE,rF,rG,rH,rI];rw[w6_4,b6_4];simp (maxSteps:=9999999) +contextual only[exa,rA,rB,rC,rD,rE,rF,rG,rH,rI,w]
   ·have ea:addN l z=l++[nameM z]:=by unfold addN; rw[if_neg hm]
    obtain⟨v1,h1',t1,G1,e1,T1,K1,I1',X1⟩:=qML (h:=h) (d:=68) (D:=[68]) (sz:=1) (by':=16) (new:=[[.str (nameM z)]]) (b := .slice 1 true [[.str (nameM z)]]) (.inr ⟨true,rfl⟩) N.gs (by decide) (λr hr=>by simp at hr; rw[hr]; rfl) (by simp; omega) (by decide);have N1:Nd (l++[nameM z]) v1 h1':=by
     obtain⟨r,er⟩:=X1 (.inl (by simp))
     rcases G1 with ⟨g1,_⟩|g1|⟨e,g,he,g1,g2⟩
     ·simp at g1
     ·rw[er] at g1; cases g1
     ·refine .inr ⟨by simp,g,?_,?_⟩
      ·rw[g1,List.mem_singleton.1 he,List.map_append]; rfl
      ·rw[<- List.mem_singleton.1 he]; exact g2
    obtain⟨v',h',N',e'⟩:=qF8 s t tw m (i+1) (l++[nameM z]) v1 h1' (by omega) (by simp; omega) N1;refine⟨v',h',by rw[dz,List.take_succ_cons,List.foldl_cons,ea]; exact N',?_⟩;rw[decide_eq_false hm] at ID;have AP:∀ {β:Type}{k:TVal->Heap->Option β},vop Om (.append 1 16 false (.k (.v (.c v))) (.k (kSl 1 true [[.str (nameM z)]]))) h 68 k=k (.v (.c v1)) h1':=λ{β k}=>by rw[qEx]; exact e1 β Om λv h _=>k v h
    have BS:∀ {β:Type}{k:TVal->Heap->Option β}{h:Heap},vop Om (.bslice 1 1 [.p (.str [])] [(0,.k (kS (nameM z)))] false) h 67 k=k (kSl 1 true [[.str (nameM z)]]) h:=λ{β k h}=>qAx _ _ rfl
    rw[<- e',w6_1,b6_1];simp (maxSteps:=9999999) +contextual only[exa,rA,rB,rC,rD,rE,rF,rG,rH,rI,exR,h1,q];refine ID.trans ?_;rw[w6_3,b6_3];simp (maxSteps:=9999999) +contextual only[exa,rA,rB,rC,rD,rE,rF,rG,rH,rI,exR,hz,u21,BS,AP];rw[w6_4,b6_4];simp (maxSteps:=9999999) +contextual only[exa,rA,rB,rC,rD,rE,rF,rG,rH,rI,w]
  ·refine⟨v,h,by rw[List.drop_eq_nil_of_le (by show s.len<=i; omega),List.take_nil]; exact N,?_⟩;rw[w6_1,b6_1];simp (maxSteps:=9999999) +contextual only[exa,rA,rB,rC,rD,rE,rF,rG,rH,rI,exR,h1,if_false]
def rotL(k:Nat)(l:List Nm):List Nm:=l.drop k++l.take k
theorem qSI(k:Nat)(l:List Nm)(hk:k<l.length)(i:Nat)(hi:i<l.length):(rotL k l)[i]?=l[(i+k) % l.length]?:=by
 unfold rotL;by_cases h:i<l.length - k
 ·rw[List.getElem?_append_left (by rw[List.length_drop]; exact h),List.getElem?_drop,Nat.mod_eq_of_lt (by omega),Nat.add_comm]
 ·rw[List.getElem?_append_right (by rw[List.length_drop]; omega),List.length_drop,List.getElem?_take_of_lt (by omega)]
  congr 1
  rw[show i+k=(i - (l.length - k))+l.length by omega,Nat.add_mod_right,Nat.mod_eq_of_lt (by omega)]
theorem qD4(k:Nat)(l:List Nm):(rotL k l).Perm l:=by
 unfold rotL;refine List.perm_append_comm.trans ?_;rw[List.take_append_drop]
theorem qC0(k:Nat)(l:List Nm):(rotL k l).length=l.length:=(qD4 k l).length_eq
def fI(n:Nm):Nm×Int:=(n,2)
abbrev recA(l:List Nm):List UInt8:=rowT (l.map fI)
abbrev schA(l:List Nm):List UInt8:=daT++l.flatMap entT
theorem qHR(l:List Nm)(n:Nm):recA (l++[n])=recA l++(if l=[] then [] else [44])++n++[58,73,110,116]:=by
 unfold recA;rw[List.map_append,List.map_singleton,qEz];cases l with
 |nil=>simp[fieT,fI,wordM]
 |cons a l=>simp[fieT,fI,wordM]
theorem qIC(l:List Nm)(n:Nm):schA (l++[n])=schA l++tyB++n++tyC++n++tyD:=by
 unfold schA entT;rw[List.flatMap_append]; simp[entT]
theorem qD0(l:List Nm)(h:∀ n∈l,nmOK n):(recA l).length<=10*l.length:=by
 have:=qFn (l.map fI) (λp hp=>by obtain⟨n,hn,rfl⟩:=List.mem_map.1 hp; exact⟨h n hn,.inr (.inl rfl)⟩);rw[List.length_map] at this;exact this
theorem qFd(l:List Nm)(h:∀ n∈l,nmOK n):(schA l).length<=9+30*l.length:=by
 have:=qFE entT 30 l (λn hn=>(qG4 (h n hn)).1);show(daT++l.flatMap entT).length<=_;rw[List.length_append];have:daT.length=9:=rfl;omega
theorem qHS{α:Type}(l:List α)(i:Nat)(a:α)(h:l[i]?=some a):l.take (i+1)=l.take i++[a]:=by rw[List.take_add_one,h]; rfl
theorem qE3{α:Type}(l:List α)(i:Nat)(hi:i<=l.length):(l.take i=[])↔i=0:=by
 rw[<- List.length_eq_zero_iff,List.length_take]; omega
theorem qIc(tw:Bool)(l:List Nm)(hl:l.length<=8)(ok:∀ n∈l,nmOK n)(v:Cell)(k:Nat)(hk:k<l.length)(h:Heap)(N:Nd l v h):∀ (m i:Nat),i+m=l.length ->
  lim tab.get S 6 0 6 [kB tw,.v (.c v),kS (recA (l.take i)),kS (recA ((rotL k l).take i)),kS (schA (l.take i)),kS (schA ((rotL k l).take i)),kI (k:Int),kI (i:Int)] h=lim tab.get S 6 0 8 [kB tw,.v (.c v),kS (recA l),kS (recA (rotL k l)),kS (schA l),kS (schA (rotL k l))] h
 |0,i,hi=>by
  have q:¬ (i:Int)<(l.length:Int):=by omega
  have LN:=λ{β:Type} {h':Heap} {d:Nat} {k:TVal->Heap->Option β}=>N.len (h':=h') (d:=d) (k:=k)
  rw[List.take_of_length_le (by omega),List.take_of_length_le (by rw[qC0]; omega),w6_6,b6_6];simp (maxSteps:=9999999) +contextual only[exa,rA,rB,rC,rD,rE,rF,rG,rH,rI,LN,q,if_false]
 |m+1,i,hi=>by
  have q:(i:Int)<(l.length:Int):=by omega
  obtain⟨n,hn⟩:∃ n,l[i]?=some n:=⟨l[i]'(by omega),by simp⟩;have hr:=qSI k l hk i (by omega);have hlt:(i+k) % l.length<l.length:=Nat.mod_lt _ (by omega);obtain⟨n',hn'⟩:∃ n,l[(i+k) % l.length]?=some n:=⟨l[(i+k) % l.length],by simp⟩;rw[hn'] at hr;have on:=ok n (List.mem_of_getElem? hn);have on':=ok n' (List.mem_of_getElem? hn');have okr:∀ x∈rotL k l,nmOK x:=λx hx=>ok x ((qD4 k l).mem_iff.1 hx)
  have LN:=λ{β:Type} {h':Heap} {d:Nat} {k:TVal->Heap->Option β}=>N.len (h':=h') (d:=d) (k:=k)
  have A1:=λ{β:Type} {h':Heap} {k:TVal->Heap->Option β}=>N.at hn (h':=h') (k:=k)
  have A2:=λ{β:Type} {h':Heap} {k:TVal->Heap->Option β}=>N.at hn' (h':=h') (k:=k)
  have w1:IntKind.i64.wrap ((i:Int)+(k:Int))=((i+k:Nat):Int):=qAl i k (by omega) (by omega);have w2:=qAq i (by omega);have rm:∀ {β:Type}{h:Heap}{kk:TVal->Heap->Option β},vbin .rem 0 (kI ((i+k:Nat):Int)) (kI (l.length:Int)) h kk=kk (kI (((i+k) % l.length:Nat):Int)) h:=λ{β h kk}=>by
   rw[qF0 0 .i64 _ _ (by omega)];rfl
  have ih:=qIc tw l hl ok v k hk h N m (i+1) (by omega);have la:=qD0 (l.take i) (λx hx=>ok x (List.mem_of_mem_take hx));have lb:=qD0 ((rotL k l).take i) (λx hx=>okr x (List.mem_of_mem_take hx));have lc:=qFd (l.take i) (λx hx=>ok x (List.mem_of_mem_take hx));have ld:=qFd ((rotL k l).take i) (λx hx=>okr x (List.mem_of_mem_take hx));have ltl:(l.take i).length<=8:=by rw[List.length_take]; omega
  have ltr:((rotL k l).take i).length<=8:=by rw[List.length_take,qC0]; omega
  have z1:=qE3 l i (by omega);have z2:=qE3 (rotL k l) i (by rw[qC0]; omega);have ln:=qEu on;have ln':=qEu on';rw[qHS l i n hn,qHS (rotL k l) i n' hr,qHR,qHR,qIC,qIC] at ih;generalize ha:recA (l.take i)=a at *;generalize hb:recA ((rotL k l).take i)=b at *;generalize hc:schA (l.take i)=c at *;generalize hd:schA ((rotL k l).take i)=d at *;have sep:∀ sp:List UInt8,sp.length<=1->lim tab.get S 6 0 7 [kB tw,.v (.c v),kS a,kS b,kS c,kS d,kI (k:Int),kI (i:Int),kS n,kS n',kS sp] h=lim tab.get S 6 0 6 [kB tw,.v (.c v),kS (a++sp++n++[58,73,110,116]),kS (b++sp++n'++[58,73,110,116]),kS (c++tyB++n++tyC++n++tyD),kS (d++tyB++n'++tyC++n'++tyD),kI (k:Int),kI ((i+1:Nat):Int)] h:=by
   intro sp hsp;have big:∀ (x y:List UInt8),x.length<=2000->y.length<=2000->∀ {β:Type}{h:Heap}{k:TVal->Heap->Option β},vbin .add 0 (kS x) (kS y) h k=k (kS (x++y)) h:=λx y hx hy=>qLR x y (by omega)
   have tB:tyB=[116,121,112,101,32]:=rfl;have lB:tyB.length=5:=rfl;have lC:tyC.length=9:=rfl;have lD:tyD.length=8:=rfl;rw[w6_7,b6_7];rw[show([116,121,112,101,32]:List UInt8)=tyB from rfl,show([61,66,111,111,108,59,102,110,32]:List UInt8)=tyC from rfl,show([40,41,45,62,73,110,116,59]:List UInt8)=tyD from rfl];rw[big a sp (by omega) (by omega),big _ n (by simp; omega) (by omega),big _ [58,73,110,116] (by simp; omega) (by decide)];rw[big b sp (by omega) (by omega),big _ n' (by simp; omega) (by omega),big _ [58,73,110,116] (by simp; omega) (by decide)];rw[big c tyB (by omega) (by decide),big _ n (by simp[lB]; omega) (by omega),big _ tyC (by simp[lB]; omega) (by decide),big _ n (by simp[lB,lC]; omega) (by omega),big _ tyD (by simp[lB,lC]; omega) (by decide)];rw[big d tyB (by omega) (by decide),big _ n' (by simp[lB]; omega) (by omega),big _ tyC (by simp[lB]; omega) (by decide),big _ n' (by simp[lB,lC]; omega) (by omega),big _ tyD (by simp[lB,lC]; omega) (by decide),qAZ,w2]
  by_cases i0:i=0
  ·have t0:¬ (0:Int)<(i:Int):=by omega
   have s:=sep [] (by decide);rw[if_pos (z1.2 i0),if_pos (z2.2 i0)] at ih;rw[ih] at s;rw[<- s,w6_6,b6_6];simp (maxSteps:=9999999) +contextual only[exa,rA,rB,rC,rD,rE,rF,rG,rH,rI,exY,LN,A1,A2,rm,w1,q,t0,if_false]
  ·have t0:(0:Int)<(i:Int):=by omega
   have s:=sep [44] (by decide);rw[if_neg (λe=>i0 (z1.1 e)),if_neg (λe=>i0 (z2.1 e))] at ih;rw[ih] at s;rw[<- s,w6_6,b6_6];simp (maxSteps:=9999999) +contextual only[exa,rA,rB,rC,rD,rE,rF,rG,rH,rI,exY,LN,A1,A2,rm,w1,q,t0]
theorem qKw:∀ (zs:List Int) (l:List Nm),l.Nodup->(∀ n∈l,nmOK n)->(zs.foldl addN l).Nodup/\(∀ n∈zs.foldl addN l,nmOK n)/\(zs.foldl addN l).length<=l.length+zs.length
 |[],l,h1,h2=>⟨h1,h2,Nat.le_refl _⟩
 |z::zs,l,h1,h2=>by
  have hd:(addN l z).Nodup/\∀ n∈addN l z,nmOK n:=by
   unfold addN;split
   ·exact⟨h1,h2⟩
   ·rename_i hm;refine⟨?_,λn hn => ?_⟩
    ·rw[List.nodup_append];exact⟨h1,by simp,λa ha b hb e=>hm (by rw[List.mem_singleton.1 hb] at e; rw[<- e]; exact ha)⟩
    ·rcases List.mem_append.1 hn with hn|hn
     ·exact h2 n hn
     ·rw[List.mem_singleton.1 hn]; exact qTo z
  obtain⟨a,b,c⟩:=qKw zs (addN l z) hd.1 hd.2;have:=qQH l z;exact⟨a,b,by rw[List.foldl_cons,List.length_cons]; omega⟩
theorem qFG(k:Int):smT (leafT k):=(qGM _).2 ⟨Nat.zero_le _,Nat.zero_le _,λx hx=>by cases hx⟩
theorem qSi(k:Int)(l:Es)(hl:l.length<=1000)(h:∀ p∈l,smT p.2):smT (recT k l):=by
 refine(qGM _).2 ⟨?_,?_,λx hx => ?_⟩
 ·show(grown (l.map (·.1))).list.length<=1000;rw[qB3,List.length_map]; exact hl
 ·show(grown (l.map (·.2))).list.length<=1000;rw[qB3,List.length_map]; exact hl
 ·have hx:x∈(grown (l.map (·.2))).list:=hx;rw[qB3] at hx;obtain⟨p,hp,rfl⟩:=List.mem_map.1 hx;exact h p hp
theorem qMI(l:List TT):sameL l l=true:=by
 induction l with
 |nil=>rfl
 |cons a l ih=>rw[sameL,qBy _ a (Nat.lt_succ_self _),ih]; rfl
theorem qGC{α:Type}(f:α->α->Bool)(hf:∀ a,f a a=true)(l:List α):sameB f l l=true:=by
 induction l with
 |nil=>rfl
 |cons a l ih=>rw[sameB,hf,ih]; rfl
theorem qKA(a:SC):sameSC a a=true:=by
 unfold sameSC;rw[qBy _ _ (Nat.lt_succ_self _),qGC sameN1 (λp=>by unfold sameN1; rw[decide_eq_true rfl,qBy _ _ (Nat.lt_succ_self _)]; rfl),qGC sameG1 (λp=>by unfold sameG1; rw[decide_eq_true rfl,qMI,qBy _ _ (Nat.lt_succ_self _)]; rfl)];rfl
theorem SC.row_len(x:SC):x.row.length=6:=by unfold SC.row; simp[TT.row_len]
theorem v22{β:Type}{k:TVal->Heap->Option β}{h:Heap}{d:Nat}(s:List UInt8):vcall Om (.v (.c (.func 22 []))) [kS s] h d k=k (.tup [.agg (pcells (parS s).row),.c (.p (.int .i64 (parE s)))]) h:=qAH 22 _ _ (by simp only[exP]) (qRc s) (by simp only[exP])
theorem v23{β:Type}{k:TVal->Heap->Option β}{h:Heap}{d:Nat}{a b:SC}(sa:smSC a)(sb:smSC b):vcall Om (.v (.c (.func 23 []))) [kA a.row,kA b.row] h d k=k (kB (sameSC a b)) h:=qAH 23 _ _ (by simp only[exP]) (qPK a b sa sb) rfl
theorem qKd(tw:Bool)(A B C D:List UInt8)(hA:A.length<=1000)(hB:B.length<=1000)(h:Heap)(eA:typeE (123::(A++[125]))=0)(eC:parE C=0)
  (hT:tw=true->typeE (123::(B++[125]))=6/\parE D=6)
  (hF:tw=false->typeE (123::(B++[125]))=0/\parE D=0/\typeM (123::(B++[125]))=typeM (123::(A++[125]))/\parS D=parS C/\smT (typeM (123::(A++[125])))/\smSC (parS C)) :
  lim tab.get S 6 0 9 [kB tw,kS A,kS B,kS C,kS D] h=some (kB true,[]):=by
 have V1:∀ (X:List UInt8),X.length<=1000->∀ {β:Type}{h:Heap}{k:TVal->Heap->Option β},vbin .add 0 (kS [123]) (kS X) h k=k (kS (123::X)) h:=λX hX=>qLR [123] X (by simp; omega)
 have V2:∀ (X:List UInt8),X.length<=1000->∀ {β:Type}{h:Heap}{k:TVal->Heap->Option β},vbin .add 0 (kS (123::X)) (kS [125]) h k=k (kS (123::(X++[125]))) h:=λX hX=>qLR (123::X) [125] (by simp; omega)
 have C1:=λ{β:Type} {kk:TVal->Heap->Option β} {hh:Heap} {d:Nat}=>v16 (k:=kk) (h:=hh) (d:=d) (qGD (123::(A++[125])))
 have C2:=λ{β:Type} {kk:TVal->Heap->Option β} {hh:Heap} {d:Nat}=>v16 (k:=kk) (h:=hh) (d:=d) (qGD (123::(B++[125])))
 have C3:=λ{β:Type} {kk:TVal->Heap->Option β} {hh:Heap} {d:Nat}=>v22 (k:=kk) (h:=hh) (d:=d) C
 have C4:=λ{β:Type} {kk:TVal->Heap->Option β} {hh:Heap} {d:Nat}=>v22 (k:=kk) (h:=hh) (d:=d) D
 have l4:∀ t:TT,(pcells t.row).length=4:=λt=>by rw[qAN,TT.row_len]
 have T4:∀ t:TT,(pcells t.row).take 4=pcells t.row:=λt=>List.take_of_length_le (by rw[l4]; exact Nat.le_refl _)
 have l6:∀ t:SC,(pcells t.row).length=6:=λt=>by rw[qAN,SC.row_len]
 have T6:∀ t:SC,(pcells t.row).take 6=pcells t.row:=λt=>List.take_of_length_le (by rw[l6]; exact Nat.le_refl _)
 have P6:∀ t:SC,put1 z6s 0 (pcells t.row)=pcells t.row:=λt=>qBA _ _ (by rw[l6]; rfl)
 rw[eA] at C1;rw[eC] at C3;have VA1:=λ{β:Type} {h:Heap} {k:TVal->Heap->Option β}=>V1 A hA (β:=β) (h:=h) (k:=k)
 have VA2:=λ{β:Type} {h:Heap} {k:TVal->Heap->Option β}=>V2 A hA (β:=β) (h:=h) (k:=k)
 have VB1:=λ{β:Type} {h:Heap} {k:TVal->Heap->Option β}=>V1 B hB (β:=β) (h:=h) (k:=k)
 have VB2:=λ{β:Type} {h:Heap} {k:TVal->Heap->Option β}=>V2 B hB (β:=β) (h:=h) (k:=k)
 cases tw with
 |true =>
  obtain⟨eB,eD⟩:=hT rfl;rw[eB] at C2;rw[eD] at C4;generalize (123::(A++[125]):List UInt8)=XA at *;generalize (123::(B++[125]):List UInt8)=XB at *;have zA:=z4u (typeM XA);have zB:=z4u (typeM XB);have pC:=P6 (parS C);have pD:=P6 (parS D);have a1:=l4 (typeM XA);have a2:=l4 (typeM XB);have a3:=l6 (parS C);have a4:=l6 (parS D);generalize typeM XA=ta at *;generalize typeM XB=tb at *;generalize parS C=sc at *;generalize parS D=sd at *;rw[w6_9,b6_9];simp (maxSteps:=9999999) +contextual only[exa,rA,rB,rC,rD,rE,rF,rG,rH,rI,exW,exY,VA1,VA2,VB1,VB2,C1,C2,C3,C4,zA,zB,pC,pD,a1,a2,a3,a4,Nat.le_refl,oneOf]
 |false =>
  obtain⟨eB,eD,tB,sD,sm1,sm2⟩:=hF rfl;rw[eB,tB] at C2;rw[eD,sD] at C4;have C5:=λ{β:Type} {kk:TVal->Heap->Option β} {hh:Heap} {d:Nat}=>r17 (k:=kk) (h:=hh) (d:=d) sm1 sm1
  have C6:=λ{β:Type} {kk:TVal->Heap->Option β} {hh:Heap} {d:Nat}=>v23 (k:=kk) (h:=hh) (d:=d) sm2 sm2
  rw[qBy _ _ (Nat.lt_succ_self _)] at C5;rw[qKA] at C6;generalize (123::(A++[125]):List UInt8)=XA at *;generalize (123::(B++[125]):List UInt8)=XB at *;have zA:=z4u (typeM XA);have pC:=P6 (parS C);have a1:=l4 (typeM XA);have a3:=l6 (parS C);have t1:=T4 (typeM XA);have t3:=T6 (parS C);generalize typeM XA=ta at *;generalize parS C=sc at *;rw[w6_9,b6_9];simp (maxSteps:=9999999) +contextual only[exa,rA,rB,rC,rD,rE,rF,rG,rH,rI,exW,exY,VA1,VA2,VB1,VB2,C1,C2,C3,C4,C5,C6,zA,pC,a1,a3,t1,t3,List.drop_zero,Nat.le_refl,oneOf]
theorem qJg{n:Nm}{l:List Nm}(h:n∈l):¬ (l++[n]).Nodup:=by
 rw[List.nodup_append]
 rintro ⟨_,_,h3⟩
 exact h3 n h n (by simp) rfl
theorem qOQ(l:List Nm)(hne:l≠[])(nd:l.Nodup)(ok:∀ n∈l,nmOK n)(hl:l.length<=8)(k:Nat)(n0:Nm)(h0:n0∈l) :
  (typeE (123::(recA l++[125]))=0/\parE (schA l)=0)/\(typeE (123::((recA (rotL k l)++[44]++n0++[58,84,101,120,116])++[125]))=6/\parE (schA (rotL k l)++fnB++n0++tyD)=6) /\
  (typeE (123::(recA (rotL k l)++[125]))=0/\parE (schA (rotL k l))=0/\typeM (123::(recA (rotL k l)++[125]))=typeM (123::(recA l++[125]))/\parS (schA (rotL k l))=parS (schA l)/\smT (typeM (123::(recA l++[125])))/\smSC (parS (schA l))):=by
 have rp:=qD4 k l;have rne:rotL k l≠[]:=λe=>hne (List.length_eq_zero_iff.1 (by rw[<- qC0 k l,e]; rfl))
 have rnd:(rotL k l).Nodup:=rp.nodup_iff.2 nd;have rok:∀ n∈rotL k l,nmOK n:=λn hn=>ok n (rp.mem_iff.1 hn)
 have rl:=qC0 k l;have mI:∀ l:List Nm,(l.map fI).map (·.1)=l:=λl=>by rw[List.map_map]; exact List.map_id l
 have okI:∀ l:List Nm,(∀ n∈l,nmOK n)->∀ p∈l.map fI,nmOK p.1/\k3 p.2:=λl h p hp=>by
  obtain⟨n,hn,rfl⟩:=List.mem_map.1 hp;exact⟨h n hn,.inr (.inl rfl)⟩
 have a1:=qF5 (l.map fI) (by simpa using hne) (okI l ok) (by rw[List.length_map]; omega);have a2:=qF5 ((rotL k l).map fI) (by simpa using rne) (okI _ rok) (by rw[List.length_map]; omega);rw[mI] at a1 a2;obtain⟨a1,_⟩:=a1;obtain⟨a2,_⟩:=a2;obtain⟨e1,e2⟩:=a1 nd;obtain⟨e3,e4⟩:=a2 rnd;have b1:=qGA l [] ok (λn hn=>by cases hn) hl (by decide);have b2:=qGA (rotL k l) [] rok (λn hn=>by cases hn) (by omega) (by decide);rw[List.flatMap_nil,List.append_nil,List.append_nil] at b1 b2;obtain⟨g1,g2⟩:=b1.1 ⟨nd,nd⟩;obtain⟨g3,g4⟩:=b2.1 ⟨rnd,rnd⟩;have c1:typeE (123::((recA (rotL k l)++[44]++n0++[58,84,101,120,116])++[125]))=6:=by
  have h:=(qF5 ((rotL k l).map fI++[(n0,3)]) (by simp) (λp hp=>by
   rcases List.mem_append.1 hp with hp|hp
   ·exact okI _ rok p hp
   ·rw[List.mem_singleton.1 hp]; exact⟨ok n0 h0,.inr (.inr rfl)⟩) (by rw[List.length_append,List.length_map,List.length_singleton]; omega)).2 (by
   rw[List.map_append,mI]
   exact qJg (rp.mem_iff.2 h0))
  rw[qEz,if_neg (by simpa using rne)] at h;have e:rowT ((rotL k l).map fI)++[44]++fieT (n0,3)=recA (rotL k l)++[44]++n0++[58,84,101,120,116]:=by simp[fieT,wordM,recA]
  rw[e] at h;exact h
 have c2:parE (schA (rotL k l)++fnB++n0++tyD)=6:=by
  have h:=(qGA (rotL k l) [n0] rok (λn hn=>by rw[List.mem_singleton.1 hn]; exact ok n0 h0) (by omega) (by simp)).2 (qJg (rp.mem_iff.2 h0));have e:daT++(rotL k l).flatMap entT++[n0].flatMap funT=schA (rotL k l)++fnB++n0++tyD:=by simp[funT,schA]
  rw[e] at h;exact h
 have lE:∀ l:List Nm,l.length<=8->((l.map fI).map fE).length<=1000:=λl h=>by rw[List.length_map,List.length_map]; omega
 have mE:∀ l:List Nm,((l.map fI).map fE).map (·.1)=l:=λl=>by rw[List.map_map,List.map_map]; exact List.map_id l
 refine⟨⟨e1,g1⟩,⟨c1,c2⟩,e3,g3,?_,?_,?_,?_⟩
 ·rw[e4,e2]
  congr 1
  exact qHv (qCz _ (lE l hl)) (qBX _) (qCz _ (lE _ (by omega))) (qBX _) ((rp.map fI).map fE) (by rw[mE]; exact nd)
 ·rw[g4,g2];have q1:sortedMN ((rotL k l).map λn=>(n,leafT 1))=sortedMN (l.map λn=>(n,leafT 1)) :=
   qHv (qBf _ (by rw[List.length_map]; omega)).1 (qBj _) (qBf _ (by rw[List.length_map]; omega)).1 (qBj _) (rp.map _) (by rw[List.map_map,show l.map ((λp:List UInt8×TT=>p.1)∘λn=>(n,leafT 1))=l from List.map_id l]; exact nd)
  have q2:sortedMG ((rotL k l).map λn=>⟨n,.nil,leafT 2⟩)=sortedMG (l.map λn=>⟨n,.nil,leafT 2⟩) :=
   qMJ (qBg _ (by rw[List.length_map]; omega)).1 (qBp _) (qBg _ (by rw[List.length_map]; omega)).1 (qBp _) (rp.map _) (by rw[List.map_map,show l.map ((λg:GS=>g.nm)∘λn=>⟨n,.nil,leafT 2⟩)=l from List.map_id l]; exact nd)
  rw[q1,q2]
 ·rw[e2];refine qSi 7 _ (by rw[qGm]; exact lE l hl) λp hp => ?_
  have hp:=(qBX _).mem_iff.1 hp;obtain⟨q,_,rfl⟩:=List.mem_map.1 hp;exact qFG _
 ·rw[g2];refine⟨qFG 2,?_,?_,λp hp => ?_,λp hp => ?_⟩
  ·show(slF _).list.length<=1000;rw[qDw,qDX,List.length_map]; omega
  ·show(slF _).list.length<=1000;rw[qDw,qDW,List.length_map]; omega
  ·have hp:p∈(slF (sortedMN (l.map λn=>(n,leafT 1)))).list:=hp;rw[qDw] at hp;obtain⟨n,_,rfl⟩:=List.mem_map.1 ((qBj _).mem_iff.1 hp);exact qFG 1
  ·have hp:p∈(slF (sortedMG (l.map λn=>⟨n,.nil,leafT 2⟩))).list:=hp;rw[qDw] at hp;obtain⟨n,_,rfl⟩:=List.mem_map.1 ((qBp _).mem_iff.1 hp);exact⟨Nat.zero_le _,λx hx=>(by cases hx),qFG 2⟩
theorem qNK(s:Sl Int)(t:Int)(tw:Bool):Om 6 [IsP s,kI t,kB tw] []=some (kB true,[]):=by
 refine(qAD rfl).trans ?_;show lim tab.get S 6 0 0 [IsP s,kI t,kB tw] h0=_;have u10:CAL 10 [] (kB true):=λ{β k h d}=>qAH 10 _ _ rfl qQm rfl
 obtain⟨v,h,N,e1⟩:=qF8 s t tw 8 0 [] (.p .nilslice) h0 (by omega) (by simp) (.inl ⟨rfl,rfl⟩);rw[List.drop_zero] at N;obtain⟨nd,ok,ll⟩:=qKw (s.list.take 8) [] List.nodup_nil (λn hn=>by cases hn);have ll:((s.list.take 8).foldl addN []).length<=8:=by
  have:(s.list.take 8).length<=8:=by rw[List.length_take]; omega
  simp only[List.length_nil] at ll;omega
 generalize (s.list.take 8).foldl addN []=l at *;rw[w6_0,b6_0];simp (maxSteps:=9999999) +contextual only[exa,rA,rB,rC,rD,rE,rF,rG,rH,rI,u10,if_false];refine e1.trans ?_;have LN:=λ{β:Type} {h':Heap} {d:Nat} {k:TVal->Heap->Option β}=>N.len (h':=h') (d:=d) (k:=k)
 by_cases hne:l=[]
 ·subst hne;have z:((([]:List Nm).length:Nat):Int)=0:=rfl;rw[z] at LN;rw[w6_5,b6_5];simp (maxSteps:=9999999) +contextual only[exa,rA,rB,rC,rD,rE,rF,rG,rH,rI,LN,oneOf]
 ·have hlen:1<=l.length:=List.length_pos_iff.2 hne;have z:¬ (l.length:Int)=0:=by omega
  have U:=λ{β:Type} {kk:TVal->Heap->Option β} {hh:Heap} {d:Nat}=>u19 (k:=kk) (h:=hh) (d:=d) t (l.length:Int) (by omega) (by omega)
  have hw:=qCy t (l.length:Int) (by omega);obtain⟨k,hk⟩:∃ k:Nat,withinM t (l.length:Int)=(k:Int):=⟨(withinM t (l.length:Int)).toNat,by omega⟩;rw[hk] at U hw;have e2:=qIc tw l ll ok v k (by omega) h N l.length 0 (by omega);have r0:recA (l.take 0)=[]:=rfl;have r1:recA ((rotL k l).take 0)=[]:=rfl;have s0:schA (l.take 0)=[100,97,116,97,32,73,110,116,59]:=rfl;have s1:schA ((rotL k l).take 0)=[100,97,116,97,32,73,110,116,59]:=rfl;rw[r0,r1,s0,s1] at e2;have z0:kI ((0:Nat):Int)=kI 0:=rfl;rw[z0] at e2;rw[w6_5,b6_5];simp (maxSteps:=9999999) +contextual only[exa,rA,rB,rC,rD,rE,rF,rG,rH,rI,LN,z,U,if_false];refine e2.trans ?_;obtain⟨n0,hn0⟩:∃ n,l[0]?=some n:=⟨l[0],by simp⟩;have AT:=λ{β:Type} {h':Heap} {k:TVal->Heap->Option β}=>N.at hn0 (h':=h') (k:=k)
  have m0:=List.mem_of_getElem? hn0;have ln:=qEu (ok n0 m0);obtain⟨⟨q1,q2⟩,⟨q3,q4⟩,q5⟩:=qOQ l hne nd ok ll k n0 m0;have okr:∀ n∈rotL k l,nmOK n:=λn hn=>ok n ((qD4 k l).mem_iff.1 hn)
  have lA:=qD0 l ok;have lB:=qD0 (rotL k l) okr;have lD:=qFd (rotL k l) okr;rw[qC0] at lB lD;cases tw with
  |false =>
   have fin:=qKd false (recA l) (recA (rotL k l)) (schA l) (schA (rotL k l)) (by omega) (by omega) h q1 q2 (λe=>by cases e) (λ_=>q5);rw[<- fin,w6_8,b6_8];simp (maxSteps:=9999999) +contextual only[exa,rA,rB,rC,rD,rE,rF,rG,rH,rI,if_false]
  |true =>
   have fin:=qKd true (recA l) (recA (rotL k l)++[44]++n0++[58,84,101,120,116]) (schA l) (schA (rotL k l)++fnB++n0++tyD) (by omega) (by simp; omega) h q1 q2 (λ_=>⟨q3,q4⟩) (λe=>by cases e);have z1:kI ((0:Nat):Int)=kI 0:=rfl;rw[z1] at AT;generalize recA (rotL k l)=b at *;generalize schA (rotL k l)=d at *;have big:∀ (x y:List UInt8),x.length<=2000->y.length<=2000->∀ {β:Type}{h:Heap}{k:TVal->Heap->Option β},vbin .add 0 (kS x) (kS y) h k=k (kS (x++y)) h:=λx y hx hy=>qLR x y (by omega)
   have V1:=λ{β:Type} {h:Heap} {k:TVal->Heap->Option β}=>big b [44] (by omega) (by decide) (β:=β) (h:=h) (k:=k)
   have V2:=λ{β:Type} {h:Heap} {k:TVal->Heap->Option β}=>big (b++[44]) n0 (by simp; omega) (by omega) (β:=β) (h:=h) (k:=k)
   have V3:=λ{β:Type} {h:Heap} {k:TVal->Heap->Option β}=>big (b++[44]++n0) [58,84,101,120,116] (by simp; omega) (by decide) (β:=β) (h:=h) (k:=k)
   have V4:=λ{β:Type} {h:Heap} {k:TVal->Heap->Option β}=>big d [102,110,32] (by omega) (by decide) (β:=β) (h:=h) (k:=k)
   have V5:=λ{β:Type} {h:Heap} {k:TVal->Heap->Option β}=>big (d++[102,110,32]) n0 (by simp; omega) (by omega) (β:=β) (h:=h) (k:=k)
   have V6:=λ{β:Type} {h:Heap} {k:TVal->Heap->Option β}=>big (d++[102,110,32]++n0) [40,41,45,62,73,110,116,59] (by simp; omega) (by decide) (β:=β) (h:=h) (k:=k)
   refine Eq.trans ?_ fin;rw[w6_8,b6_8];simp (maxSteps:=9999999) +contextual only[exa,rA,rB,rC,rD,rE,rF,rG,rH,rI,exR,exY,AT,V1,V2,V3,V4,V5,V6];rfl
theorem order_run(o:Option (List Int))(t:Int)(tw:Bool):orc S (lim tab.get S) 6 [.v (.c (.p (intsP .i64 o))),kI t,kB tw] []=some (kB true,[]):=by
 rw[qQp];exact qNK (mixI o) t tw
end Go.Proofs.YtnlmlcfipbnpgaaDoor.Ab
