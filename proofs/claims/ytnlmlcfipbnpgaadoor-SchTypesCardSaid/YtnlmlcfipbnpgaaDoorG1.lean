/- Own work. Condition: what each theorem names. -/
import Derived.Test.YtnlmlcfipbnpgaaDoorG0
set_option linter.all false
set_option maxRecDepth 100000
set_option maxHeartbeats 4000000
open Nat renaming reduceAdd->rA,reduceMul->rB,reduceLT->rC,reduceLeDiff->rD,reduceEqDiff->rE
open Int renaming reduceLT->rF,reduceLE->rG,reduceEq->rH,reduceToNat->rI
open Option renaming some.injEq->rJ,bind_eq_some_iff->rK,bind_eq_bind->rL
namespace Go.Proofs.YtnlmlcfipbnpgaaDoor.Ab
open Go Go.AI
theorem qCO{α:Type}(A:List α)(x:α)(C:List α):(A++x::C)[A.length]?=some x:=by simp
theorem qAd{α:Type}(A:List α)(x:α)(C:List α)(i:Nat)(h:i=A.length):(A++x::C)[i]?=some x:=by subst h; simp
section
variable {α:Type} [K:SK α]
theorem qAp{n:Nat}{l:List α}(hl:l.length=n){i:Nat}(hi:i<n)(p:α)(hp:l[i]?=some p):AtE K n l i p:=by
 obtain⟨q,A⟩:=atE n l hl i hi;have:=A.get;rw[hp] at this;cases this;exact A
theorem qOD(n:Nat)(hn:n<=1000)(b i0:Nat)(A C:List α)(x:α):∀ (k:Nat) (X1 X2:List α) (h:Heap),X1.length=k->(A++X1++x::X2++C).length=n->Ord (ltK K) (X1++X2)->(∀ y∈X2,(ltK K) x y=true)->h.get (.im 0)=some (RDE K (A++X1++x::X2++C)) ->
  ∃ h' Z,Ord (ltK K) Z/\Z.Perm (x::(X1++X2))/\h'.get (.im 0)=some (RDE K (A++Z++C))/\lim tab.get S K.fI 1 2 [sK K n,kI (A.length:Int),kI (b:Int),(fF K),kI (i0:Int),kI ((A.length+X1.length:Nat):Int)] h=lim tab.get S K.fI 1 3 [sK K n,kI (A.length:Int),kI (b:Int),(fF K),kI (i0:Int)] h'
 |0,X1,X2,h,hk,hl,o,hx,hg=>by
  have e:=List.length_eq_zero_iff.1 hk;subst e;refine⟨h,x::X2,List.pairwise_cons.2 ⟨λy hy=>(qT8 K) _ _ (hx y hy),o⟩,.refl _,by rw[hg]; simp,?_⟩;have t:¬ (A.length:Int)<(A.length:Int):=by omega
  rw[List.length_nil,Nat.add_zero,K.wI_2,gI_2];simp (maxSteps:=9^7) +contextual only[exa,rA,rB,rC,rD,rE,rF,rG,rH,rI,t,if_false]
 |k+1,X1,X2,h,hk,hl,o,hx,hg=>by
  obtain⟨W,y,rfl⟩:∃ W y,X1=W++[y]:=by
   have:X1≠[]:=λe=>by rw[e] at hk; cases hk
   exact⟨X1.dropLast,X1.getLast this,(List.dropLast_concat_getLast this).symm⟩
  have hW:W.length=k:=by rw[List.length_append,List.length_singleton] at hk; omega
  have hl':A.length+k+1+1+X2.length+C.length=n:=by rw[<- hl,<- hW]; simp only[List.length_append,List.length_cons,List.length_nil]; omega
  have ea:A++(W++[y])++x::X2++C=(A++W)++y::([]++x::(X2++C)):=by simp
  rw[ea] at hl hg;have hAW:(A++W).length=A.length+k:=by rw[List.length_append,hW]
  have B0:AtE K n ((A++W)++y::([]++x::(X2++C))) (A.length+k) y:=qAp hl (by omega) y (qAd _ _ _ _ hAW.symm)
  have B1:AtE K n ((A++W)++y::([]++x::(X2++C))) (A.length+k+1) x:=qAp hl (by omega) x (by
   have:=qCO (A++W++[y]) x (X2++C);rw[List.length_append,List.length_singleton,hAW] at this
   rw[<- this]; simp)
  obtain⟨s1,s2,s3⟩:=qCH hl B1 B0;have sw:=qCd (A++W) [] (X2++C) y x (qBn _ _ _ _ _);rw[List.length_nil,Nat.add_zero,hAW] at sw;rw[sw] at s2;have hlen:((A.length+(W++[y]).length:Nat):Int)=((A.length+k+1:Nat):Int):=by rw[List.length_append,List.length_singleton,hW]; rfl
  have t:(A.length:Int)<((A.length+k+1:Nat):Int):=by omega
  have ew:IntKind.i64.wrap (((A.length+k+1:Nat):Int) - 1)=((A.length+k:Nat):Int):=by rw[qBY _ (by omega) (by omega)]; rfl
  have hgp:=Heap.zput_self (o:=RDE K ((A++W++y::([]++x::(X2++C))).set (A.length+k+1) y)) hg (λe=>by cases e);rw[hlen];cases hb:bless (K.key x) (K.key y)
  ·have ox:∀ z∈W++[y],(ltK K) x z=false:=λz hz=>(qT6 K) z y x (qD1 (ltK K) (qT6 K) (qUF K) (W++[y]) (List.pairwise_append.1 o).1 y (by simp) z hz) hb
   have M:=qFF (ltK K) (qT8 K) (qT6 K) x (W++[y]) X2 o ox hx;refine⟨h,W++[y]++x::X2,M.ord,M.prm.trans (List.perm_append_comm (l₁:=W++[y]++X2) (l₂:=[x])),by rw[hg]; simp,?_⟩;rw[K.wI_2,gI_2];simp (maxSteps:=9^7) +contextual only[exa,rA,rB,rC,rD,rE,rF,rG,rH,rI,exW,exY,t,ew,B0.lt,B0.le,B0.row,B0.len,B1.lt,B1.le,B1.row,B1.len,Int.toNat_natCast,hg,qT9,qAX,hb,if_false]
  ·have hg2:=Heap.zput_self (o:=RDE K ((A++W)++x::([]++y::(X2++C)))) hgp (λe=>by cases e);have eb:(A++W)++x::([]++y::(X2++C))=A++W++x::(y::X2)++C:=by simp
   rw[eb] at hg2 s2
   obtain⟨h',Z,oZ,pZ,gZ,eZ⟩:=qOD n hn b i0 A C x k W (y::X2) _ hW (by rw[<- hl]; simp only[List.length_append,List.length_cons,List.length_nil]; omega) (by have:=o; rw[List.append_assoc] at this; exact this) (λz hz=>by
    rcases List.mem_cons.1 hz with rfl|hz
    ·exact hb
    ·exact hx z hz) hg2
   refine⟨h',Z,oZ,(by rw[show W++[y]++X2=W++y::X2 by simp]; exact pZ),gZ,?_⟩;rw[<- eZ,hW,K.wI_2,gI_2];simp (maxSteps:=9^7) +contextual only[exa,rA,rB,rC,rD,rE,rF,rG,rH,rI,exW,exY,t,ew,B0.lt,B0.le,B0.row,B0.len,B0.fit,B1.lt,B1.le,B1.row,B1.len,B1.fit,Int.toNat_natCast,hg,qT9,qAX,hb,s1,s2,s3,hgp,Nat.zero_le,if_false]
theorem qJW(n:Nat)(hn:n<=1000)(A D:List α):∀ (C Z:List α) (h:Heap),(A++Z++C++D).length=n->Ord (ltK K) Z->h.get (.im 0)=some (RDE K (A++Z++C++D)) ->
  ∃ Z',Ord (ltK K) Z'/\Z'.Perm (Z++C)/\lim tab.get S K.fI 1 1 [sK K n,kI (A.length:Int),kI ((A.length+Z.length+C.length:Nat):Int),(fF K),kI ((A.length+Z.length:Nat):Int)] h=some (.tup [],[RDE K (A++Z'++D)])
 |[],Z,h,hl,o,hg=>by
  refine⟨Z,o,by rw[List.append_nil],?_⟩;rw[List.append_nil] at hg;have t:¬ ((A.length+Z.length:Nat):Int)<((A.length+Z.length:Nat):Int):=by omega
  have fin:=qAP true [] _ rfl hg (qAB _ 0);rw[List.length_nil,Nat.add_zero,K.wI_1,gI_1];simp (maxSteps:=9^7) +contextual only[exa,rA,rB,rC,rD,rE,rF,rG,rH,rI,t,fin,if_false,oneOf]
 |x::C,Z,h,hl,o,hg=>by
  have hl':A.length+Z.length+(C.length+1)+D.length=n:=by rw[<- hl]; simp only[List.length_append,List.length_cons]
  have t:((A.length+Z.length:Nat):Int)<((A.length+Z.length+(x::C).length:Nat):Int):=by rw[List.length_cons]; omega
  have ea:A++Z++x::C++D=A++Z++x::[]++(C++D):=by simp
  rw[ea] at hg hl;obtain⟨h',Z1,oZ,pZ,gZ,eZ⟩:=qOD n hn (A.length+Z.length+(x::C).length) (A.length+Z.length) A (C++D) x Z.length Z [] h rfl hl (by rw[List.append_nil]; exact o) (λy hy=>by cases hy) hg;have lZ:Z1.length=Z.length+1:=by rw[pZ.length_eq,List.append_nil,List.length_cons]
  have eb:A++Z1++(C++D)=A++Z1++C++D:=by simp
  rw[eb] at gZ;obtain⟨Z',o',p',e'⟩:=qJW n hn A D C Z1 h' (by simp only[List.length_append]; omega) oZ gZ;refine⟨Z',o',p'.trans ?_,?_⟩
  ·rw[List.append_nil] at pZ;exact(pZ.append_right C).trans (List.perm_middle (a:=x) (l₁:=Z) (l₂:=C)).symm
  ·rw[<- e',K.wI_1,gI_1];have ew:=qAq (A.length+Z.length) (by omega);have e1:((A.length+Z.length+(x::C).length:Nat):Int)=((A.length+Z1.length+C.length:Nat):Int):=by rw[List.length_cons,lZ]; congr 1; omega
   have e2:((A.length+Z.length+1:Nat):Int)=((A.length+Z1.length:Nat):Int):=by rw[lZ]; rfl
   rw[qAT,qAM,if_pos (decide_eq_true t),eZ,K.wI_3,gI_3,qAZ,ew,e1,e2]
theorem qN6(n:Nat)(hn:n<=1000)(A X D:List α)(hl:(A++X++D).length=n) :
  ∃ Z,Ord (ltK K) Z/\Z.Perm X/\Om K.fI [sK K n,kI (A.length:Int),kI ((A.length+X.length:Nat):Int),(fF K)] [RDE K (A++X++D)]=some (.tup [],[RDE K (A++Z++D)]):=by
 have hl':A.length+X.length+D.length=n:=by rw[<- hl]; simp only[List.length_append]
 have ew:=qAq A.length (by omega);cases X with
 |nil =>
  refine⟨[],List.Pairwise.nil,.refl _,(qAD (K.nI _ _)).trans ?_⟩;show lim tab.get S K.fI 1 0 _ (hpE K (A++[]++D))=_;have t:¬ ((A.length+1:Nat):Int)<(A.length:Int):=by omega
  have fin:=qAP true [] (RDE K (A++[]++D)) rfl (h:=hpE K (A++[]++D)) rfl (qAB _ 0);rw[List.length_nil,Nat.add_zero,K.wI_0,gI_0,qAZ,ew,K.wI_1,gI_1];simp (maxSteps:=9^7) +contextual only[exa,rA,rB,rC,rD,rE,rF,rG,rH,rI,t,fin,if_false,oneOf]
 |cons x C =>
  have ea:A++x::C++D=A++[x]++C++D:=by simp
  rw[ea] at hl ⊢;obtain⟨Z,o,p,e⟩:=qJW n hn A D C [x] (hpE K (A++[x]++C++D)) hl (List.pairwise_singleton _ _) rfl;refine⟨Z,o,p,(qAD (K.nI _ _)).trans ?_⟩;show lim tab.get S K.fI 1 0 _ (hpE K (A++[x]++C++D))=_;rw[K.wI_0,gI_0,qAZ,ew];have e1:((A.length+(x::C).length:Nat):Int)=((A.length+[x].length+C.length:Nat):Int):=by rw[List.length_cons,List.length_singleton]; congr 1; omega
  rw[e1];exact e
theorem q148{β:Type}{k:KO β}{h:Heap}{d:Nat}(n a b:Nat)(l l':List α)(hc:Om K.fI [sK K n,kI (a:Int),kI (b:Int),(fF K)] [RDE K l]=some (.tup [],[RDE K l']))(hg:h.get (.im 0)=some (RDE K l)):vcall Om (.v (.c (.func K.fI []))) [sK K n,kI (a:Int),kI (b:Int),(fF K)] h d k=k (.tup []) (h.put (.im 0) (RDE K l')) :=
 qAh K.fI (.im 0) [sK K n,kI (a:Int),kI (b:Int),(fF K)] _ _ _ _ rfl rfl rfl hg (qAB _ 0) (qAB _ 0) (λ_=>rfl) hc
theorem bs1(n:Nat)(hn:n<=1000)(A C:List α)(x:α):∀ (k:Nat) (Y1 Ym Y2:List α) (h:Heap),Ym.length<=k->(A++x::(Y1++Ym++Y2)++C).length=n->Ord (ltK K) (Y1++Ym++Y2)->(∀ y∈Y1,(ltK K) y x=true)->(∀ y∈Y2,(ltK K) y x=false)->h.get (.im 0)=some (RDE K (A++x::(Y1++Ym++Y2)++C)) ->
  ∃ V1 V2,Y1++Ym++Y2=V1++V2/\(∀ y∈V1,(ltK K) y x=true)/\(∀ y∈V2,(ltK K) y x=false)/\lim tab.get S K.fM 1 1 [sK K n,kI (A.length:Int),(fF K),kI ((A.length+1+Y1.length:Nat):Int),kI ((A.length+1+Y1.length+Ym.length:Nat):Int)] h=lim tab.get S K.fM 1 2 [sK K n,kI (A.length:Int),kI ((A.length+1+V1.length:Nat):Int)] h
 |k,Y1,[],Y2,h,hk,hl,o,h1,h2,hg=>by
  refine⟨Y1,Y2,by simp,h1,h2,?_⟩;have t:¬ ((A.length+1+Y1.length:Nat):Int)<((A.length+1+Y1.length:Nat):Int):=by omega
  rw[List.length_nil,Nat.add_zero,K.wM_1,gM_1];simp (maxSteps:=9^7) +contextual only[exa,rA,rB,rC,rD,rE,rF,rG,rH,rI,t,if_false]
 |0,Y1,_::_,Y2,h,hk,hl,o,h1,h2,hg=>by simp at hk
 |k+1,Y1,u::Ym,Y2,h,hk,hl,o,h1,h2,hg=>by
  generalize hY:u::Ym=M at *;have hM:1<=M.length:=by rw[<- hY]; simp
  have hl':A.length+1+(Y1.length+M.length+Y2.length)+C.length=n:=by rw[<- hl]; simp only[List.length_append,List.length_cons]; omega
  obtain⟨j,hj⟩:∃ j,j=(A.length+1+Y1.length+(A.length+1+Y1.length+M.length)) / 2:=⟨_,rfl⟩;have j1:A.length+1+Y1.length<=j:=by omega
  have j2:j<A.length+1+Y1.length+M.length:=by omega
  obtain⟨M1,y,M2,e,hm⟩:∃ M1 y M2,M=M1++y::M2/\M1.length=j - (A.length+1+Y1.length):=by
   refine⟨M.take (j - (A.length+1+Y1.length)),M[j - (A.length+1+Y1.length)]'(by omega),M.drop (j - (A.length+1+Y1.length)+1),?_,by rw[List.length_take]; omega⟩;rw[<- List.drop_eq_getElem_cons (by omega),List.take_append_drop]
  subst e;have ea:A++x::(Y1++(M1++y::M2)++Y2)++C=(A++x::(Y1++M1))++y::(M2++Y2++C):=by simp
  have eb:A++x::(Y1++(M1++y::M2)++Y2)++C=A++x::(Y1++(M1++y::M2)++Y2++C):=by simp
  have hLen:(M1++y::M2).length=M1.length+1+M2.length:=by simp only[List.length_append,List.length_cons]; omega
  rw[hLen] at hk hM hl' hj j2 ⊢;have Bx:AtE K n (A++x::(Y1++(M1++y::M2)++Y2)++C) A.length x:=qAp hl (by omega) x (by rw[eb]; exact qCO _ _ _);have By:AtE K n (A++x::(Y1++(M1++y::M2)++Y2)++C) j y:=qAp hl (by omega) y (by rw[ea]; exact qAd _ _ _ _ (by simp only[List.length_append,List.length_cons]; omega));have t:((A.length+1+Y1.length:Nat):Int)<((A.length+1+Y1.length+(M1.length+1+M2.length):Nat):Int):=by omega
  have hf:=λ{β:Type} {h:Heap} {k:KO β}=>qBF (β:=β) (h:=h) (k:=k) (A.length+1+Y1.length) (A.length+1+Y1.length+(M1.length+1+M2.length)) (by omega) (by omega)
  rw[<- hj] at hf;have o':=o;rw[List.append_assoc,List.append_assoc] at o';have o1:=(List.pairwise_append.1 (List.pairwise_append.1 o').2.1);have step:lim tab.get S K.fM 1 1 [sK K n,kI (A.length:Int),(fF K),kI ((A.length+1+Y1.length:Nat):Int),kI ((A.length+1+Y1.length+(M1.length+1+M2.length):Nat):Int)] h =
    if bless (K.key y) (K.key x)=true then lim tab.get S K.fM 1 1 [sK K n,kI (A.length:Int),(fF K),kI ((j+1:Nat):Int),kI ((A.length+1+Y1.length+(M1.length+1+M2.length):Nat):Int)] h
    else lim tab.get S K.fM 1 1 [sK K n,kI (A.length:Int),(fF K),kI ((A.length+1+Y1.length:Nat):Int),kI (j:Int)] h:=by
   have ew:=qAq j (by omega);rw[K.wM_1,gM_1,qAT,qAM,if_pos (decide_eq_true t),hf];cases hb:bless (K.key y) (K.key x)
   ·simp (maxSteps:=9^7) +contextual only[exa,rA,rB,rC,rD,rE,rF,rG,rH,rI,exW,exY,ew,Bx.lt,Bx.le,Bx.row,Bx.len,By.lt,By.le,By.row,By.len,Int.toNat_natCast,hg,qT9,qAX,hb,Bool.false_eq_true,if_false]
   ·simp (maxSteps:=9^7) +contextual only[exa,rA,rB,rC,rD,rE,rF,rG,rH,rI,exW,exY,ew,Bx.lt,Bx.le,Bx.row,Bx.len,By.lt,By.le,By.row,By.len,Int.toNat_natCast,hg,qT9,qAX,hb,if_true]
  rw[step];cases hb:bless (K.key y) (K.key x)
  ·rw[if_neg (by decide)];have ec:Y1++(M1++y::M2)++Y2=Y1++M1++(y::M2++Y2):=by simp
   rw[ec] at hl hg o ⊢
   obtain⟨V1,V2,q1,q2,q3,q4⟩:=bs1 n hn A C x k Y1 M1 (y::M2++Y2) h (by omega) hl o h1 (λz hz=>by
    rcases List.mem_cons.1 hz with rfl|hz
    ·exact hb
    ·rcases List.mem_append.1 hz with hz|hz
     ·have:=(List.pairwise_append.1 o1.2.1).1;have oo:(ltK K) z y=false:=(List.pairwise_cons.1 o1.2.1).1 z (List.mem_append.2 (.inl hz));exact(qT6 K) x y z hb oo
     ·exact h2 z hz) hg
   refine⟨V1,V2,q1,q2,q3,?_⟩;rw[<- q4];have:A.length+1+Y1.length+M1.length=j:=by omega
   rw[this]
  ·rw[if_pos rfl];have ec:Y1++(M1++y::M2)++Y2=(Y1++M1++[y])++M2++Y2:=by simp
   rw[ec] at hl hg o ⊢
   obtain⟨V1,V2,q1,q2,q3,q4⟩:=bs1 n hn A C x k (Y1++M1++[y]) M2 Y2 h (by omega) hl o (λz hz=>by
    rcases List.mem_append.1 hz with hz|hz
    ·rcases List.mem_append.1 hz with hz|hz
     ·exact h1 z hz
     ·have oo:(ltK K) y z=false:=o1.2.2 z hz y (by simp);cases hc:(ltK K) z x
      ·have:=(qT6 K) x z y hc oo;rw[show(ltK K) y x=true from hb] at this; cases this
      ·rfl
    ·rw[List.mem_singleton.1 hz]; exact hb) h2 hg
   refine⟨V1,V2,q1,q2,q3,?_⟩;rw[<- q4];have e1:A.length+1+(Y1++M1++[y]).length=j+1:=by simp only[List.length_append,List.length_singleton]; omega
   have e2:j+1+M2.length=A.length+1+Y1.length+(M1.length+1+M2.length):=by omega
   rw[e1,e2]
end
section
variable {α:Type} [K:SK α]
theorem shf1(n:Nat)(hn:n<=1000)(x:α)(D:List α):∀ (V A:List α) (h:Heap),(A++x::(V++D)).length=n->h.get (.im 0)=some (RDE K (A++x::(V++D))) ->
  lim tab.get S K.fM 1 3 [sK K n,kI ((A.length+V.length+1:Nat):Int),kI (A.length:Int)] h=some (.tup [],[RDE K (A++V++x::D)])
 |[],A,h,hl,hg=>by
  have hl':A.length+1+D.length=n:=by rw[<- hl]; simp only[List.length_append,List.length_cons,List.length_nil]; omega
  have t:¬ (A.length:Int)<(A.length:Int):=by omega
  have ew:IntKind.i64.wrap (((A.length+1:Nat):Int) - 1)=(A.length:Int):=by rw[qBY _ (by omega) (by omega)]; rfl
  have fin:=qAP true [] _ rfl hg (qAB _ 0);have e:A++x::([]++D)=A++[]++x::D:=by simp
  rw[List.length_nil,Nat.add_zero,K.wM_3,gM_3];simp (maxSteps:=9^7) +contextual only[exa,rA,rB,rC,rD,rE,rF,rG,rH,rI,ew,t,if_false];rw[K.wM_4,gM_4,fin,e];rfl
 |v::V,A,h,hl,hg=>by
  have hl':A.length+1+(V.length+1+D.length)=n:=by rw[<- hl]; simp only[List.length_append,List.length_cons]; omega
  rw[List.cons_append] at hl hg;have ea:A++x::v::(V++D)=A++x::([]++v::(V++D)):=rfl;rw[ea] at hl hg;have B0:AtE K n (A++x::([]++v::(V++D))) A.length x:=qAp hl (by omega) x (qCO _ _ _)
  have B1:AtE K n (A++x::([]++v::(V++D))) (A.length+1) v:=qAp hl (by omega) v (by
   have:=qAd (A++[x]) v (V++D) (A.length+1) (by simp)
   rw[<- this]; simp)
  obtain⟨s1,s2,s3⟩:=qCH hl B0 B1;have sw:=qBn A [] (V++D) x v;rw[List.length_nil,Nat.add_zero] at sw;rw[sw] at s2;have hgp:=Heap.zput_self (o:=RDE K ((A++x::([]++v::(V++D))).set A.length v)) hg (λe=>by cases e);have hg2:=Heap.zput_self (o:=RDE K (A++v::([]++x::(V++D)))) hgp (λe=>by cases e);have eb:A++v::([]++x::(V++D))=(A++[v])++x::(V++D):=by simp
  rw[eb] at hg2 s2;have ih:=shf1 n hn x D V (A++[v]) _ (by simp only[List.length_append,List.length_cons,List.length_nil]; omega) hg2;have ec:A++[v]++V++x::D=A++v::V++x::D:=by simp
  rw[ec] at ih;refine Eq.trans ?_ ih;have e1:(A++[v]).length=A.length+1:=by simp
  rw[e1,List.length_cons];have t:(A.length:Int)<((A.length+(V.length+1):Nat):Int):=by omega
  have ew:IntKind.i64.wrap (((A.length+(V.length+1)+1:Nat):Int) - 1)=((A.length+(V.length+1):Nat):Int):=by rw[qBY _ (by omega) (by omega)]; rfl
  have es:=qAq A.length (by omega);have en:A.length+1+V.length+1=A.length+(V.length+1)+1:=by omega
  rw[en,K.wM_3,gM_3];simp (maxSteps:=9^7) +contextual only[exa,rA,rB,rC,rD,rE,rF,rG,rH,rI,exW,exY,ew,es,t,B0.lt,B0.le,B0.row,B0.len,B0.fit,B1.lt,B1.le,B1.row,B1.len,B1.fit,Int.toNat_natCast,hg,s1,s2,s3,hgp,Nat.zero_le,if_false]
theorem shf2(n:Nat)(hn:n<=1000)(y:α)(A:List α):∀ (k:Nat) (V D:List α) (h:Heap),V.length=k->(A++V++y::D).length=n->h.get (.im 0)=some (RDE K (A++V++y::D)) ->
  lim tab.get S K.fM 1 8 [sK K n,kI (A.length:Int),kI ((A.length+V.length:Nat):Int)] h=some (.tup [],[RDE K (A++y::(V++D))])
 |0,V,D,h,hk,hl,hg=>by
  have e:=List.length_eq_zero_iff.1 hk;subst e;have t:¬ (A.length:Int)<(A.length:Int):=by omega
  have fin:=qAP true [] _ rfl hg (qAB _ 0);have e:A++[]++y::D=A++y::([]++D):=by simp
  rw[List.length_nil,Nat.add_zero,K.wM_8,gM_8];simp (maxSteps:=9^7) +contextual only[exa,rA,rB,rC,rD,rE,rF,rG,rH,rI,t,if_false];rw[K.wM_9,gM_9,fin,e];rfl
 |k+1,V,D,h,hk,hl,hg=>by
  obtain⟨W,u,rfl⟩:∃ W u,V=W++[u]:=by
   have:V≠[]:=λe=>by rw[e] at hk; cases hk
   exact⟨V.dropLast,V.getLast this,(List.dropLast_concat_getLast this).symm⟩
  have hW:W.length=k:=by rw[List.length_append,List.length_singleton] at hk; omega
  have hl':A.length+k+1+1+D.length=n:=by rw[<- hl,<- hW]; simp only[List.length_append,List.length_cons,List.length_nil]; omega
  have ea:A++(W++[u])++y::D=(A++W)++u::([]++y::D):=by simp
  rw[ea] at hl hg;have hAW:(A++W).length=A.length+k:=by rw[List.length_append,hW]
  have B0:AtE K n ((A++W)++u::([]++y::D)) (A.length+k) u:=qAp hl (by omega) u (qAd _ _ _ _ hAW.symm)
  have B1:AtE K n ((A++W)++u::([]++y::D)) (A.length+k+1) y:=qAp hl (by omega) y (by
   have:=qAd (A++W++[u]) y D (A.length+k+1) (by rw[List.length_append,hAW]; rfl)
   rw[<- this]; simp)
  obtain⟨s1,s2,s3⟩:=qCH hl B1 B0;have sw:=qCd (A++W) [] D u y (qBn _ _ _ _ _);rw[List.length_nil,Nat.add_zero,hAW] at sw;rw[sw] at s2;have hgp:=Heap.zput_self (o:=RDE K ((A++W++u::([]++y::D)).set (A.length+k+1) u)) hg (λe=>by cases e);have hg2:=Heap.zput_self (o:=RDE K ((A++W)++y::([]++u::D))) hgp (λe=>by cases e);have ih:=shf2 n hn y A k W (u::D) _ hW (by rw[<- hl]; simp only[List.length_append,List.length_cons,List.length_nil]; omega) hg2;have ec:A++y::(W++u::D)=A++y::(W++[u]++D):=by simp
  rw[ec] at ih;refine Eq.trans ?_ ih;have hlen:((A.length+(W++[u]).length:Nat):Int)=((A.length+k+1:Nat):Int):=by rw[List.length_append,List.length_singleton,hW]; rfl
  have t:(A.length:Int)<((A.length+k+1:Nat):Int):=by omega
  have ew:IntKind.i64.wrap (((A.length+k+1:Nat):Int) - 1)=((A.length+k:Nat):Int):=by rw[qBY _ (by omega) (by omega)]; rfl
  rw[hlen,hW,K.wM_8,gM_8];simp (maxSteps:=9^7) +contextual only[exa,rA,rB,rC,rD,rE,rF,rG,rH,rI,exW,exY,ew,t,B0.lt,B0.le,B0.row,B0.len,B0.fit,B1.lt,B1.le,B1.row,B1.len,B1.fit,Int.toNat_natCast,hg,s1,s2,s3,hgp,Nat.zero_le,if_false]
theorem bs2(n:Nat)(hn:n<=1000)(A C:List α)(y:α):∀ (k:Nat) (X1 Xm X2:List α) (h:Heap),Xm.length<=k->(A++(X1++Xm++X2)++y::C).length=n->Ord (ltK K) (X1++Xm++X2)->(∀ x∈X1,(ltK K) y x=false)->(∀ x∈X2,(ltK K) y x=true)->h.get (.im 0)=some (RDE K (A++(X1++Xm++X2)++y::C)) ->
  ∃ V1 V2,X1++Xm++X2=V1++V2/\(∀ x∈V1,(ltK K) y x=false)/\(∀ x∈V2,(ltK K) y x=true)/\lim tab.get S K.fM 1 6 [sK K n,kI ((A.length+(X1++Xm++X2).length:Nat):Int),(fF K),kI ((A.length+X1.length:Nat):Int),kI ((A.length+X1.length+Xm.length:Nat):Int)] h=lim tab.get S K.fM 1 7 [sK K n,kI ((A.length+(X1++Xm++X2).length:Nat):Int),kI ((A.length+V1.length:Nat):Int)] h
 |k,X1,[],X2,h,hk,hl,o,h1,h2,hg=>by
  refine⟨X1,X2,by simp,h1,h2,?_⟩;have t:¬ ((A.length+X1.length:Nat):Int)<((A.length+X1.length:Nat):Int):=by omega
  rw[List.length_nil,Nat.add_zero,K.wM_6,gM_6];simp (maxSteps:=9^7) +contextual only[exa,rA,rB,rC,rD,rE,rF,rG,rH,rI,t,if_false]
 |0,X1,_::_,X2,h,hk,hl,o,h1,h2,hg=>by simp at hk
 |k+1,X1,u::Xm,X2,h,hk,hl,o,h1,h2,hg=>by
  generalize hY:u::Xm=M at *;have hM:1<=M.length:=by rw[<- hY]; simp
  have hl':A.length+(X1.length+M.length+X2.length)+1+C.length=n:=by rw[<- hl]; simp only[List.length_append,List.length_cons]; omega
  obtain⟨j,hj⟩:∃ j,j=(A.length+X1.length+(A.length+X1.length+M.length)) / 2:=⟨_,rfl⟩;have j1:A.length+X1.length<=j:=by omega
  have j2:j<A.length+X1.length+M.length:=by omega
  obtain⟨M1,x,M2,e,hm⟩:∃ M1 x M2,M=M1++x::M2/\M1.length=j - (A.length+X1.length):=by
   refine⟨M.take (j - (A.length+X1.length)),M[j - (A.length+X1.length)]'(by omega),M.drop (j - (A.length+X1.length)+1),?_,by rw[List.length_take]; omega⟩;rw[<- List.drop_eq_getElem_cons (by omega),List.take_append_drop]
  subst e;have ea:A++(X1++(M1++x::M2)++X2)++y::C=(A++(X1++M1))++x::(M2++X2++y::C):=by simp
  have hLen:(M1++x::M2).length=M1.length+1+M2.length:=by simp only[List.length_append,List.length_cons]; omega
  have hXL:(X1++(M1++x::M2)++X2).length=X1.length+(M1.length+1+M2.length)+X2.length:=by rw[List.length_append,List.length_append,hLen]
  rw[hLen] at hk hM hl' hj j2;have Bx:AtE K n (A++(X1++(M1++x::M2)++X2)++y::C) j x:=qAp hl (by omega) x (by rw[ea]; exact qAd _ _ _ _ (by simp only[List.length_append,List.length_cons]; omega));have By:AtE K n (A++(X1++(M1++x::M2)++X2)++y::C) (A.length+(X1++(M1++x::M2)++X2).length) y:=qAp hl (by rw[hXL]; omega) y (qAd _ _ _ _ List.length_append.symm);have hf:=λ{β:Type} {h:Heap} {k:KO β}=>qBF (β:=β) (h:=h) (k:=k) (A.length+X1.length) (A.length+X1.length+(M1.length+1+M2.length)) (by omega) (by omega)
  rw[<- hj] at hf;have t:((A.length+X1.length:Nat):Int)<((A.length+X1.length+(M1.length+1+M2.length):Nat):Int):=by omega
  have o':=o;rw[List.append_assoc,List.append_assoc] at o';have o1:=(List.pairwise_append.1 (List.pairwise_append.1 o').2.1);have step:∀ w:Nat,AtE K n (A++(X1++(M1++x::M2)++X2)++y::C) w y->lim tab.get S K.fM 1 6 [sK K n,kI (w:Int),(fF K),kI ((A.length+X1.length:Nat):Int),kI ((A.length+X1.length+(M1.length+1+M2.length):Nat):Int)] h =
    if bless (K.key y) (K.key x)=true then lim tab.get S K.fM 1 6 [sK K n,kI (w:Int),(fF K),kI ((A.length+X1.length:Nat):Int),kI (j:Int)] h
    else lim tab.get S K.fM 1 6 [sK K n,kI (w:Int),(fF K),kI ((j+1:Nat):Int),kI ((A.length+X1.length+(M1.length+1+M2.length):Nat):Int)] h:=by
   intro w By;have ew:=qAq j (by omega);rw[K.wM_6,gM_6,qAT,qAM,if_pos (decide_eq_true t),hf];cases hb:bless (K.key y) (K.key x)
   ·simp (maxSteps:=9^7) +contextual only[exa,rA,rB,rC,rD,rE,rF,rG,rH,rI,exW,exY,ew,Bx.lt,Bx.le,Bx.row,Bx.len,By.lt,By.le,By.row,By.len,Int.toNat_natCast,hg,qT9,qAX,hb,Bool.false_eq_true,if_false]
   ·simp (maxSteps:=9^7) +contextual only[exa,rA,rB,rC,rD,rE,rF,rG,rH,rI,exW,exY,ew,Bx.lt,Bx.le,Bx.row,Bx.len,By.lt,By.le,By.row,By.len,Int.toNat_natCast,hg,qT9,qAX,hb,if_true]
  have step:=step _ By;rw[hLen,step];cases hb:bless (K.key y) (K.key x)
  ·rw[if_neg (by decide)];have ec:X1++(M1++x::M2)++X2=(X1++M1++[x])++M2++X2:=by simp
   rw[ec] at hl hg o ⊢
   obtain⟨V1,V2,q1,q2,q3,q4⟩:=bs2 n hn A C y k (X1++M1++[x]) M2 X2 h (by omega) hl o (λz hz=>by
    rcases List.mem_append.1 hz with hz|hz
    ·rcases List.mem_append.1 hz with hz|hz
     ·exact h1 z hz
     ·have oo:(ltK K) x z=false:=o1.2.2 z hz x (by simp);exact(qT6 K) z x y oo hb
    ·rw[List.mem_singleton.1 hz]; exact hb) h2 hg
   refine⟨V1,V2,q1,q2,q3,?_⟩;rw[<- q4];have e1:A.length+(X1++M1++[x]).length=j+1:=by simp only[List.length_append,List.length_singleton]; omega
   have e2:j+1+M2.length=A.length+X1.length+(M1.length+1+M2.length):=by omega
   rw[e1,e2]
  ·rw[if_pos rfl];have ec:X1++(M1++x::M2)++X2=X1++M1++(x::M2++X2):=by simp
   rw[ec] at hl hg o ⊢
   obtain⟨V1,V2,q1,q2,q3,q4⟩:=bs2 n hn A C y k X1 M1 (x::M2++X2) h (by omega) hl o h1 (λz hz=>by
    rcases List.mem_cons.1 hz with rfl|hz
    ·exact hb
    ·rcases List.mem_append.1 hz with hz|hz
     ·have oo:(ltK K) z x=false:=(List.pairwise_cons.1 o1.2.1).1 z (List.mem_append.2 (.inl hz));cases hc:(ltK K) y z
      ·have:=(qT6 K) x z y oo hc;rw[show(ltK K) y x=true from hb] at this; cases this
      ·rfl
     ·exact h2 z hz) hg
   refine⟨V1,V2,q1,q2,q3,?_⟩;rw[<- q4];have:A.length+X1.length+M1.length=j:=by omega
   rw[this]
def splE(K:SK α)(l:List α)(p c:Nat):Bool:=match l[p - c]?,l[c]? with
 |some u,some v=>(ltK K) u v
 |_,_=>true
theorem bs3(N:Nat)(hN:N<=1000)(l:List α)(hl:l.length=N)(a m b mid nn lo hi p:Nat)(hp:p<=3000)(hr:∀ c,lo<=c->c<hi->c<=p/\p - c<N/\c<N)(hhi:hi<=N)(h:Heap)(hg:h.get (.im 0)=some (RDE K l)):∀ (k s r:Nat),r - s<=k->lo<=s->s<=r->r<=hi->(s=lo\/splE K l p (s - 1)=false)->(r=hi\/splE K l p r=true) ->
  ∃ t,lo<=t/\t<=hi/\(t=lo\/splE K l p (t - 1)=false)/\(t=hi\/splE K l p t=true) /\
   lim tab.get S K.fM 1 12 [sK K N,kI (a:Int),kI (m:Int),kI (b:Int),(fF K),kI (mid:Int),kI (nn:Int),kI (s:Int),kI (r:Int),kI (p:Int)] h=lim tab.get S K.fM 1 13 [sK K N,kI (a:Int),kI (m:Int),kI (b:Int),(fF K),kI (mid:Int),kI (nn:Int),kI (t:Int)] h
 |k,s,r,hk,h1,h2,h3,i1,i2=>by
  by_cases e:s=r
  ·subst e;refine⟨s,h1,h3,i1,i2,?_⟩;have t:¬ (s:Int)<(s:Int):=by omega
   rw[K.wM_12,gM_12];simp (maxSteps:=9^7) +contextual only[exa,rA,rB,rC,rD,rE,rF,rG,rH,rI,t,if_false]
  ·cases k with
   |zero=>omega
   |succ k =>
    have t:(s:Int)<(r:Int):=by omega
    obtain⟨c,hc⟩:∃ c,c=(s+r) / 2:=⟨_,rfl⟩;have c1:s<=c:=by omega
    have c2:c<r:=by omega
    obtain⟨q1,q2,q3⟩:=hr c (by omega) (by omega);obtain⟨u,Bu⟩:=atE N l hl (p - c) q2;obtain⟨v,Bv⟩:=atE N l hl c q3;have hf:=λ{β:Type} {h:Heap} {k:KO β}=>qBF (β:=β) (h:=h) (k:=k) s r (by omega) (by omega)
    rw[<- hc] at hf;have ew:=qAq c (by omega);have es:=qAW p c (by omega) q1;have hs:splE K l p c=bless (K.key u) (K.key v):=by unfold splE; rw[Bu.get,Bv.get]; rfl
    cases hb:bless (K.key u) (K.key v)
    ·obtain⟨t',r1,r2,r3,r4,r5⟩:=bs3 N hN l hl a m b mid nn lo hi p hp hr hhi h hg k (c+1) r (by omega) (by omega) (by omega) h3 (.inr (by rw[Nat.add_sub_cancel,hs,hb])) i2;refine⟨t',r1,r2,r3,r4,?_⟩;rw[<- r5,K.wM_12,gM_12,qAT,qAM,if_pos (decide_eq_true t),hf];simp (maxSteps:=9^7) +contextual only[exa,rA,rB,rC,rD,rE,rF,rG,rH,rI,exW,exY,ew,es,Bu.lt,Bu.le,Bu.row,Bu.len,Bv.lt,Bv.le,Bv.row,Bv.len,Int.toNat_natCast,hg,qT9,qAX,hb,Bool.false_eq_true,if_false]
    ·obtain⟨t',r1,r2,r3,r4,r5⟩:=bs3 N hN l hl a m b mid nn lo hi p hp hr hhi h hg k s c (by omega) h1 c1 (by omega) i1 (.inr (by rw[hs,hb]));refine⟨t',r1,r2,r3,r4,?_⟩;rw[<- r5,K.wM_12,gM_12,qAT,qAM,if_pos (decide_eq_true t),hf];simp (maxSteps:=9^7) +contextual only[exa,rA,rB,rC,rD,rE,rF,rG,rH,rI,exW,exY,ew,es,Bu.lt,Bu.le,Bu.row,Bu.len,Bv.lt,Bv.le,Bv.row,Bv.len,Int.toNat_natCast,hg,qT9,qAX,hb,if_true]
end
section
variable {α:Type} [K:SK α]
theorem q164{β:Type}{k:KO β}{h:Heap}{d:Nat}(n a m b:Nat)(l l':List α)(hc:Om K.fR [sK K n,kI (a:Int),kI (m:Int),kI (b:Int),(fF K)] [RDE K l]=some (.tup [],[RDE K l']))(hg:h.get (.im 0)=some (RDE K l)):vcall Om (.v (.c (.func K.fR []))) [sK K n,kI (a:Int),kI (m:Int),kI (b:Int),(fF K)] h d k=k (.tup []) (h.put (.im 0) (RDE K l')) :=
 qAh K.fR (.im 0) [sK K n,kI (a:Int),kI (m:Int),kI (b:Int),(fF K)] _ _ _ _ rfl rfl rfl hg (qAB _ 0) (qAB _ 0) (λ_=>rfl) hc
theorem qLo{β:Type}{k:KO β}{h:Heap}{d:Nat}(n a m b:Nat)(l l':List α)(hc:Om K.fM [sK K n,kI (a:Int),kI (m:Int),kI (b:Int),(fF K)] [RDE K l]=some (.tup [],[RDE K l']))(hg:h.get (.im 0)=some (RDE K l)):vcall Om (.v (.c (.func K.fM []))) [sK K n,kI (a:Int),kI (m:Int),kI (b:Int),(fF K)] h d k=k (.tup []) (h.put (.im 0) (RDE K l')) :=
 qAh K.fM (.im 0) [sK K n,kI (a:Int),kI (m:Int),kI (b:Int),(fF K)] _ _ _ _ rfl rfl rfl hg (qAB _ 0) (qAB _ 0) (λ_=>rfl) hc
def SymOK(K:SK α)(n f:Nat):Prop:=∀ X Y A C:List α,X.length+Y.length<=f->1<=X.length->1<=Y.length->Ord (ltK K) X->Ord (ltK K) Y->(A++X++Y++C).length=n ->
 ∃ Z,Mrg (ltK K) X Y Z/\Om K.fM [sK K n,kI (A.length:Int),kI ((A.length+X.length:Nat):Int),kI ((A.length+X.length+Y.length:Nat):Int),(fF K)] [RDE K (A++X++Y++C)]=some (.tup [],[RDE K (A++Z++C)])
theorem qTd(n f:Nat)(hn:n<=1000)(ih:SymOK K n f)(A X Y C:List α)(hf:X.length+Y.length<=f)(oX:Ord (ltK K) X)(oY:Ord (ltK K) Y)(h:Heap)(hl:(A++X++Y++C).length=n)(hg:h.get (.im 0)=some (RDE K (A++X++Y++C))) :
  ∃ Z,Mrg (ltK K) X Y Z/\lim tab.get S K.fM 1 15 [sK K n,kI ((A.length+X.length+Y.length:Nat):Int),(fF K),kI (A.length:Int),kI ((A.length+X.length:Nat):Int)] h=some (.tup [],[RDE K (A++Z++C)]):=by
 by_cases hx:1<=X.length
 ·by_cases hy:1<=Y.length
  ·obtain⟨Z,M,e⟩:=ih X Y A C hf hx hy oX oY hl;refine⟨Z,M,?_⟩;have c:=λ{β:Type} {k:KO β} {d:Nat}=>qLo (k:=k) (d:=d) n A.length (A.length+X.length) (A.length+X.length+Y.length) _ _ e hg
   have fin:=qAP true [] _ rfl (Heap.zput_self (o:=RDE K (A++Z++C)) hg (λe=>by cases e)) (qAB _ 0);have t1:(A.length:Int)<((A.length+X.length:Nat):Int):=by omega
   have t2:((A.length+X.length:Nat):Int)<((A.length+X.length+Y.length:Nat):Int):=by omega
   rw[K.wM_15,gM_15];simp (maxSteps:=9^7) +contextual only[exa,rA,rB,rC,rD,rE,rF,rG,rH,rI,exW,exY,t1,t2,c,fin,oneOf]
  ·have ey:Y=[]:=List.length_eq_zero_iff.1 (by omega);subst ey;refine⟨X,qFL (ltK K) X oX,?_⟩;have fin:=qAP true [] _ rfl hg (qAB _ 0);have e:A++X++[]++C=A++X++C:=by simp
   have t1:(A.length:Int)<((A.length+X.length:Nat):Int):=by omega
   have t2:¬ ((A.length+X.length:Nat):Int)<((A.length+X.length:Nat):Int):=by omega
   rw[e] at fin;rw[List.length_nil,Nat.add_zero,K.wM_15,gM_15];simp (maxSteps:=9^7) +contextual only[exa,rA,rB,rC,rD,rE,rF,rG,rH,rI,exW,exY,t1,t2,fin,if_false,oneOf]
 ·have ex:X=[]:=List.length_eq_zero_iff.1 (by omega);subst ex;refine⟨Y,qFB (ltK K) Y oY,?_⟩;have fin:=qAP true [] _ rfl hg (qAB _ 0);have e:A++[]++Y++C=A++Y++C:=by simp
  have t1:¬ (A.length:Int)<(A.length:Int):=by omega
  rw[e] at fin;rw[List.length_nil,Nat.add_zero,K.wM_15,gM_15];simp (maxSteps:=9^7) +contextual only[exa,rA,rB,rC,rD,rE,rF,rG,rH,rI,exW,exY,t1,fin,if_false,oneOf]
theorem qTx(n f:Nat)(hn:n<=1000)(ih:SymOK K n f)(A X1 Y1 X2 Y2 C:List α)(hf1:X1.length+Y1.length<=f)(hf2:X2.length+Y2.length<=f)(oX1:Ord (ltK K) X1)(oY1:Ord (ltK K) Y1)(oX2:Ord (ltK K) X2)(oY2:Ord (ltK K) Y2)(h:Heap)
  (hl:(A++X1++Y1++X2++Y2++C).length=n) (hg:h.get (.im 0)=some (RDE K (A++X1++Y1++X2++Y2++C))) (mid en b:Nat) (hmid:mid=A.length+X1.length+Y1.length) (hen:en=mid+X2.length) (hb:b=en+Y2.length) :
  ∃ Z1 Z2,Mrg (ltK K) X1 Y1 Z1/\Mrg (ltK K) X2 Y2 Z2/\lim tab.get S K.fM 1 14 [sK K n,kI (A.length:Int),kI (b:Int),(fF K),kI (mid:Int),kI ((A.length+X1.length:Nat):Int),kI (en:Int)] h=some (.tup [],[RDE K (A++Z1++Z2++C)]):=by
 have fin15:∀ (Z1:List α) (h1:Heap),Mrg (ltK K) X1 Y1 Z1->h1.get (.im 0)=some (RDE K (A++Z1++(X2++Y2++C))) ->
   ∃ Z2,Mrg (ltK K) X2 Y2 Z2/\lim tab.get S K.fM 1 15 [sK K n,kI (b:Int),(fF K),kI (mid:Int),kI (en:Int)] h1=some (.tup [],[RDE K (A++Z1++Z2++C)]):=by
  intro Z1 h1 M1 g1;have lZ:=M1.len;have el:(A++Z1).length=mid:=by rw[List.length_append,lZ]; omega
  have e1:A++Z1++(X2++Y2++C)=(A++Z1)++X2++Y2++C:=by simp
  rw[e1] at g1;obtain⟨Z2,M2,e2⟩:=qTd n f hn ih (A++Z1) X2 Y2 C hf2 oX2 oY2 h1 (by rw[<- hl]; simp only[List.length_append,lZ]; omega) g1;rw[el,<- hen,<- hb] at e2;exact⟨Z2,M2,e2⟩
 by_cases hx:1<=X1.length
 ·have t1:(A.length:Int)<((A.length+X1.length:Nat):Int):=by omega
  by_cases hy:1<=Y1.length
  ·have t2:((A.length+X1.length:Nat):Int)<(mid:Int):=by omega
   have ea:A++X1++Y1++X2++Y2++C=A++X1++Y1++(X2++Y2++C):=by simp
   rw[ea] at hl hg;obtain⟨Z1,M1,e⟩:=ih X1 Y1 A (X2++Y2++C) hf1 hx hy oX1 oY1 hl;have c:=λ{β:Type} {k:KO β} {d:Nat}=>qLo (k:=k) (d:=d) n A.length (A.length+X1.length) (A.length+X1.length+Y1.length) _ _ e hg
   rw[<- hmid] at c;obtain⟨Z2,M2,e2⟩:=fin15 Z1 _ M1 (Heap.zput_self hg (λe=>by cases e));refine⟨Z1,Z2,M1,M2,?_⟩;rw[<- e2,K.wM_14,gM_14];simp (maxSteps:=9^7) +contextual only[exa,rA,rB,rC,rD,rE,rF,rG,rH,rI,exW,exY,t1,t2,c,oneOf]
  ·have ey:Y1=[]:=List.length_eq_zero_iff.1 (by omega);have t2:¬ ((A.length+X1.length:Nat):Int)<(mid:Int):=by omega
   have M1:Mrg (ltK K) X1 Y1 X1:=by rw[ey]; exact qFL (ltK K) X1 oX1
   obtain⟨Z2,M2,e2⟩:=fin15 X1 h M1 (by rw[hg,ey]; simp);refine⟨X1,Z2,M1,M2,?_⟩;rw[<- e2,K.wM_14,gM_14];simp (maxSteps:=9^7) +contextual only[exa,rA,rB,rC,rD,rE,rF,rG,rH,rI,exW,exY,t1,t2,if_false,oneOf]
 ·have ex:X1=[]:=List.length_eq_zero_iff.1 (by omega);have t1:¬ (A.length:Int)<((A.length+X1.length:Nat):Int):=by omega
  have M1:Mrg (ltK K) X1 Y1 Y1:=by rw[ex]; exact qFB (ltK K) Y1 oY1
  obtain⟨Z2,M2,e2⟩:=fin15 Y1 h M1 (by rw[hg,ex]; simp);refine⟨Y1,Z2,M1,M2,?_⟩;rw[<- e2,K.wM_14,gM_14];simp (maxSteps:=9^7) +contextual only[exa,rA,rB,rC,rD,rE,rF,rG,rH,rI,exW,exY,t1,if_false,oneOf]
theorem qTt(n f:Nat)(hn:n<=1000)(ih:SymOK K n f)(A X1 Y1 X2 Y2 C:List α)(hf1:X1.length+Y1.length<=f)(hf2:X2.length+Y2.length<=f)(oX:Ord (ltK K) (X1++X2))(oY:Ord (ltK K) (Y1++Y2))
  (h1:∀ p q,X1.getLast?=some p->Y2.head?=some q->(ltK K) q p=false) (h2:∀ p q,Y1.getLast?=some p->X2.head?=some q->(ltK K) q p=false) (h:Heap)
  (hl:(A++(X1++X2)++(Y1++Y2)++C).length=n) (hg:h.get (.im 0)=some (RDE K (A++(X1++X2)++(Y1++Y2)++C))) (mid m b st nn:Nat) (hmid:mid=A.length+X1.length+Y1.length) (hm:m=A.length+X1.length+X2.length) (hb:b=m+(Y1.length+Y2.length)) (hst:st=A.length+X1.length) (hnn:nn=mid+m) :
  ∃ Z,Mrg (ltK K) (X1++X2) (Y1++Y2) Z/\lim tab.get S K.fM 1 13 [sK K n,kI (A.length:Int),kI (m:Int),kI (b:Int),(fF K),kI (mid:Int),kI (nn:Int),kI (st:Int)] h=some (.tup [],[RDE K (A++Z++C)]):=by
 have oX':=List.pairwise_append.1 oX;have oY':=List.pairwise_append.1 oY;have hl':A.length+(X1.length+X2.length)+(Y1.length+Y2.length)+C.length=n:=by rw[<- hl]; simp only[List.length_append]
 have es:IntKind.i64.wrap ((nn:Int) - (st:Int))=((mid+X2.length:Nat):Int):=by rw[qAW nn st (by omega) (by omega)]; congr 1; omega
 have go:∀ h':Heap,h'.get (.im 0)=some (RDE K (A++X1++Y1++X2++Y2++C))->∃ Z,Mrg (ltK K) (X1++X2) (Y1++Y2) Z/\lim tab.get S K.fM 1 14 [sK K n,kI (A.length:Int),kI (b:Int),(fF K),kI (mid:Int),kI (st:Int),kI ((mid+X2.length:Nat):Int)] h'=some (.tup [],[RDE K (A++Z++C)]):=by
  intro h' g';obtain⟨Z1,Z2,M1,M2,e⟩:=qTx n f hn ih A X1 Y1 X2 Y2 C hf1 hf2 oX'.1 oY'.1 oX'.2.1 oY'.2.1 h' (by rw[<- hl]; simp only[List.length_append]; omega) g' mid (mid+X2.length) b hmid rfl (by omega);refine⟨Z1++Z2,qK6 (ltK K) (qT6 K) (qUF K) X1 X2 Y1 Y2 Z1 Z2 oX oY h1 h2 M1 M2,?_⟩;rw[hst,e,List.append_assoc A Z1 Z2]
 by_cases hx:1<=X2.length
 ·have t1:(st:Int)<(m:Int):=by omega
  by_cases hy:1<=Y1.length
  ·have t2:(m:Int)<((mid+X2.length:Nat):Int):=by omega
   have ea:A++(X1++X2)++(Y1++Y2)++C=(A++X1)++X2++Y1++(Y2++C):=by simp
   rw[ea] at hl hg;have e:=qN3 n hn X2 Y1 (A++X1) (Y2++C) hx hy hl;have a1:(A++X1).length=st:=by rw[List.length_append]; omega
   have a2:st+X2.length=m:=by omega
   have a3:m+Y1.length=mid+X2.length:=by omega
   rw[a1,a2,a3] at e;have c:=λ{β:Type} {k:KO β} {d:Nat}=>q164 (k:=k) (d:=d) n st m (mid+X2.length) _ _ e hg
   obtain⟨Z,M,e'⟩:=go (h.put (.im 0) (RDE K ((A++X1)++Y1++X2++(Y2++C)))) (by
    have e2:(A++X1)++Y1++X2++(Y2++C)=A++X1++Y1++X2++Y2++C:=by simp
    rw[<- e2]
    exact Heap.zput_self hg (λe=>by cases e))
   refine⟨Z,M,?_⟩;rw[<- e',K.wM_13,gM_13];simp (maxSteps:=9^7) +contextual only[exa,rA,rB,rC,rD,rE,rF,rG,rH,rI,exW,exY,es,t1,t2,c,oneOf]
  ·have ey:Y1=[]:=List.length_eq_zero_iff.1 (by omega);have t2:¬ (m:Int)<((mid+X2.length:Nat):Int):=by omega
   obtain⟨Z,M,e'⟩:=go h (by rw[hg,ey]; simp);refine⟨Z,M,?_⟩;rw[<- e',K.wM_13,gM_13];simp (maxSteps:=9^7) +contextual only[exa,rA,rB,rC,rD,rE,rF,rG,rH,rI,exW,exY,es,t1,t2,if_false,oneOf]
 ·have ex:X2=[]:=List.length_eq_zero_iff.1 (by omega);have t1:¬ (st:Int)<(m:Int):=by omega
  obtain⟨Z,M,e'⟩:=go h (by rw[hg,ex]; simp);refine⟨Z,M,?_⟩;rw[<- e',K.wM_13,gM_13];simp (maxSteps:=9^7) +contextual only[exa,rA,rB,rC,rD,rE,rF,rG,rH,rI,exW,exY,es,t1,if_false,oneOf]
theorem qIK(A X R:List α)(i:Nat)(hi:i<X.length):(A++X++R)[A.length+i]?=X[i]?:=by
 rw[List.append_assoc,List.getElem?_append_right (by omega),Nat.add_sub_cancel_left,List.getElem?_append_left hi]
theorem qDT(X:List α)(k:Nat)(p:α)(h:(X.take k).getLast?=some p):1<=(X.take k).length/\X[(X.take k).length - 1]?=some p:=by
 have hne:X.take k≠[]:=λe=>by rw[e] at h; cases h
 have hl:=List.length_pos_iff.2 hne;refine⟨hl,?_⟩;rw[List.getLast?_eq_getElem?,List.getElem?_take_of_lt (by rw[List.length_take] at hl ⊢; omega)] at h;exact h
theorem qDR(X:List α)(k:Nat)(p:α)(h:(X.drop k).head?=some p):X[k]?=some p/\k<X.length:=by
 rw[List.head?_drop] at h;exact⟨h,(List.getElem?_eq_some_iff.1 h).1⟩
theorem qTX(n f:Nat)(hn:n<=1000)(ih:SymOK K n f)(A X Y C:List α)(hX:2<=X.length)(hY:2<=Y.length)(hf:X.length+Y.length<=f+1)(oX:Ord (ltK K) X)(oY:Ord (ltK K) Y)(h:Heap)(hl:(A++X++Y++C).length=n)(hg:h.get (.im 0)=some (RDE K (A++X++Y++C))) :
  ∃ Z,Mrg (ltK K) X Y Z/\lim tab.get S K.fM 1 10 [sK K n,kI (A.length:Int),kI ((A.length+X.length:Nat):Int),kI ((A.length+X.length+Y.length:Nat):Int),(fF K)] h=some (.tup [],[RDE K (A++Z++C)]):=by
 have hl':A.length+X.length+Y.length+C.length=n:=by rw[<- hl]; simp only[List.length_append]
 obtain⟨m,hm⟩:∃ m,m=A.length+X.length:=⟨_,rfl⟩;obtain⟨b,hb⟩:∃ b,b=A.length+X.length+Y.length:=⟨_,rfl⟩;obtain⟨mid,hmid⟩:∃ mid,mid=(A.length+b) / 2:=⟨_,rfl⟩;obtain⟨lo,hlo⟩:∃ lo,lo=if mid<m then mid+m - b else A.length:=⟨_,rfl⟩
 obtain⟨hi,hhi⟩:∃ hi,hi=if mid<m then mid else m:=⟨_,rfl⟩
 have lo1:A.length<=lo/\lo<=hi/\hi<=m/\hi<=mid/\(lo=A.length\/mid+m - lo=b)/\mid+m<=lo+b/\(hi=m\/hi=mid):=by
  rw[hlo,hhi]; split <;> omega
 obtain⟨l1,l2,l3,l4,l5,l6,l7⟩:=lo1;have gx:∀ i,i<X.length->(A++X++Y++C)[A.length+i]?=X[i]?:=λi hi=>by rw[List.append_assoc (A++X)]; exact qIK A X (Y++C) i hi
 have gy:∀ i,i<Y.length->(A++X++Y++C)[m+i]?=Y[i]?:=λi hi=>by
  have:=qIK (A++X) Y C i hi;rw[List.length_append,<- hm] at this;exact this
 have step:∃ t,lo<=t/\t<=hi/\(t=lo\/splE K (A++X++Y++C) (mid+m - 1) (t - 1)=false)/\(t=hi\/splE K (A++X++Y++C) (mid+m - 1) t=true) /\
   lim tab.get S K.fM 1 10 [sK K n,kI (A.length:Int),kI (m:Int),kI (b:Int),(fF K)] h=lim tab.get S K.fM 1 13 [sK K n,kI (A.length:Int),kI (m:Int),kI (b:Int),(fF K),kI (mid:Int),kI ((mid+m:Nat):Int),kI (t:Int)] h:=by
  obtain⟨t,r1,r2,r3,r4,r5⟩:=bs3 n hn (A++X++Y++C) hl A.length m b mid (mid+m) lo hi (mid+m - 1) (by omega) (λc c1 c2=>by omega) (by omega) h hg (hi - lo) lo hi (Nat.le_refl _) (Nat.le_refl _) l2 (Nat.le_refl _) (.inl rfl) (.inl rfl);refine⟨t,r1,r2,r3,r4,?_⟩;have hf:=λ{β:Type} {h:Heap} {k:KO β}=>qBF (β:=β) (h:=h) (k:=k) A.length b (by omega) (by omega)
  rw[<- hmid] at hf;have ea:IntKind.i64.wrap ((mid:Int)+(m:Int))=((mid+m:Nat):Int):=qAl mid m (by omega) (by omega);have ep:IntKind.i64.wrap (((mid+m:Nat):Int) - 1)=((mid+m - 1:Nat):Int):=qBY _ (by omega) (by omega);rw[<- r5,K.wM_10,gM_10,hf];by_cases hlt:mid<m
  ·have t1:(mid:Int)<(m:Int):=by omega
   rw[if_pos hlt] at hlo hhi;have eb:IntKind.i64.wrap (((mid+m:Nat):Int) - (b:Int))=(lo:Int):=by rw[qAW _ _ (by omega) (by omega),hlo]
   subst hhi;simp (maxSteps:=9^7) +contextual only[exa,rA,rB,rC,rD,rE,rF,rG,rH,rI,exW,exY,ea,t1,eb];rw[K.wM_11,gM_11];simp (maxSteps:=9^7) +contextual only[exa,rA,rB,rC,rD,rE,rF,rG,rH,rI,exW,exY,ep]
  ·have t1:¬ (mid:Int)<(m:Int):=by omega
   rw[if_neg hlt] at hlo hhi;subst hhi;subst hlo;simp (maxSteps:=9^7) +contextual only[exa,rA,rB,rC,rD,rE,rF,rG,rH,rI,exW,exY,ea,t1,if_false];rw[K.wM_11,gM_11];simp (maxSteps:=9^7) +contextual only[exa,rA,rB,rC,rD,rE,rF,rG,rH,rI,exW,exY,ep]
 obtain⟨t,t1,t2,t3,t4,t5⟩:=step;rw[<- hm,show m+Y.length=b by omega,t5];have sX:=List.take_append_drop (t - A.length) X;have sY:=List.take_append_drop (mid - t) Y;have x1:(X.take (t - A.length)).length=t - A.length:=by rw[List.length_take]; omega
 have x2:(X.drop (t - A.length)).length=m - t:=by rw[List.length_drop]; omega
 have y1:(Y.take (mid - t)).length=mid - t:=by rw[List.length_take]; omega
 have y2:(Y.drop (mid - t)).length=b - m - (mid - t):=by rw[List.length_drop]; omega
 have c1:∀ p q,(X.take (t - A.length)).getLast?=some p->(Y.drop (mid - t)).head?=some q->(ltK K) q p=false:=by
  intro p q hp hq;obtain⟨p1,p2⟩:=qDT _ _ _ hp;obtain⟨q1,q2⟩:=qDR _ _ _ hq;rw[x1] at p1 p2;have hne:t≠lo:=by
   intro e
   rcases l5 with l5|l5 <;> omega
  rcases t3 with t3|t3
  ·exact absurd t3 hne
  ·have g1:=gx (t - A.length - 1) (by omega);have g2:=gy (mid - t) q2;rw[p2,show A.length+(t - A.length - 1)=t - 1 by omega] at g1;rw[q1,show m+(mid - t)=mid+m - 1 - (t - 1) by omega] at g2;unfold splE at t3;rw[g1,g2] at t3;exact t3
 have c2:∀ p q,(Y.take (mid - t)).getLast?=some p->(X.drop (t - A.length)).head?=some q->(ltK K) q p=false:=by
  intro p q hp hq;obtain⟨p1,p2⟩:=qDT _ _ _ hp;obtain⟨q1,q2⟩:=qDR _ _ _ hq;rw[y1] at p1 p2;have hne:t≠hi:=by
   intro e
   rcases l7 with l7|l7 <;> omega
  rcases t4 with t4|t4
  ·exact absurd t4 hne
  ·have g1:=gx (t - A.length) q2;have g2:=gy (mid - t - 1) (by omega);rw[q1,show A.length+(t - A.length)=t by omega] at g1;rw[p2,show m+(mid - t - 1)=mid+m - 1 - t by omega] at g2;unfold splE at t4;rw[g1,g2] at t4;exact(qT8 K) _ _ t4
 have oX':=oX;have oY':=oY;rw[<- sX] at oX';rw[<- sY] at oY';have hl2:=hl;have hg2:=hg;rw[<- sX,<- sY] at hl2 hg2;obtain⟨Z,M,e⟩:=qTt n f hn ih A (X.take (t - A.length)) (Y.take (mid - t)) (X.drop (t - A.length)) (Y.drop (mid - t)) C (by omega) (by omega) oX' oY' c1 c2 h hl2 hg2 mid m b t (mid+m) (by omega) (by omega) (by omega) (by omega) rfl;rw[sX,sY] at M;exact⟨Z,M,e⟩
theorem qG3(n:Nat)(hn:n<=1000):∀ f,SymOK K n f
 |0=>λX Y A C hf hx hy _ _ _=>by omega
 |f+1=>λX Y A C hf hx hy oX oY hl=>by
  have ih:=qG3 n hn f;have hl':A.length+X.length+Y.length+C.length=n:=by rw[<- hl]; simp only[List.length_append]
  have e0:Om K.fM [sK K n,kI (A.length:Int),kI ((A.length+X.length:Nat):Int),kI ((A.length+X.length+Y.length:Nat):Int),(fF K)] [RDE K (A++X++Y++C)]=lim tab.get S K.fM 1 0 [sK K n,kI (A.length:Int),kI ((A.length+X.length:Nat):Int),kI ((A.length+X.length+Y.length:Nat):Int),(fF K)] (hpE K (A++X++Y++C)):=qAD (K.nM _ _);have es1:IntKind.i64.wrap (((A.length+X.length:Nat):Int) - (A.length:Int))=(X.length:Int):=by rw[qAW _ _ (by omega) (by omega)]; congr 1; omega
  have es2:IntKind.i64.wrap (((A.length+X.length+Y.length:Nat):Int) - ((A.length+X.length:Nat):Int))=(Y.length:Int):=by rw[qAW _ _ (by omega) (by omega)]; congr 1; omega
  rw[e0];have hg:(hpE K (A++X++Y++C)).get (.im 0)=some (RDE K (A++X++Y++C)):=rfl;generalize hpE K (A++X++Y++C)=h at hg ⊢;by_cases h1:X.length=1
  ·obtain⟨x,rfl⟩:=List.length_eq_one_iff.1 h1;have ea:A++[x]++Y++C=A++x::([]++Y++[])++C:=by simp
   rw[ea] at hl hg;obtain⟨V1,V2,q1,q2,q3,q4⟩:=bs1 n hn A C x Y.length [] Y [] h (Nat.le_refl _) hl (by simpa using oY) (λy hy=>by cases hy) (λy hy=>by cases hy) hg;rw[List.nil_append,List.append_nil] at q1;subst q1;refine⟨V1++x::V2,qLs (ltK K) (qT8 K) (qT6 K) x V1 V2 oY q2 q3,?_⟩;have t:((1:Nat):Int)=1:=rfl;have eg:A++x::([]++(V1++V2)++[])++C=A++x::(V1++(V2++C)):=by simp
   rw[eg] at hg hl;have sh:=shf1 n hn x (V2++C) V1 A h hl hg;have er:A++V1++x::(V2++C)=A++(V1++x::V2)++C:=by simp
   rw[er] at sh;rw[<- sh,K.wM_0,gM_0,qAf,es1];rw[show A.length+V1.length+1=A.length+1+V1.length by omega];rw[List.length_singleton] at *;simp (maxSteps:=9^7) +contextual only[exa,rA,rB,rC,rD,rE,rF,rG,rH,rI,t];rw[List.length_nil,Nat.add_zero] at q4;refine q4.trans ?_;rw[K.wM_2,gM_2]
  ·have t:¬ (X.length:Int)=1:=by omega
   by_cases h2:Y.length=1
   ·obtain⟨y,rfl⟩:=List.length_eq_one_iff.1 h2;have ea:A++X++[y]++C=A++([]++X++[])++y::C:=by simp
    rw[ea] at hl hg;obtain⟨V1,V2,q1,q2,q3,q4⟩:=bs2 n hn A C y X.length [] X [] h (Nat.le_refl _) hl (by simpa using oX) (λy hy=>by cases hy) (λy hy=>by cases hy) hg;rw[List.nil_append,List.append_nil] at q1 q4;subst q1;refine⟨V1++y::V2,qFF (ltK K) (qT8 K) (qT6 K) y V1 V2 oX q2 q3,?_⟩;have t2:((1:Nat):Int)=1:=rfl;have eg:A++([]++(V1++V2)++[])++y::C=(A++V1)++V2++y::C:=by simp
    rw[eg] at hg hl;have sh:=shf2 n hn y (A++V1) V2.length V2 C h rfl hl hg;have er:A++V1++y::(V2++C)=A++(V1++y::V2)++C:=by simp
    rw[er,List.length_append] at sh;rw[<- sh,K.wM_0,gM_0,qAf,es1];simp (maxSteps:=9^7) +contextual only[exa,rA,rB,rC,rD,rE,rF,rG,rH,rI,t,if_false];rw[List.length_singleton] at es2;rw[K.wM_5,gM_5,qAf,es2];simp (maxSteps:=9^7) +contextual only[exa,rA,rB,rC,rD,rE,rF,rG,rH,rI,t2];rw[List.length_nil,Nat.add_zero] at q4;refine q4.trans ?_;rw[K.wM_7,gM_7,List.length_append,Nat.add_assoc]
   ·have t2:¬ (Y.length:Int)=1:=by omega
    obtain⟨Z,M,e⟩:=qTX n f hn ih A X Y C (by omega) (by omega) hf oX oY h hl hg;refine⟨Z,M,?_⟩;rw[<- e,K.wM_0,gM_0,qAf,es1];simp (maxSteps:=9^7) +contextual only[exa,rA,rB,rC,rD,rE,rF,rG,rH,rI,t,if_false];rw[K.wM_5,gM_5,qAf,es2];simp (maxSteps:=9^7) +contextual only[exa,rA,rB,rC,rD,rE,rF,rG,rH,rI,t2,if_false]
end
theorem qCW{α:Type}(s:Nat):∀ (Bs:List (List α)),(∀ B∈Bs,B.length=s)->Bs.flatten.length=s*Bs.length
 |[],_=>rfl
 |B::Bs,h=>by
  rw[List.flatten_cons,List.length_append,h B (by simp),qCW s Bs (λX hX=>h X (by simp[hX])),List.length_cons,Nat.mul_succ]; omega
section
variable {α:Type} [K:SK α]
structure BlkE (K:SK α) (s:Nat) (Bs:List (List α)) (T:List α):Prop where
 all:∀ B∈Bs,B.length=s/\Ord (ltK K) B
 len:T.length<s
 ord:Ord (ltK K) T
theorem stb1(n:Nat)(hn:n<=1000):∀ (m:Nat) (Bs:List (List α)) (R:List α) (h:Heap),R.length<=m->(∀ B∈Bs,B.length=20/\Ord (ltK K) B)->(Bs.flatten++R).length=n->h.get (.im 0)=some (RDE K (Bs.flatten++R)) ->
  ∃ h' Bs' T,BlkE K 20 Bs' T/\(Bs'.flatten++T).Perm (Bs.flatten++R)/\h'.get (.im 0)=some (RDE K (Bs'.flatten++T))/\lim tab.get S K.fT 1 1 [sK K n,kI (n:Int),(fF K),kI 20,kI (Bs.flatten.length:Int),kI ((Bs.flatten.length+20:Nat):Int)] h=lim tab.get S K.fT 1 3 [sK K n,kI (n:Int),(fF K),kI 20] h'
 |m,Bs,R,h,hm,hB,hl,hg=>by
  have hl':Bs.flatten.length+R.length=n:=by rw[<- hl,List.length_append]
  by_cases hR:20<=R.length
  ·cases m with
   |zero=>omega
   |succ m =>
    have sR:=List.take_append_drop 20 R;have r1:(R.take 20).length=20:=by rw[List.length_take]; omega
    have r2:(R.drop 20).length=R.length - 20:=List.length_drop;have ea:Bs.flatten++R=Bs.flatten++R.take 20++R.drop 20:=by rw[List.append_assoc,sR]
    rw[ea] at hl hg;obtain⟨Z,o,p,e⟩:=qN6 n hn Bs.flatten (R.take 20) (R.drop 20) hl;rw[r1] at e;have c:=λ{β:Type} {k:KO β} {d:Nat}=>q148 (k:=k) (d:=d) n _ _ _ _ e hg
    have lZ:Z.length=20:=by rw[p.length_eq,r1]
    have ef:(Bs++[Z]).flatten=Bs.flatten++Z:=by simp
    obtain⟨h',Bs',T,b,p',g',e'⟩:=stb1 n hn m (Bs++[Z]) (R.drop 20) (h.put (.im 0) (RDE K (Bs.flatten++Z++R.drop 20))) (by omega) (λB hb=>by
     rcases List.mem_append.1 hb with hb|hb
     ·exact hB B hb
     ·rw[List.mem_singleton.1 hb]; exact⟨lZ,o⟩) (by rw[ef,<- hl]; simp only[List.length_append,lZ,r1]) (by rw[ef]; exact Heap.zput_self hg (λe=>by cases e))
    refine⟨h',Bs',T,b,p'.trans ?_,g',?_⟩
    ·rw[ef,ea];exact(p.append_left Bs.flatten).append_right _
    ·rw[ef,List.length_append,lZ] at e';rw[<- e',K.wT_1,gT_1];have t:¬ (n:Int)<((Bs.flatten.length+20:Nat):Int):=by omega
     have ew:IntKind.i64.wrap (((Bs.flatten.length+20:Nat):Int)+20)=((Bs.flatten.length+20+20:Nat):Int):=by rw[qAL _ (by omega) (by omega)]; omega
     simp (maxSteps:=9^7) +contextual only[exa,rA,rB,rC,rD,rE,rF,rG,rH,rI,exW,exY,t,c,ew,if_false,oneOf]
  ·have ea:Bs.flatten++R=Bs.flatten++R++[]:=by rw[List.append_nil]
   rw[ea] at hl hg;obtain⟨Z,o,p,e⟩:=qN6 n hn Bs.flatten R [] hl;rw[hl'] at e;have c:=λ{β:Type} {k:KO β} {d:Nat}=>q148 (k:=k) (d:=d) n _ _ _ _ e hg
   refine⟨h.put (.im 0) (RDE K (Bs.flatten++Z++[])),Bs,Z,⟨hB,by rw[p.length_eq]; omega,o⟩,p.append_left _,?_,?_⟩
   ·rw[List.append_nil]; exact Heap.zput_self hg (λe=>by cases e)
   ·have t:(n:Int)<((Bs.flatten.length+20:Nat):Int):=by omega
    rw[K.wT_1,gT_1];simp (maxSteps:=9^7) +contextual only[exa,rA,rB,rC,rD,rE,rF,rG,rH,rI,t,if_false];rw[K.wT_2,gT_2];simp (maxSteps:=9^7) +contextual only[exa,rA,rB,rC,rD,rE,rF,rG,rH,rI,c]
theorem stb4(n:Nat)(hn:n<=1000)(s:Nat)(hs:1<=s)(hs2:s<=1000)(T:List α)(hT:T.length<s)(oT:Ord (ltK K) T):∀ (m:Nat) (Ds Bs:List (List α)) (h:Heap),Bs.length<=m->(∀ B∈Ds,B.length=2*s/\Ord (ltK K) B)->(∀ B∈Bs,B.length=s/\Ord (ltK K) B)->(Ds.flatten++Bs.flatten++T).length=n->h.get (.im 0)=some (RDE K (Ds.flatten++Bs.flatten++T)) ->
  ∃ h' Bs' T',BlkE K (2*s) Bs' T'/\(Bs'.flatten++T').Perm (Ds.flatten++Bs.flatten++T)/\h'.get (.im 0)=some (RDE K (Bs'.flatten++T'))/\lim tab.get S K.fT 1 4 [sK K n,kI (n:Int),(fF K),kI (s:Int),kI (Ds.flatten.length:Int),kI ((Ds.flatten.length+2*s:Nat):Int)] h=lim tab.get S K.fT 1 6 [sK K n,kI (n:Int),(fF K),kI (s:Int)] h'
 |m,Ds,B1::B2::Bs,h,hm,hD,hB,hl,hg=>by
  cases m with
  |zero=>simp at hm
  |succ m =>
   obtain⟨l1,o1⟩:=hB B1 (by simp);obtain⟨l2,o2⟩:=hB B2 (by simp);have hl':Ds.flatten.length+(s+(s+Bs.flatten.length))+T.length=n:=by rw[<- hl]; simp only[List.length_append,List.flatten_cons,l1,l2]
   have ea:Ds.flatten++(B1::B2::Bs).flatten++T=Ds.flatten++B1++B2++(Bs.flatten++T):=by simp
   rw[ea] at hl hg;obtain⟨Z,M,e⟩:=qG3 n hn (s+s) B1 B2 Ds.flatten (Bs.flatten++T) (by omega) (by omega) (by omega) o1 o2 hl;rw[l1,l2] at e;have c:=λ{β:Type} {k:KO β} {d:Nat}=>qLo (k:=k) (d:=d) n _ _ _ _ _ e hg
   have lZ:Z.length=2*s:=by rw[M.len]; omega
   have ef:(Ds++[Z]).flatten=Ds.flatten++Z:=by simp
   obtain⟨h',Bs',T',b,p',g',e'⟩:=stb4 n hn s hs hs2 T hT oT m (Ds++[Z]) Bs (h.put (.im 0) (RDE K (Ds.flatten++Z++(Bs.flatten++T)))) (by simp at hm; omega) (λB hb=>by
    rcases List.mem_append.1 hb with hb|hb
    ·exact hD B hb
    ·rw[List.mem_singleton.1 hb]; exact⟨lZ,M.ord⟩) (λB hb=>hB B (by simp[hb])) (by rw[ef,<- hl]; simp only[List.length_append,lZ,l1,l2]; omega) (by rw[ef,List.append_assoc (Ds.flatten++Z)]; exact Heap.zput_self hg (λe=>by cases e))
   refine⟨h',Bs',T',b,p'.trans ?_,g',?_⟩
   ·rw[ef,ea,List.append_assoc Ds.flatten B1 B2,List.append_assoc (Ds.flatten++Z)];exact(M.prm.append_left Ds.flatten).append_right _
   ·rw[ef,List.length_append,lZ] at e';rw[<- e',K.wT_4,gT_4];have t:¬ (n:Int)<((Ds.flatten.length+2*s:Nat):Int):=by omega
    have e1:IntKind.i64.wrap ((Ds.flatten.length:Int)+(s:Int))=((Ds.flatten.length+s:Nat):Int):=qAl _ _ (by omega) (by omega);have e2:=qFD s (by omega);have e3:IntKind.i64.wrap (((Ds.flatten.length+2*s:Nat):Int)+((2*s:Nat):Int))=((Ds.flatten.length+2*s+2*s:Nat):Int):=qAl _ _ (by omega) (by omega);have e4:Ds.flatten.length+s+s=Ds.flatten.length+2*s:=by omega
    rw[e4] at c;simp (maxSteps:=9^7) +contextual only[exa,rA,rB,rC,rD,rE,rF,rG,rH,rI,exW,exY,t,c,e1,e2,e3,if_false,oneOf]
 |m,Ds,[B],h,hm,hD,hB,hl,hg=>by
  obtain⟨l1,o1⟩:=hB B (by simp);have eb:[B].flatten=B:=by simp
  rw[eb] at hl hg ⊢;have hl':Ds.flatten.length+s+T.length=n:=by rw[<- hl]; simp only[List.length_append,l1]
  have t:(n:Int)<((Ds.flatten.length+2*s:Nat):Int):=by omega
  have e1:IntKind.i64.wrap ((Ds.flatten.length:Int)+(s:Int))=((Ds.flatten.length+s:Nat):Int):=qAl _ _ (by omega) (by omega);by_cases hx:1<=T.length
  ·have ea:Ds.flatten++B++T=Ds.flatten++B++T++[]:=by rw[List.append_nil]
   rw[ea] at hl hg;obtain⟨Z,M,e⟩:=qG3 n hn (s+s) B T Ds.flatten [] (by omega) (by omega) hx o1 oT hl;rw[l1,hl'] at e;have c:=λ{β:Type} {k:KO β} {d:Nat}=>qLo (k:=k) (d:=d) n _ _ _ _ _ e hg
   refine⟨h.put (.im 0) (RDE K (Ds.flatten++Z++[])),Ds,Z,⟨hD,by rw[M.len]; omega,M.ord⟩,?_,?_,?_⟩
   ·rw[List.append_assoc Ds.flatten B T]; exact M.prm.append_left _
   ·rw[List.append_nil]; exact Heap.zput_self hg (λe=>by cases e)
   ·have t2:((Ds.flatten.length+s:Nat):Int)<(n:Int):=by omega
    rw[K.wT_4,gT_4];simp (maxSteps:=9^7) +contextual only[exa,rA,rB,rC,rD,rE,rF,rG,rH,rI,t,if_false];rw[K.wT_5,gT_5];simp (maxSteps:=9^7) +contextual only[exa,rA,rB,rC,rD,rE,rF,rG,rH,rI,e1,t2,c]
  ·have et:T=[]:=List.length_eq_zero_iff.1 (by omega);refine⟨h,Ds,B,⟨hD,by omega,o1⟩,by rw[et,List.append_nil],by rw[hg,et,List.append_nil],?_⟩;have t2:¬ ((Ds.flatten.length+s:Nat):Int)<(n:Int):=by omega
   rw[K.wT_4,gT_4];simp (maxSteps:=9^7) +contextual only[exa,rA,rB,rC,rD,rE,rF,rG,rH,rI,t,if_false];rw[K.wT_5,gT_5];simp (maxSteps:=9^7) +contextual only[exa,rA,rB,rC,rD,rE,rF,rG,rH,rI,e1,t2,if_false]
 |m,Ds,[],h,hm,hD,hB,hl,hg=>by
  have eb:([]:List (List α)).flatten=[]:=rfl;rw[eb,List.append_nil] at hl hg;have hl':Ds.flatten.length+T.length=n:=by rw[<- hl]; simp only[List.length_append]
  have t:(n:Int)<((Ds.flatten.length+2*s:Nat):Int):=by omega
  have e1:IntKind.i64.wrap ((Ds.flatten.length:Int)+(s:Int))=((Ds.flatten.length+s:Nat):Int):=qAl _ _ (by omega) (by omega);refine⟨h,Ds,T,⟨hD,by omega,oT⟩,by rw[eb,List.append_nil],hg,?_⟩;have t2:¬ ((Ds.flatten.length+s:Nat):Int)<(n:Int):=by omega
  rw[K.wT_4,gT_4];simp (maxSteps:=9^7) +contextual only[exa,rA,rB,rC,rD,rE,rF,rG,rH,rI,t,if_false];rw[K.wT_5,gT_5];simp (maxSteps:=9^7) +contextual only[exa,rA,rB,rC,rD,rE,rF,rG,rH,rI,e1,t2,if_false]
theorem stb3(n:Nat)(hn:n<=1000):∀ (m s:Nat) (Bs:List (List α)) (T:List α) (h:Heap),n - s<=m->1<=s->BlkE K s Bs T->(Bs.flatten++T).length=n->h.get (.im 0)=some (RDE K (Bs.flatten++T))->s<=2000 ->
  ∃ Z,Ord (ltK K) Z/\Z.Perm (Bs.flatten++T)/\lim tab.get S K.fT 1 3 [sK K n,kI (n:Int),(fF K),kI (s:Int)] h=some (.tup [],[RDE K Z])
 |m,s,Bs,T,h,hm,hs,b,hl,hg,hs2=>by
  have fl:=qCW s Bs (λB hB=>(b.all B hB).1);have hl':s*Bs.length+T.length=n:=by rw[<- hl,List.length_append,fl]
  by_cases hc:s<n
  ·cases m with
   |zero=>omega
   |succ m =>
    obtain⟨h',Bs',T',b',p',g',e'⟩:=stb4 n hn s hs (by omega) T b.len b.ord Bs.length [] Bs h (Nat.le_refl _) (λB hB=>by cases hB) b.all (by simpa using hl) (by simpa using hg);have p'':(Bs'.flatten++T').Perm (Bs.flatten++T):=by simpa using p'
    obtain⟨Z,o,p,e⟩:=stb3 n hn m (2*s) Bs' T' h' (by omega) (by omega) b' (by rw[p''.length_eq,hl]) g' (by omega);refine⟨Z,o,p.trans p'',?_⟩;have t:(s:Int)<(n:Int):=by omega
    have e2:=qFD s (by omega);have e3:=qIS s (by omega);rw[<- e];rw[K.wT_6,gT_6,qDA,e3] at e';have z:(([]:List (List α)).flatten.length:Int)=0:=rfl;have z2:((([]:List (List α)).flatten.length+2*s:Nat):Int)=((2*s:Nat):Int):=by rw[List.flatten_nil,List.length_nil,Nat.zero_add]
    rw[z,z2] at e';rw[K.wT_3,gT_3];simp (maxSteps:=9^7) +contextual only[exa,rA,rB,rC,rD,rE,rF,rG,rH,rI,t,e2];exact e'
  ·have t:¬ (s:Int)<(n:Int):=by omega
   have fin:=qAP true [] _ rfl hg (qAB _ 0);refine⟨Bs.flatten++T,?_,.refl _,?_⟩
   ·match Bs,b,hl',hl,fl with
    |[],b,_,_,_=>simpa using b.ord
    |[B],b,hl',_,_ =>
     have:T=[]:=List.length_eq_zero_iff.1 (by rw[List.length_singleton,Nat.mul_one] at hl'; omega);rw[this]
     simpa using (b.all B (by simp)).2
    |B::B2::Bs,b,hl',_,_ =>
     rw[List.length_cons,List.length_cons,Nat.mul_succ,Nat.mul_succ] at hl';omega
   ·rw[K.wT_3,gT_3];simp (maxSteps:=9^7) +contextual only[exa,rA,rB,rC,rD,rE,rF,rG,rH,rI,t,fin,if_false,oneOf]
theorem qLS(n:Nat)(hn:n<=1000)(l:List α)(hl:l.length=n):∃ Z,Ord (ltK K) Z/\Z.Perm l/\Om K.fT [sK K n,kI (n:Int),(fF K)] [RDE K l]=some (.tup [],[RDE K Z]):=by
 obtain⟨h',Bs',T,b,p',g',e'⟩:=stb1 n hn l.length [] l (hpE K l) (Nat.le_refl _) (λB hB=>by cases hB) (by simpa using hl) rfl;have p'':(Bs'.flatten++T).Perm l:=by simpa using p'
 obtain⟨Z,o,p,e⟩:=stb3 n hn n 20 Bs' T h' (by omega) (by omega) b (by rw[p''.length_eq,hl]) g' (by omega);refine⟨Z,o,p.trans p'',(qAD (K.nT _ _)).trans ?_⟩;show lim tab.get S K.fT 1 0 [sK K n,kI (n:Int),(fF K)] (hpE K l)=_;rw[K.wT_0,gT_0];exact e'.trans e
theorem qKV(n:Nat)(hn:n<=1000)(l:List α)(hl:l.length=n):∃ Z,Ord (ltK K) Z/\Z.Perm l/\Om K.fE [sK K n,(fF K)] [RDE K l]=some (.tup [],[RDE K Z]):=by
 obtain⟨Z,o,p,e⟩:=qLS n hn l hl;refine⟨Z,o,p,(qAD (K.nE _ _)).trans ?_⟩;show lim tab.get S K.fE 1 0 [sK K n,(fF K)] (hpE K l)=_;have hg:(hpE K l).get (.im 0)=some (RDE K l):=rfl;have fin:=qAP true [] _ rfl (Heap.zput_self (o:=RDE K Z) hg (λe=>by cases e)) (qAB _ 0);have c:=λ{β:Type} {k:KO β} {d:Nat}=>qAh (O:=Om) (k:=k) (d:=d) K.fT (.im 0) [sK K n,kI (n:Int),(fF K)] _ _ _ (.tup []) rfl rfl rfl hg (qAB _ 0) (qAB _ 0) (λ_=>rfl) e
 rw[K.wE_0,gE_0,qCP];refine c.trans ?_;exact fin
end
section
variable {α:Type}
noncomputable def srtK(K:SK α)(l:List α):List α:=if h:l.length<=1000 then Classical.choose (qKV l.length h l rfl) else l
theorem qT7(K:SK α)(l:List α)(h:l.length<=1000):Ord (ltK K) (srtK K l)/\(srtK K l).Perm l/\Om K.fE [sK K l.length,(fF K)] [RDE K l]=some (.tup [],[RDE K (srtK K l)]):=by
 unfold srtK;rw[dif_pos h];exact Classical.choose_spec (qKV l.length h l rfl)
theorem qUB(K:SK α)(l:List α):(srtK K l).Perm l:=by
 by_cases h:l.length<=1000
 ·exact(qT7 K l h).2.1
 ·unfold srtK; rw[dif_neg h]
end
abbrev SKE:SK (LB×TT) where
 z:=5
 row:=λp=>eRow p.1 p.2
 hrow:=λp=>qA0 p.1 p.2
 key:=λp=>p.1
 F:=88
 fI:=148
 fM:=149
 fR:=164
 fS:=170
 fT:=123
 fE:=87
 cmp:=qSu
 nI:=λ_ _=>rfl
 nM:=λ_ _=>rfl
 nR:=λ_ _=>rfl
 nS:=λ_ _=>rfl
 nT:=λ_ _=>rfl
 nE:=λ_ _=>rfl
 wI_0:=by intros;exact w148_0 ..
 wI_1:=by intros;exact w148_1 ..
 wI_2:=by intros;exact w148_2 ..
 wI_3:=by intros;exact w148_3 ..
 wM_0:=by intros;exact w149_0 ..
 wM_1:=by intros;exact w149_1 ..
 wM_2:=by intros;exact w149_2 ..
 wM_3:=by intros;exact w149_3 ..
 wM_4:=by intros;exact w149_4 ..
 wM_5:=by intros;exact w149_5 ..
 wM_6:=by intros;exact w149_6 ..
 wM_7:=by intros;exact w149_7 ..
 wM_8:=by intros;exact w149_8 ..
 wM_9:=by intros;exact w149_9 ..
 wM_10:=by intros;exact w149_10 ..
 wM_11:=by intros;exact w149_11 ..
 wM_12:=by intros;exact w149_12 ..
 wM_13:=by intros;exact w149_13 ..
 wM_14:=by intros;exact w149_14 ..
 wM_15:=by intros;exact w149_15 ..
 wR_0:=by intros;exact w164_0 ..
 wR_1:=by intros;exact w164_1 ..
 wR_2:=by intros;exact w164_2 ..
 wS_0:=by intros;exact w170_0 ..
 wS_1:=by intros;exact w170_1 ..
 wT_0:=by intros;exact w123_0 ..
 wT_1:=by intros;exact w123_1 ..
 wT_2:=by intros;exact w123_2 ..
 wT_3:=by intros;exact w123_3 ..
 wT_4:=by intros;exact w123_4 ..
 wT_5:=by intros;exact w123_5 ..
 wT_6:=by intros;exact w123_6 ..
 wE_0:=by intros;exact w87_0 ..
def ltE(p q:LB×TT):Bool:=bless p.1 q.1
theorem qBQ(p q:LB×TT)(h:ltE p q=true):ltE q p=false:=qDt _ _ h
theorem qAe(p q r:LB×TT)(h1:ltE q p=false)(h2:ltE r q=false):ltE r p=false:=qEg p.1 q.1 r.1 h1 h2
noncomputable def sortedM(l:Es):Es:=srtK SKE l
theorem qC4(l:Es)(h:l.length<=1000):Ord ltE (sortedM l)/\(sortedM l).Perm l/\Om 87 [sE0 l.length,F88] [.cells (pcells (eRows l)) 0]=some (.tup [],[.cells (pcells (eRows (sortedM l))) 0]):=qT7 SKE l h
theorem qBX(l:Es):(sortedM l).Perm l:=qUB SKE l
theorem qGm(l:Es):(sortedM l).length=l.length:=(qBX l).length_eq
end Go.Proofs.YtnlmlcfipbnpgaaDoor.Ab
namespace Go.AI
theorem qRF{h:Heap}(vs:List Comp)(o:AObj)(hv:vs.all compPT=true)(hg:h.get (.im 0)=some o)(ho:plainO o):vfin true 1 vs h=some (oneOf (vs.map Comp.strip),[o]):=by
 letI:Sym:=⟨λ_=>0⟩
 rw[qCL];obtain⟨e1,e2⟩:=qFR h vs hv;have ef:freezeT h (oneOf vs)=some (oneOf (vs.map Comp.strip),[]):=by
  match vs,hv,e1,e2 with
  |[],_,_,_=>rfl
  |[x],hv,_,_ =>
   rw[List.all_cons,Bool.and_eq_true] at hv;show(freezeC h x).map _=_;rw[(qD2 h x hv.1).1]; rfl
  |x::y::vs,_,e1,_ =>
   show((x::y::vs).mapM (freezeC h)).map _=_;rw[e1];show some (TVal.tup (((x::y::vs).map λx=>(x.strip,([]:List Ref))).map (·.1)),((x::y::vs).map λx=>(x.strip,([]:List Ref))).flatMap (·.2))=_
   congr 2
   ·rw[List.map_map]; rfl
   ·generalize (x::y::vs)=l
    induction l with
    |nil=>rfl
    |cons a l ih=>rw[List.map_cons,List.flatMap_cons,ih]; rfl
 obtain⟨q1,q2,q3,q4⟩:=qAk (qDj e2);unfold finV;rw[show ims 1=[Ref.im 0] from rfl];simp[ef,settle,hg,ho.1,q1,q3,reach,fuelReach,ho.2]
end Go.AI
namespace Go.Proofs.YtnlmlcfipbnpgaaDoor.Ab
open Go Go.AI
def kRow(p:LB×TT):List PVal:=sRow p.1
def vRow(p:LB×TT):List PVal:=p.2.row
abbrev q3:TVal:=.v (.c (.ptr (.own 3 1) 0))
abbrev q6:TVal:=.v (.c (.ptr (.own 6 1) 0))
abbrev q7:TVal:=.v (.c (.ptr (.own 7 1) 0))
abbrev q8:TVal:=.v (.c (.ptr (.own 8 1) 0))
abbrev sE1(n:Nat):TVal:=.v (.c (.sref (.im 1) 0 n none 5))
structure TS (h:Heap) (L:List Tok) (s:RS) (kd:Int) (l:Es) (i:Nat):Prop where
 g0:h.get (.im 0)=some (rO L s)
 g1:h.get (.im 1)=some (.cells (pcells (eRows l)) 0)
 o3:h.get (.own 3 1)=some (boxO 0)
 o6:h.get (.own 6 1)=some (.cells z4 0)
 o7:h.get (.own 7 1)=some (.cells [.sref (.im 1) 0 l.length none 5] 0)
 o8:∃ K E,h.get (.own 8 1)=some (.cells [.p (.int .i64 kd),.p (.str []),K,E] 0)/\(GS [56] 1 K ((l.take i).map kRow) h/\Bears 1 K ((l.take i).map kRow))/\GS [62] 4 E ((l.take i).map vRow) h/\Bears 4 E ((l.take i).map vRow)
theorem qEO{α β:Type}(f:α->β)(l:List α)(i:Nat)(a:α)(h:l[i]?=some a):(l.take (i+1)).map f=(l.take i).map f++[f a]:=by
 rw[List.take_add_one,h,List.map_append]; rfl
def adjM(l:Es):Nat->Bool
 |0=>false
 |j+1=>match l[j]?,l[j+1]? with
  |some q,some p=>decide (q.1=p.1)
  |_,_=>false
theorem qQI{h:Heap}{L:List Tok}{s:RS}{kd:Int}{l:Es}{i:Nat}(A:TS h L s kd l i)(p:LB×TT)(hp:l[i]?=some p)(hl:l.length<=1000) :
  ∃ h',TS h' L { s with tw:=s.tw||adjM l i } kd l (i+1)/\lim tab.get S 57 1 1 [q3,q6,q7,q8,sE1 l.length,kI (l.length:Int),kI (i:Int)] h=lim tab.get S 57 1 1 [q3,q6,q7,q8,sE1 l.length,kI (l.length:Int),kI ((i+1:Nat):Int)] h':=by
 obtain⟨K,E,o8,⟨GK,BK⟩,GE,BE⟩:=A.o8;have hi:i<l.length:=(List.getElem?_eq_some_iff.1 hp).1;have lt:(i:Int)<(l.length:Int):=by omega
 have tl:(l.take i).length<=1000:=by simp; omega
 have gp:=qDV l i p hp;have pp:(pcells (eRow p.1 p.2)).length=5:=by rw[qAN,qA0]
 have PA:put1 z5 0 (pcells (eRow p.1 p.2))=pcells (eRow p.1 p.2):=qBA _ _ (by rw[pp]; rfl);generalize hb:(s.tw||adjM l i)=b;generalize hH1:(h.own 10 (h.gen 10+1) (.cells z5 0)).own 10 (h.gen 10+1) (.cells (pcells (eRow p.1 p.2)) 0)=H1;have k1:∀ (d:Nat) (o:AObj),d≠10->h.get (.own d 1)=some o->H1.get (.own d 1)=some o:=λd o hd ho=>by rw[<- hH1,Heap.own_get_ne _ _ _ _ _ _ (Ne.symm hd),Heap.own_get_ne _ _ _ _ _ _ (Ne.symm hd),ho]
 have H1i:∀ j,H1.get (.im j)=h.get (.im j):=λj=>by rw[<- hH1]; rfl
 have a0:H1.get (.im 0)=some (rO L s):=(H1i 0).trans A.g0;have a1:H1.get (.im 1)=some (.cells (pcells (eRows l)) 0):=(H1i 1).trans A.g1;have a3:=k1 3 _ (by decide) A.o3;have a7:=k1 7 _ (by decide) A.o7;have a8:=k1 8 _ (by decide) o8;have a10:H1.get (.own 10 (h.gen 10+1))=some (.cells (pcells (eRow p.1 p.2)) 0):=by rw[<- hH1]; exact Heap.own_get _ _ _ _ (by decide) (λe=>by cases e)
 generalize hH2:H1.put (.im 0) (rO L { s with tw:=b })=H2;have b0:H2.get (.im 0)=some (rO L { s with tw:=b }):=by rw[<- hH2]; exact Heap.zput_self a0 (λe=>by cases e)
 have b1:H2.get (.im 1)=some (.cells (pcells (eRows l)) 0):=by rw[<- hH2]; exact(Heap.zput_ne a0 (by decide)).trans a1
 have ko:∀ d g,H2.get (.own d g)=H1.get (.own d g):=λd g=>by rw[<- hH2]; rfl
 have b8:H2.get (.own 8 1)=some (.cells [.p (.int .i64 kd),.p (.str []),K,E] 0):=(ko 8 1).trans (k1 8 _ (by decide) o8);have b10:H2.get (.own 10 (h.gen 10+1))=some (.cells (pcells (eRow p.1 p.2)) 0):=(ko 10 _).trans a10;have GK2:GS [56] 1 K ((l.take i).map kRow) H2:=by
  rw[<- hH2,<- hH1]; exact((GK.own _ _ (by decide)).own _ _ (by decide)).keep λ_ _ _ hh=>hh
 have GE2:GS [62] 4 E ((l.take i).map vRow) H2:=by
  rw[<- hH2,<- hH1]; exact((GE.own _ _ (by decide)).own _ _ (by decide)).keep λ_ _ _ hh=>hh
 obtain⟨c1,h1,t1,G1,e1,T1,K1,I1',X1⟩:=qML (h:=H2) (d:=56) (D:=[56]) (sz:=1) (by':=16) (new:=[[.str p.1]]) (b:=.slice 1 true [[.str p.1]]) (.inr ⟨true,rfl⟩) GK2 (by decide) (λr hr=>by simp at hr; rw[hr]; rfl) (by simp; omega) (by decide);have GE3:GS [62] 4 E ((l.take i).map vRow) h1:=GE2.keep λe he g hh=>K1 e g _ (by revert he; simp; omega) hh
 obtain⟨c2,h2,t2,G2,e2,T2,K2,I2',X2⟩:=qML (h:=h1) (d:=62) (D:=[62]) (sz:=4) (by':=72) (new:=[p.2.row]) (b:=.slice 4 true [p.2.row]) (.inr ⟨true,rfl⟩) GE3 (by decide) (λr hr=>by simp at hr; rw[hr]; exact TT.row_len _) (by simp; omega) (by decide);have G1':=G1.keep (h':=h2) λe he g hh=>K2 e g _ (by revert he; simp; omega) hh
 have k8:=K1 8 1 _ (by decide) b8;have k10:=K1 10 _ _ (by decide) b10;have k82:=K2 8 1 _ (by decide) k8;have B1:∀ {β:Type}{O:Oracle}{h:Heap}{d:Nat}{kt:KT β},vtouch O (.bslice 1 1 [.p (.str [])] [(0,.k (kS p.1))] false) h d kt=kt (kSl 1 true [[.str p.1]]) h noTouch:=qMZ _ _ rfl;have B2:∀ {β:Type}{O:Oracle}{h:Heap}{d:Nat}{kt:KT β},vtouch O (.bslice 4 1 z4 [(0,.k (.v (.agg (pcells p.2.row))))] false) h d kt=kt (kSl 4 true [p.2.row]) h noTouch:=qLb 4 _ _ rfl (TT.row_len p.2);have A1:AI.Touch.apart t1 ⟨[(Ref.own 8 1).site],[],false⟩=true:=qEe T1 8 (by decide);have A2:AI.Touch.apart t1 ⟨[(Ref.own 10 (h.gen 10+1)).site],[],false⟩=true:=qEe T1 10 (by decide);have R1:(pcells (eRow p.1 p.2))[0]?=some (.p (.str p.1)):=rfl;have R2:((pcells (eRow p.1 p.2)).drop 1).take 4=pcells p.2.row:=by
  show(pcells p.2.row).take 4=_;exact List.take_of_length_le (Nat.le_of_eq (by rw[qAN,TT.row_len]))
 have R3:(pcells p.2.row).length=4:=by rw[qAN,TT.row_len]
 have P1:∀ a b d:Cell,put1 [a,b,K,d] 2 [c1]=[a,b,c1,d]:=λ_ _ _=>rfl
 have P2:∀ a b:Cell,put1 [a,b,c1,E] 3 [c2]=[a,b,c1,c2]:=λ_ _=>rfl
 have P3:∀ a b c d x:Cell,put1 [a,b,c,d] 3 [x]=[a,b,c,x]:=λ_ _ _ _ _=>rfl
 refine⟨(h2.own 8 1 (.cells [.p (.int .i64 kd),.p (.str []),c1,E] 0)).own 8 1 (.cells [.p (.int .i64 kd),.p (.str []),c1,c2] 0),?_,?_⟩
 ·have mk:=qEO kRow l i p hp;have mv:=qEO vRow l i p hp;obtain⟨r1,er1⟩:=X1 (.inl (by simp));obtain⟨r2,er2⟩:=X2 (.inl (by simp));have own2:∀ (d:Nat) (o x y:AObj),d≠8->d∉[56]->d∉[62]->d≠10->h.get (.own d 1)=some o->((h2.own 8 1 x).own 8 1 y).get (.own d 1)=some o:=λd o x y hd h56 h62 h10 ho=>by
   rw[Heap.own_get_ne _ _ _ _ _ _ (Ne.symm hd),Heap.own_get_ne _ _ _ _ _ _ (Ne.symm hd)];exact K2 d 1 _ h62 (K1 d 1 _ h56 ((ko d 1).trans (k1 d _ h10 ho)))
  refine⟨?_,?_,own2 3 _ _ _ (by decide) (by decide) (by decide) (by decide) A.o3,own2 6 _ _ _ (by decide) (by decide) (by decide) (by decide) A.o6,own2 7 _ _ _ (by decide) (by decide) (by decide) (by decide) A.o7,c1,c2,Heap.own_get _ 8 1 _ (by decide) (λe=>by cases e),?_,?_⟩
  ·exact(I2' 0).trans ((I1' 0).trans b0)
  ·exact(I2' 1).trans ((I1' 1).trans b1)
  ·rw[mk];exact⟨(G1'.own 1 _ (by decide)).own 1 _ (by decide),.inr ⟨by simp,r1,er1⟩⟩
  ·rw[mv];exact⟨(G2.own 1 _ (by decide)).own 1 _ (by decide),.inr ⟨by simp,r2,er2⟩⟩
 ·have AB:∀ (T:AI.Touch),AI.Touch.apart noTouch noTouch=true:=λ_=>rfl
  rw[w57_1,b57_1];cases ht:s.tw with
  |true =>
   rw[ht,Bool.true_or] at hb;subst hb;simp (maxSteps:=9^7) +contextual only[exa,rA,rB,rC,rD,rE,rF,rG,rH,rI,exW,exY,lt,hi,A.g1,gp,pp,PA,Int.toNat_natCast,hH1,hH2,a0,a3,A.o3,A.o7,A.g0,a7,a1,a8,a10,ht,b8,b10,k8,k10,k82,e1,e2,qAv,B1,B2,A1,A2,R1,R2,R3,P1,P2,P3,qBq i (by omega),Nat.le_refl,oneOf]
  |false =>
   rw[ht,Bool.false_or] at hb;cases i with
   |zero =>
    have hb':b=false:=hb.symm;subst hb';have z:¬ (0:Int)<((0:Nat):Int):=by decide
    rw[Nat.zero_mul,List.drop_zero] at gp;have w0:IntKind.i64.wrap (((0:Nat):Int)+1)=((0+1:Nat):Int):=by decide
    simp (maxSteps:=9^7) +contextual only[exa,rA,rB,rC,rD,rE,rF,rG,rH,rI,exW,exY,lt,hi,A.g1,gp,pp,PA,Int.toNat_natCast,hH1,hH2,a0,a3,A.o3,A.o7,A.g0,a7,a1,a8,a10,ht,b8,b10,k8,k10,k82,e1,e2,qAv,B1,B2,A1,A2,R1,R2,R3,P1,P2,P3,z,w0,Nat.zero_mul,Nat.le_refl,oneOf]
   |succ j =>
    obtain⟨q,hq⟩:∃ q,l[j]?=some q:=⟨l[j]'(by omega),by simp⟩;have gq:=qDV l j q hq;have gq0:(pcells (eRows l))[j*5]?=some (.p (.str q.1)):=by
     have:(((pcells (eRows l)).drop (j*5)).take 5)[0]?=(pcells (eRows l))[j*5]?:=by
      rw[List.getElem?_take,if_pos (by decide),List.getElem?_drop,Nat.add_zero]
     rw[<- this,gq]; rfl
    have z:(0:Int)<((j+1:Nat):Int):=by omega
    have ew:IntKind.i64.wrap (((j+1:Nat):Int) - 1)=((j:Nat):Int):=by rw[qAL _ (by omega) (by omega)]; omega
    have t3:(0:Int)<=((j:Nat):Int):=by omega
    have t5:j<l.length:=by omega
    have ha:adjM l (j+1)=decide (q.1=p.1):=by
     show(match l[j]?,l[j+1]? with|some q,some p=>decide (q.1=p.1)|_,_=>false)=_;rw[hq,hp]
    rw[ha] at hb;by_cases hk:q.1=p.1
    ·rw[decide_eq_true hk] at hb;subst hb;simp (maxSteps:=9^7) +contextual only[exa,rA,rB,rC,rD,rE,rF,rG,rH,rI,exW,exY,lt,hi,A.g1,gp,pp,PA,Int.toNat_natCast,hH1,hH2,a0,a3,A.o3,A.o7,A.g0,a7,a1,a8,a10,ht,b8,b10,k8,k10,k82,e1,e2,qAv,B1,B2,A1,A2,R1,R2,R3,P1,P2,P3,z,ew,t3,t5,gq0,hk,qBq (j+1) (by omega),Nat.le_refl,oneOf]
    ·rw[decide_eq_false hk] at hb;subst hb;simp (maxSteps:=9^7) +contextual only[exa,rA,rB,rC,rD,rE,rF,rG,rH,rI,exW,exY,lt,hi,A.g1,gp,pp,PA,Int.toNat_natCast,hH1,hH2,a0,a3,A.o3,A.o7,A.g0,a7,a1,a8,a10,ht,b8,b10,k8,k10,k82,e1,e2,qAv,B1,B2,A1,A2,R1,R2,R3,P1,P2,P3,z,ew,t3,t5,gq0,hk,qBq (j+1) (by omega),Nat.le_refl,oneOf]
def twM(l:Es)(b:Bool):Nat->Bool
 |0=>b
 |i+1=>twM l b i||adjM l i
theorem qI0{L:List Tok}{s:RS}{kd:Int}{l:Es}(hl:l.length<=1000):∀ (m i:Nat) (h:Heap),i+m=l.length->TS h L { s with tw:=twM l s.tw i } kd l i ->
  ∃ h',TS h' L { s with tw:=twM l s.tw l.length } kd l l.length/\lim tab.get S 57 1 1 [q3,q6,q7,q8,sE1 l.length,kI (l.length:Int),kI (i:Int)] h=lim tab.get S 57 1 2 [q6,q8] h'
 |0,i,h,hi,A=>by
  have hi:i=l.length:=by omega
  subst hi;refine⟨h,A,?_⟩;have lt:¬ (l.length:Int)<(l.length:Int):=by omega
  rw[w57_1,b57_1];simp (maxSteps:=9^7) +contextual only[exa,rA,rB,rC,rD,rE,rF,rG,rH,rI,lt,if_false]
 |m+1,i,h,hi,A=>by
  obtain⟨p,hp⟩:∃ p,l[i]?=some p:=⟨l[i]'(by omega),by simp⟩;obtain⟨h1,A1,e1⟩:=qQI A p hp hl;obtain⟨h2,A2,e2⟩:=qI0 (L:=L) (s:=s) (kd:=kd) hl m (i+1) h1 (by omega) A1;exact⟨h2,A2,e1.trans e2⟩
def recT(kd:Int)(l:Es):TT:=.mk kd [] (grown (l.map (·.1))) (grown (l.map (·.2)))
theorem qPo(kd:Int)(l:Es):(recT kd l).row=[.int .i64 kd,.str [],growP 1 (l.map kRow),growP 4 (l.map vRow)]:=by
 have e1:growP 1 (l.map kRow)=slP 1 sRow (grown (l.map (·.1))):=by
  rw[<- qEU,List.map_map]; rfl
 have e2:growP 4 (l.map vRow)=slP 4 TT.row (grown (l.map (·.2))):=by
  rw[<- qEU,List.map_map]; rfl
 rw[e1,e2];unfold recT;rw[TT.row_eq];rfl
theorem qRW{h:Heap}{L:List Tok}{s:RS}{kd:Int}{l:Es}(A:TS h L s kd l l.length):lim tab.get S 57 1 2 [q6,q8] h=some (kA (recT kd l).row,[rO L s]):=by
 obtain⟨K,E,o8,⟨GK,BK⟩,GE,BE⟩:=A.o8;rw[List.take_length] at BK BE;have P:∀ a b c d:Cell,put1 z4 0 [a,b,c,d]=[a,b,c,d]:=λ_ _ _ _=>qBA _ _ rfl
 have fin:∀ h:Heap,h.get (.im 0)=some (rO L s)->vfin true 1 [.agg [.p (.int .i64 kd),.p (.str []),K,E]] h=some (kA (recT kd l).row,[rO L s]):=by
  intro h hg;rw[qRF _ (rO L s) (by show([Cell.p (.int .i64 kd),.p (.str []),K,E].all isPT&&true)=true; simp only[List.all_cons,List.all_nil,BK.pt,BE.pt]; rfl) hg (qAC L s)];show some (TVal.v (.agg [.p (.int .i64 kd),.p (.str []),K.strip,E.strip]),_)=_;rw[BK.strip,BE.strip,qPo];rfl
 rw[w57_2,b57_2];simp (maxSteps:=9^7) +contextual only[exa,rA,rB,rC,rD,rE,rF,rG,rH,rI,exW,exY,o8,A.o6,P,Nat.le_refl,oneOf];exact fin _ A.g0
def opnM(L:List Tok)(s:RS):RS:=mustM (takeM 4 L s [123]) (isM 4 L s [123])
theorem qGw{L:List Tok}{s:RS}(h:s.p<=L.length):(opnM L s).p<=L.length:=by
 unfold opnM;rw[qBS];unfold takeM;split
 ·rename_i hi;have:=(qBC (by decide) hi).2;show s.p+1<=_; omega
 ·exact h
theorem qK7:sortedM []=[]:=List.perm_nil.1 (qBX [])
noncomputable def recdM(sub:RS->TT×RS)(L:List Tok)(kd:Int)(s:RS):TT×RS :=
 (recT kd (sortedM (rowM sub L [125] (opnM L s)).1),{ (rowM sub L [125] (opnM L s)).2 with tw:=twM (sortedM (rowM sub L [125] (opnM L s)).1) (rowM sub L [125] (opnM L s)).2.tw (sortedM (rowM sub L [125] (opnM L s)).1).length })
theorem qRI{β:Type}{O:Oracle}{k:KO β}{h:Heap}{d:Nat}(f:FuncId)(a b c:Ref):vop O (.mkfn f [.k (.v (.c (.ptr a 0))),.k (.v (.c (.ptr b 0))),.k (.v (.c (.ptr c 0)))]) h d k=k (.v (.c (.func f [a,b,c]))) h:=qAx _ _ rfl
theorem qQ0:Om 87 [.v (.c (.p .nilslice)),F88] []=some (.tup [],[]):=(qAD rfl).trans (qBt blks_ok 300 87 0 0 _ _ _ (by kernel_rfl))
theorem c87n{β:Type}{k:KO β}{h:Heap}{e:Nat}:vcall Om (F_ 87) [.v (.c (.p .nilslice)),F88] h e k=k (.tup []) h:=by
 have e2:reach h fuelReach ([TVal.v (.c (.p .nilslice)),F88].flatMap TVal.refs) []=[]:=qAc _ _;rw[qDb 87 _ _ _ [] [] [] [] (.tup []) rfl e2 rfl rfl rfl qQ0 (Nat.le_refl _)];rfl
theorem qTr{d:Int}{L:List Tok}{sub:RS->TT×RS}{okP:RS->Prop}(ok:SubOK d L sub okP)(hd:0<=d/\d<=100)(hL:L.length<=1000)(kd:Int)(s:RS)(hs:s.p<=L.length)(ro:rowOK sub okP L [125] (opnM L s))(hn:(rowM sub L [125] (opnM L s)).1.length<=1000) :
  Om 57 [P0,kI kd,kI d] [rO L s]=some (kA (recdM sub L kd s).1.row,[rO L (recdM sub L kd s).2]):=by
 refine(qAD rfl).trans ?_;show lim tab.get S 57 1 0 [P0,kI kd,kI d] (Heap.mk [rO L s] .nil)=_;have hp0:=qGw hs;have c41:∀ {β:Type}{h:Heap}{e:Nat}{kt:KT β},h.get (.im 0)=some (rO L s)->vtouch Om (.call (.k (F_ 41)) [.k (.v (.c (.ptr (.im 0) 0))),.k (kS [123])]) h e kt=kt (kB (isM 4 L s [123])) (h.put (.im 0) (rO L (takeM 4 L s [123]))) ⟨[(Ref.im 0).site,(Ref.im 0).site],[(Ref.im 0).site],false⟩:=λ{β h e kt} hg =>
  qBE 41 (.im 0) (kS [123]) _ _ _ rfl rfl hg (qAC L _) (qAC L _) (qDE L _ (by omega) [123])
 have c39:∀ {β:Type}{h:Heap}{e:Nat}{kt:KT β},h.get (.im 0)=some (rO L (takeM 4 L s [123]))->vtouch Om (.call (.k (F_ 39)) [.k (.v (.c (.ptr (.im 0) 0))),.k (kB (isM 4 L s [123]))]) h e kt=kt (.tup []) (h.put (.im 0) (rO L (opnM L s))) ⟨[(Ref.im 0).site,(Ref.im 0).site],[(Ref.im 0).site],false⟩:=λ{β h e kt} hg =>
  qBE 39 (.im 0) (kB (isM 4 L s [123])) _ _ _ rfl rfl hg (qAC L _) (qAC L _) (qB5 L _ _)
 unfold recdM;have hrm:=qO6 ok hd hL [125] (opnM L s) hp0 ro;have hrn:=qOg (d:=d) (sub:=sub) hL [125] (opnM L s) hp0;have hr0:isM 4 L (opnM L s) [125]=true->(rowM sub L [125] (opnM L s)).1=[]:=λe=>by unfold rowM; rw[if_pos e]
 have hr1:isM 4 L (opnM L s) [125]=false->(rowM sub L [125] (opnM L s)).1≠[]:=λe=>by
  unfold rowM;rw[if_neg (by rw[e]; decide)];have:∀ (f:Nat) (s:RS) (acc:Es),acc≠[]->(loopM sub L [125] f s acc).1≠[]:=by
   intro f
   induction f with
   |zero=>intro s acc h; exact h
   |succ f ih =>
    intro s acc h;unfold loopM;split
    ·exact ih _ _ (by simp)
    ·exact h
  exact this _ _ _ (by simp)
 generalize hr:rowM sub L [125] (opnM L s)=r at *;generalize hs0:opnM L s=s0 at *;generalize hbc:isM 4 L s [123]=bc at *;generalize hs2:takeM 4 L s [123]=s2 at *;have T:AI.Touch.apart ⟨[(Ref.own 3 1).site],[],false⟩ ⟨[(Ref.im 0).site,(Ref.im 0).site],[(Ref.im 0).site],false⟩=true:=rfl;rw[w57_0,b57_0];simp (maxSteps:=9^7) +contextual only[exa,rA,rB,rC,rD,rE,rF,rG,rH,rI,exW,exY,qRI,c41,c39,oneOf,T];generalize hh:((((((Heap.mk [rO L s] .nil).own 3 1 (.cells [.ptr (.im 0) 0] 0)).own 5 1 (.cells [.p (.int .i64 d)] 0)).own 6 1 (.cells z4 0)).own 7 1 (.cells [.p .nilslice] 0)).put (.im 0) (rO L s2)).put (.im 0) (rO L s0)=h;have F0:h.get (.im 0)=some (rO L s0):=by rw[<- hh]; rfl
 have F3:h.get (.own 3 1)=some (boxO 0):=by rw[<- hh]; rfl
 have F5:h.get (.own 5 1)=some (intO d):=by rw[<- hh]; rfl
 have F6:h.get (.own 6 1)=some (.cells z4 0):=by rw[<- hh]; rfl
 have F7:h.get (.own 7 1)=some (.cells [.p .nilslice] 0):=by rw[<- hh]; rfl
 have Fl:h.ims.length=1:=by rw[<- hh]; rfl
 have F8:h.gen 8=0:=by rw[<- hh]; rfl
 clear hh;have hreach:reach h fuelReach ([P0,kS [125],.v (.c (.func 86 [.own 3 1,.own 5 1,.own 7 1]))].flatMap TVal.refs) []=[.im 0,.own 3 1,.own 5 1,.own 7 1]:=by
  show reach h (394+1+1+1+1+1+1) [.im 0,.own 3 1,.own 5 1,.own 7 1] []=_;rw[qAK _ (.im 0) _ _ _ (by decide) F0,(qAC L s0).1];show reach h (394+1+1+1+1+1) [.own 3 1,.own 5 1,.own 7 1] [.im 0]=_;rw[qAK _ (.own 3 1) _ _ _ (by decide) F3];show reach h (394+1+1+1+1) [.im 0,.own 5 1,.own 7 1] [.im 0,.own 3 1]=_;rw[qA1 _ _ _ _ (by decide),qAK _ (.own 5 1) _ _ _ (by decide) F5];show reach h (394+1+1) [.own 7 1] [.im 0,.own 3 1,.own 5 1]=_;rw[qAK _ (.own 7 1) _ _ _ (by decide) F7];exact qAc _ _
 have hm:([.im 0,.own 3 1,.own 5 1,.own 7 1]:List Ref).mapM h.get=some [rO L s0,boxO 0,intO d,.cells [.p .nilslice] 0]:=by
  simp only[List.mapM_cons,List.mapM_nil,F0,F3,F5,F7,Option.pure_def,rL,Option.bind_some]
 have e5:([rO L s0,boxO 0,intO d,.cells [.p .nilslice] 0]:List AObj).map (AObj.ren (inn [.im 0,.own 3 1,.own 5 1,.own 7 1]))=[rO L s0,boxO 0,intO d,.cells [.p .nilslice] 0]:=by
  rw[List.map_cons,(qAC L s0).2]; rfl
 cases hx:isM 4 L s0 [125] with
 |true =>
  have hc66:=hrn hx;have h10:=hr0 hx;have e6:∀ σ:Ref->Option Ref,([rO L r.2,boxO 0,intO d,.cells [.p .nilslice] 0]:List AObj).length=4:=λ_=>rfl
  obtain⟨h1,hc,B⟩:=qBz (O:=Om) (h:=h) 66 [P0,kS [125],.v (.c (.func 86 [.own 3 1,.own 5 1,.own 7 1]))] _ [P0,kS [125],F86] _ _ _ _ _ (.tup []) rfl hreach hm rfl e5 hc66 (Nat.le_refl 4) (by decide) rfl;have G0:h1.get (.im 0)=some (rO L r.2):=B.own 0 (.im 0) _ rfl (by show some ((rO L r.2).ren _)=_; rw[(qAC L r.2).2]) (λe=>by cases e);have G3:h1.get (.own 3 1)=some (boxO 0):=B.own 1 (.own 3 1) _ rfl rfl (λe=>by cases e);have G6:h1.get (.own 6 1)=some (.cells z4 0):=B.old (.own 6 1) _ (by decide) F6;have G7:h1.get (.own 7 1)=some (.cells [.p .nilslice] 0):=B.own 3 (.own 7 1) _ rfl rfl (λe=>by cases e);have G8:h1.gen 8=0:=(B.gen 8).trans F8;rw[hc];have z:¬ (0:Int)<(0:Int):=by decide
  have P:∀ a b c d:Cell,put1 z4 0 [a,b,c,d]=[a,b,c,d]:=λ_ _ _ _=>qBA _ _ rfl
  rw[h10,qK7];simp (maxSteps:=9^7) +contextual only[exa,rA,rB,rC,rD,rE,rF,rG,rH,rI,exW,exY,G7,c87n,G8,oneOf];rw[w57_1,b57_1];simp (maxSteps:=9^7) +contextual only[exa,rA,rB,rC,rD,rE,rF,rG,rH,rI,exW,exY,z,if_false,oneOf];rw[w57_2,b57_2];simp (maxSteps:=9^7) +contextual only[exa,rA,rB,rC,rD,rE,rF,rG,rH,rI,exW,exY,G6,P,Nat.le_refl,oneOf];exact qAP true [.agg (pcells (recT kd []).row)] _ (by simp only[exP]) G0 (qAC L r.2)
 |false =>
  have hc66:=hrm hx;have hne:=hr1 hx;have hl0:1<=r.1.length:=List.length_pos_iff.2 hne;have pl:=qAB (eRows r.1) 0;have so:=qGm r.1;obtain⟨h1,hc,B⟩:=qBz (O:=Om) (h:=h) 66 [P0,kS [125],.v (.c (.func 86 [.own 3 1,.own 5 1,.own 7 1]))] _ [P0,kS [125],F86] _ _ _ _ _ (.tup []) rfl hreach hm rfl e5 hc66 (show(4:Nat)<=5 by decide) (by decide) rfl;have G0:h1.get (.im 0)=some (rO L r.2):=B.own 0 (.im 0) _ rfl (by show some ((rO L r.2).ren _)=_; rw[(qAC L r.2).2]) (λe=>by cases e);have G3:h1.get (.own 3 1)=some (boxO 0):=B.own 1 (.own 3 1) _ rfl rfl (λe=>by cases e);have G6:h1.get (.own 6 1)=some (.cells z4 0):=B.old (.own 6 1) _ (by decide) F6;have G7:h1.get (.own 7 1)=some (.cells [.sref (.im (h.ims.length+0)) 0 r.1.length none 5] 0):=B.own 3 (.own 7 1) _ rfl rfl (λe=>by cases e);have G1:h1.get (.im (h.ims.length+0))=some (.cells (pcells (eRows r.1)) 0):=B.new 0 _ (congrArg some (pl.2 _)) (λe=>by cases e);have G8:h1.gen 8=0:=(B.gen 8).trans F8;rw[Fl] at G7 G1;rw[hc];have c87:=λ{β:Type} {k:KO β} {e:Nat}=>qAh (O:=Om) (k:=k) (d:=e) 87 (.im 1) [sE1 r.1.length,F88] [sE0 r.1.length,F88] _ _ (.tup []) rfl rfl rfl G1 (qAB _ 0) (qAB (eRows (sortedM r.1)) 0) (λ_=>rfl) (qC4 r.1 hn).2.2
  simp (maxSteps:=9^7) +contextual only[exa,rA,rB,rC,rD,rE,rF,rG,rH,rI,exW,exY,G7,oneOf];refine(c87).trans ?_;show _=some (kA (recT kd (sortedM r.1)).row,[rO L { r.2 with tw:=twM (sortedM r.1) r.2.tw (sortedM r.1).length }]);have K0:(h1.put (.im 1) (.cells (pcells (eRows (sortedM r.1))) 0)).get (.im 0)=some (rO L r.2):=(Heap.zput_ne G1 (by decide)).trans G0;have K1:(h1.put (.im 1) (.cells (pcells (eRows (sortedM r.1))) 0)).get (.im 1)=some (.cells (pcells (eRows (sortedM r.1))) 0):=Heap.zput_self G1 (λe=>by cases e);have K3:(h1.put (.im 1) (.cells (pcells (eRows (sortedM r.1))) 0)).get (.own 3 1)=some (boxO 0):=G3;have K6:(h1.put (.im 1) (.cells (pcells (eRows (sortedM r.1))) 0)).get (.own 6 1)=some (.cells z4 0):=G6;have K7:(h1.put (.im 1) (.cells (pcells (eRows (sortedM r.1))) 0)).get (.own 7 1)=some (.cells [.sref (.im 1) 0 r.1.length none 5] 0):=G7;have K8:(h1.put (.im 1) (.cells (pcells (eRows (sortedM r.1))) 0)).gen 8=0:=G8;rw[<- so] at K7;rw[<- so] at hn;generalize sortedM r.1=Y at *;generalize h1.put (.im 1) (.cells (pcells (eRows Y)) 0)=h2 at K0 K1 K3 K6 K7 K8;simp (maxSteps:=9^7) +contextual only[exa,rA,rB,rC,rD,rE,rF,rG,rH,rI,exW,exY,K7,K8,oneOf];have A:TS ((h2.own 8 1 (.cells z4 0)).own 8 1 (.cells [.p (.int .i64 kd),.p (.str []),.p .nilslice,.p .nilslice] 0)) L { r.2 with tw:=twM Y r.2.tw 0 } kd Y 0:=by
   have k:∀ (d:Nat) (o x y:AObj),d≠8->h2.get (.own d 1)=some o->((h2.own 8 1 x).own 8 1 y).get (.own d 1)=some o:=λd o x y hd ho=>by rw[Heap.own_get_ne _ _ _ _ _ _ (Ne.symm hd),Heap.own_get_ne _ _ _ _ _ _ (Ne.symm hd),ho]
   exact⟨K0,K1,k 3 _ _ _ (by decide) K3,k 6 _ _ _ (by decide) K6,k 7 _ _ _ (by decide) K7,.p .nilslice,.p .nilslice,Heap.own_get _ 8 1 _ (by decide) (λe=>by cases e),⟨.inl ⟨rfl,rfl⟩,.inl ⟨rfl,rfl⟩⟩,.inl ⟨rfl,rfl⟩,.inl ⟨rfl,rfl⟩⟩
  obtain⟨h3,A3,e3⟩:=qI0 (L:=L) (s:=r.2) (kd:=kd) (l:=Y) (by omega) Y.length 0 _ (by omega) A;exact e3.trans (qRW A3)
theorem qUe{L:List Tok}{s:RS}(he:s.e=0){t:Tok}(ht:L[s.p]?=some t):peekM L s=t:=by unfold peekM; rw[if_pos he,ht]; rfl
theorem qUK{L:List Tok}{s:RS}(h:¬ (s.e=0/\s.p<L.length)):peekM L s=Tok.zero:=by
 unfold peekM;by_cases he:s.e=0
 ·rw[if_pos he,List.getElem?_eq_none (by have:=λhp=>h ⟨he,hp⟩; omega)]; rfl
 ·rw[if_neg he]
def risM(L:List Tok)(s:RS)(x:LB):Bool:=decide ((peekM L s).text=x) && !decide ((peekM L s).kind=2)
theorem qYT(L:List Tok)(s:RS)(x:LB)(hx:x≠[]):Om 60 [P0,kS x] [rO L s]=some (kB (risM L s x),[rO L s]):=by
 refine(qAD rfl).trans ?_;show lim tab.get S 60 1 0 [P0,kS x] { ims:=[rO L s],owns:=.nil }=_;have g0:(Heap.mk [rO L s] .nil).get (.im 0)=some (rO L s):=rfl;have fin:∀ b:Bool,vfin true 1 [.c (.p (.bool b))] (Heap.mk [rO L s] .nil)=some (kB b,[rO L s]):=λb=>qAP true [.c (.p (.bool b))] _ rfl rfl (qAC L _)
 have LN:=λ{β:Type} {O:Oracle} {h:Heap} {d:Nat} {k:KO β}=>qBT (O:=O) (h:=h) (d:=d) (k:=k) L
 have nx:¬ ([]:LB)=x:=λe=>hx e.symm
 rw[w60_0,b60_0];unfold risM;by_cases he:s.e=0
 ·by_cases hp:s.p<L.length
  ·have ht:L[s.p]?=some L[s.p]:=List.getElem?_eq_getElem hp;have AT:=λ{β:Type} {k:KO β} {h:Heap}=>qSa (h:=h) (k:=k) L s.p L[s.p] ht
   have q1:(s.p:Int)<(L.length:Int):=by omega
   have pk:=qUe he ht;have r0:∀ t:Tok,t.row[0]?=some (.int .i64 t.kind):=λ_=>rfl
   have r1:∀ t:Tok,t.row[1]?=some (.str t.text):=λ_=>rfl
   rw[pk];generalize L[s.p]=t at *;by_cases h1:t.text=x
   ·by_cases h2:t.kind=2
    ·simp (maxSteps:=9^7) +contextual only[exa,rA,rB,rC,rD,rE,rF,rG,rH,rI,exW,g0,he,q1,LN,AT,r0,r1,h1,h2,fin,oneOf]
    ·simp (maxSteps:=9^7) +contextual only[exa,rA,rB,rC,rD,rE,rF,rG,rH,rI,exW,g0,he,q1,LN,AT,r0,r1,h1,h2,fin,oneOf]
   ·simp (maxSteps:=9^7) +contextual only[exa,rA,rB,rC,rD,rE,rF,rG,rH,rI,exW,g0,he,q1,LN,AT,r0,r1,h1,fin,oneOf]
  ·have q1:¬ (s.p:Int)<(L.length:Int):=by omega
   rw[qUK (λh=>hp h.2)];have e1:Tok.zero.text=[]:=rfl;rw[e1,decide_eq_false nx,Bool.false_and];simp (maxSteps:=9^7) +contextual only[exa,rA,rB,rC,rD,rE,rF,rG,rH,rI,exW,g0,he,q1,LN,fin,oneOf]
 ·rw[qUK (λh=>he h.1)];have e1:Tok.zero.text=[]:=rfl;rw[e1,decide_eq_false nx,Bool.false_and];simp (maxSteps:=9^7) +contextual only[exa,rA,rB,rC,rD,rE,rF,rG,rH,rI,exW,g0,he,LN,fin,oneOf]
theorem u60{β:Type}{k:KO β}{h:Heap}{d:Nat}{L:List Tok}{s:RS}(x:LB)(hx:x≠[])(hg:h.get (.im 0)=some (rO L s)):vcall Om (F_ 60) [P0,kS x] h d k=k (kB (risM L s x)) h :=
 (qAU 60 (.im 0) 0 [] [kS x] _ _ _ rfl rfl hg (qAC L s) (qAC L s) rfl (qYT L s x hx)).trans (by show k _ (h.put (.im 0) (rO L s))=k _ h; rw[qM7 0 _ hg])
theorem qX8(L:List Tok)(s:RS)(e:Int):Om 61 [P0,kI e] [rO L s]=some (.tup [],[rO L (failM s e)]):=by
 refine(qAD rfl).trans ?_;show lim tab.get S 61 1 0 [P0,kI e] { ims:=[rO L s],owns:=.nil }=_;have g0:(Heap.mk [rO L s] .nil).get (.im 0)=some (rO L s):=rfl;have P:∀ (a b c d x:Cell),put1 [a,b,c,d] 2 [x]=[a,b,x,d]:=λ_ _ _ _ _=>rfl
 rw[w61_0,b61_0];unfold failM;by_cases he:s.e=0
 ·rw[if_pos he];have fin:vfin true 1 [] ((Heap.mk [rO L s] .nil).put (.im 0) (rO L { s with e:=e }))=some (.tup [],[rO L { s with e:=e }]):=qAP true [] _ rfl rfl (qAC L _);simp (maxSteps:=9^7) +contextual only[exa,rA,rB,rC,rD,rE,rF,rG,rH,rI,exW,g0,he,P]
 ·rw[if_neg he];have fin:vfin true 1 [] (Heap.mk [rO L s] .nil)=some (.tup [],[rO L s]):=qAP true [] _ rfl rfl (qAC L _);simp (maxSteps:=9^7) +contextual only[exa,rA,rB,rC,rD,rE,rF,rG,rH,rI,exW,g0,he,P]
theorem u61{β:Type}{k:KO β}{h:Heap}{d:Nat}{L:List Tok}{s:RS}(e:Int)(hg:h.get (.im 0)=some (rO L s)):vcall Om (F_ 61) [P0,kI e] h d k=k (.tup []) (h.put (.im 0) (rO L (failM s e))) :=
 qAU 61 (.im 0) 0 [] [kI e] _ _ _ rfl rfl hg (qAC L s) (qAC L _) rfl (qX8 L s e)
def reatM(L:List Tok)(s:RS)(x:LB):RS:=if risM L s x=true then nextM s else failM s 12
theorem qYA(L:List Tok)(s:RS)(hp:s.p<=1000000)(x:LB)(hx:x≠[]):Om 93 [P0,kS x] [rO L s]=some (.tup [],[rO L (reatM L s x)]):=by
 refine(qAD rfl).trans ?_;show lim tab.get S 93 1 0 [P0,kS x] { ims:=[rO L s],owns:=.nil }=_;have g0:(Heap.mk [rO L s] .nil).get (.im 0)=some (rO L s):=rfl;have U:=λ{β:Type} {k:KO β} {d:Nat}=>u60 (k:=k) (d:=d) x hx g0
 have V:=λ{β:Type} {k:KO β} {d:Nat}=>u61 (k:=k) (d:=d) 12 g0
 have P1:∀ (a b c d y:Cell),put1 [a,b,c,d] 1 [y]=[a,y,c,d]:=λ_ _ _ _ _=>rfl
 have w1:IntKind.i64.wrap ((s.p:Int)+1)=((s.p+1:Nat):Int):=by rw[qAL _ (by omega) (by omega)]; omega
 unfold reatM;rw[w93_0,b93_0];cases h1:risM L s x with
 |true =>
  have fin:vfin true 1 [] ((Heap.mk [rO L s] .nil).put (.im 0) (rO L (nextM s)))=some (.tup [],[rO L (nextM s)]):=qAP true [] _ rfl rfl (qAC L _);simp (maxSteps:=9^7) +contextual only[exa,rA,rB,rC,rD,rE,rF,rG,rH,rI,exW,g0,U,h1,P1,w1,if_true];exact fin
 |false =>
  have fin:vfin true 1 [] ((Heap.mk [rO L s] .nil).put (.im 0) (rO L (failM s 12)))=some (.tup [],[rO L (failM s 12)]):=qAP true [] _ rfl rfl (qAC L _);simp (maxSteps:=9^7) +contextual only[exa,rA,rB,rC,rD,rE,rF,rG,rH,rI,exW,g0,U,V,h1,if_false,Bool.false_eq_true]
theorem u93{β:Type}{k:KO β}{h:Heap}{d:Nat}{L:List Tok}{s:RS}(hp:s.p<=1000000)(x:LB)(hx:x≠[])(hg:h.get (.im 0)=some (rO L s)):vcall Om (F_ 93) [P0,kS x] h d k=k (.tup []) (h.put (.im 0) (rO L (reatM L s x))) :=
 qAU 93 (.im 0) 0 [] [kS x] _ _ _ rfl rfl hg (qAC L s) (qAC L _) rfl (qYA L s hp x hx)
def rnmM(L:List Tok)(s:RS):LB×RS:=if (peekM L s).kind=1 then ((peekM L s).text,nextM s) else ([],failM s 12)
theorem qYO(L:List Tok)(s:RS)(hp:s.p<=1000000):Om 63 [P0] [rO L s]=some (kS (rnmM L s).1,[rO L (rnmM L s).2]):=by
 refine(qAD rfl).trans ?_;show lim tab.get S 63 1 0 [P0] { ims:=[rO L s],owns:=.nil }=_;have g0:(Heap.mk [rO L s] .nil).get (.im 0)=some (rO L s):=rfl;have V:=λ{β:Type} {k:KO β} {d:Nat}=>u61 (k:=k) (d:=d) 12 g0
 have P1:∀ (a b c d y:Cell),put1 [a,b,c,d] 1 [y]=[a,y,c,d]:=λ_ _ _ _ _=>rfl
 have w1:IntKind.i64.wrap ((s.p:Int)+1)=((s.p+1:Nat):Int):=by rw[qAL _ (by omega) (by omega)]; omega
 have w2:IntKind.i64.wrap (((s.p+1:Nat):Int) - 1)=(s.p:Int):=by rw[qAL _ (by omega) (by omega)]; omega
 have LN:=λ{β:Type} {O:Oracle} {h:Heap} {d:Nat} {k:KO β}=>qBT (O:=O) (h:=h) (d:=d) (k:=k) L
 have finB:vfin true 1 [.c (.p (.str []))] ((Heap.mk [rO L s] .nil).put (.im 0) (rO L (failM s 12)))=some (kS [],[rO L (failM s 12)]):=qAP true [.c (.p (.str []))] _ rfl rfl (qAC L _);rw[w63_0,b63_0];unfold rnmM;by_cases he:s.e=0
 ·by_cases hq:s.p<L.length
  ·have ht:L[s.p]?=some L[s.p]:=List.getElem?_eq_getElem hq;have AT:=λ{β:Type} {k:KO β} {h:Heap}=>qSa (h:=h) (k:=k) L s.p L[s.p] ht
   have q1:(s.p:Int)<(L.length:Int):=by omega
   have pk:=qUe he ht;have r0:∀ t:Tok,t.row[0]?=some (.int .i64 t.kind):=λ_=>rfl
   have r1:∀ t:Tok,t.row[1]?=some (.str t.text):=λ_=>rfl
   rw[pk];generalize L[s.p]=t at *;by_cases h1:t.kind=1
   ·have fin:vfin true 1 [.c (.p (.str t.text))] ((Heap.mk [rO L s] .nil).put (.im 0) (rO L (nextM s)))=some (kS t.text,[rO L (nextM s)]):=qAP true [.c (.p (.str t.text))] _ rfl rfl (qAC L _);have g2:((Heap.mk [rO L s] .nil).put (.im 0) (.cells [.p (tksP L),.p (.int .i64 ((s.p+1:Nat):Int)),.p (.int .i64 s.e),.p (.bool s.tw)] 0)).get (.im 0)=some (.cells [.p (tksP L),.p (.int .i64 ((s.p+1:Nat):Int)),.p (.int .i64 s.e),.p (.bool s.tw)] 0):=rfl;rw[he] at g2;rw[if_pos h1];simp (maxSteps:=9^7) +contextual only[exa,rA,rB,rC,rD,rE,rF,rG,rH,rI,exW,g0,he,q1,LN,AT,r0,r1,h1,P1,w1,w2,g2,oneOf];have e:rO L (nextM s) = .cells [.p (tksP L),.p (.int .i64 ((s.p+1:Nat):Int)),.p (.int .i64 0),.p (.bool s.tw)] 0:=by unfold nextM; rw[he]
    rw[e] at fin ⊢
   ·rw[if_neg h1];simp (maxSteps:=9^7) +contextual only[exa,rA,rB,rC,rD,rE,rF,rG,rH,rI,exW,g0,he,q1,LN,AT,r0,r1,h1,V,oneOf]
  ·have q1:¬ (s.p:Int)<(L.length:Int):=by omega
   rw[qUK (λh=>hq h.2),if_neg (by decide)];simp (maxSteps:=9^7) +contextual only[exa,rA,rB,rC,rD,rE,rF,rG,rH,rI,exW,g0,he,q1,LN,V,oneOf]
 ·rw[qUK (λh=>he h.1),if_neg (by decide)];simp (maxSteps:=9^7) +contextual only[exa,rA,rB,rC,rD,rE,rF,rG,rH,rI,exW,g0,he,LN,V,oneOf]
theorem u63{β:Type}{k:KO β}{h:Heap}{d:Nat}{L:List Tok}{s:RS}(hp:s.p<=1000000)(hg:h.get (.im 0)=some (rO L s)):vcall Om (F_ 63) [P0] h d k=k (kS (rnmM L s).1) (h.put (.im 0) (rO L (rnmM L s).2)) :=
 qAU 63 (.im 0) 0 [] [] _ _ _ rfl rfl hg (qAC L s) (qAC L _) rfl (qYO L s hp)
def rdnM(L:List Tok)(s:RS):RS:=if s.tw=true then failM (if s.p<L.length then failM s 12 else s) 6 else (if s.p<L.length then failM s 12 else s)
theorem qUa(s:RS)(e:Int):(failM s e).tw=s.tw:=by unfold failM; split <;> rfl
theorem qYU(L:List Tok)(s:RS):Om 38 [P0] [rO L s]=some (kI (rdnM L s).e,[rO L (rdnM L s)]):=by
 refine(qAD rfl).trans ?_;show lim tab.get S 38 1 0 [P0] { ims:=[rO L s],owns:=.nil }=_;have g0:(Heap.mk [rO L s] .nil).get (.im 0)=some (rO L s):=rfl;have V:=λ{β:Type} {k:KO β} {d:Nat}=>u61 (k:=k) (d:=d) 12 g0
 have LN:=λ{β:Type} {O:Oracle} {h:Heap} {d:Nat} {k:KO β}=>qBT (O:=O) (h:=h) (d:=d) (k:=k) L
 have two:∀ (h:Heap) (t:RS),h.get (.im 0)=some (rO L t)->lim tab.get S 38 1 2 [P0] h=some (kI t.e,[rO L t]):=λh t hg=>by
  have fin:vfin true 1 [.c (.p (.int .i64 t.e))] h=some (kI t.e,[rO L t]):=qAP true [.c (.p (.int .i64 t.e))] _ rfl hg (qAC L _);rw[w38_2,b38_2];simp (maxSteps:=9^7) +contextual only[exa,rA,rB,rC,rD,rE,rF,rG,rH,rI,exW,hg,oneOf]
 have one:∀ (h:Heap) (t:RS),h.get (.im 0)=some (rO L t)->lim tab.get S 38 1 1 [P0] h=some (kI (if t.tw=true then failM t 6 else t).e,[rO L (if t.tw=true then failM t 6 else t)]):=λh t hg=>by
  have V6:=λ{β:Type} {k:KO β} {d:Nat}=>u61 (k:=k) (d:=d) 6 hg
  rw[w38_1,b38_1];cases ht:t.tw with
  |true =>
   have:=two (h.put (.im 0) (rO L (failM t 6))) (failM t 6) (Heap.zput_self hg (λe=>by cases e));simp (maxSteps:=9^7) +contextual only[exa,rA,rB,rC,rD,rE,rF,rG,rH,rI,exW,hg,ht,V6,if_true];exact this
  |false =>
   have:=two h t hg;simp (maxSteps:=9^7) +contextual only[exa,rA,rB,rC,rD,rE,rF,rG,rH,rI,exW,hg,ht,if_false,Bool.false_eq_true];exact this
 rw[w38_0,b38_0];unfold rdnM;by_cases hq:s.p<L.length
 ·have q1:(s.p:Int)<(L.length:Int):=by omega
  have:=one ((Heap.mk [rO L s] .nil).put (.im 0) (rO L (failM s 12))) (failM s 12) rfl;rw[qUa] at this;rw[if_pos hq];simp (maxSteps:=9^7) +contextual only[exa,rA,rB,rC,rD,rE,rF,rG,rH,rI,exW,g0,q1,LN,V];exact this
 ·have q1:¬ (s.p:Int)<(L.length:Int):=by omega
  have:=one (Heap.mk [rO L s] .nil) s g0;rw[if_neg hq];simp (maxSteps:=9^7) +contextual only[exa,rA,rB,rC,rD,rE,rF,rG,rH,rI,exW,g0,q1,LN,if_false];exact this
theorem qXr{β:Type}{O:Oracle}{h:Heap}{d:Nat}{kt:KT β}(sz by':Nat)(x:TVal)(rows:List (List PVal))(r:Ref) :
  vtouch O (.append sz by' false (.k x) (.k (.v (.c (.tsl sz rows r))))) h d kt=vtouch O (.append sz by' false (.k x) (.k (.v (.c (.p (.slice sz false rows)))))) h d kt:=by
 have e:plan .nil (.append sz by' false (.k x) (.k (.v (.c (.tsl sz rows r)))))=plan .nil (.append sz by' false (.k x) (.k (.v (.c (.p (.slice sz false rows)))))):=by
  show some (Plan.go (zipNeeds (dstRef x) none) _)=some (Plan.go (zipNeeds (dstRef x) none) _)
  congr 2
  funext os
  have h1:∀ ob,srcCells sz (.v (.c (.tsl sz rows r))) ob=srcCells sz (.v (.c (.p (.slice sz false rows)))) ob:=λob=>by cases ob <;> rfl
  show(splitNeeds (dstRef x) none os).bind (λp=>(srcCells sz (.v (.c (.tsl sz rows r))) p.2).bind λq=>_)=(splitNeeds (dstRef x) none os).bind (λp=>(srcCells sz (.v (.c (.p (.slice sz false rows)))) p.2).bind λq=>_);simp only[h1]
 show bnd (plan2 (.append sz by' false (.k x) (.k (.v (.c (.tsl sz rows r))))) .nil) (λp=>bnd (p.exec O d h) λx=>kt x.1 x.2.1 x.2.2)=bnd (plan2 (.append sz by' false (.k x) (.k (.v (.c (.p (.slice sz false rows)))))) .nil) (λp=>bnd (p.exec O d h) λx=>kt x.1 x.2.1 x.2.2);rw[qAr,qAr,e]
def SrcC(sz:Nat)(c:Cell)(rows:List (List PVal)):Prop:=∃ b,SrcR sz b rows/\∀ {β:Type}{O:Oracle}{h:Heap}{d:Nat}{kt:KT β}(by':Nat)(x:TVal),vtouch O (.append sz by' false (.k x) (.k (.v (.c c)))) h d kt=vtouch O (.append sz by' false (.k x) (.k (.v (.c (.p b))))) h d kt
theorem qVm(sz:Nat)(rows:List (List PVal))(r:Ref):SrcC sz (.tsl sz rows r) rows:=⟨.slice sz false rows,.inr ⟨_,rfl⟩,λby' x=>qXr sz by' x rows r⟩
theorem qWB(sz:Nat)(t:Bool)(rows:List (List PVal)):SrcC sz (.p (.slice sz t rows)) rows:=⟨.slice sz t rows,.inr ⟨_,rfl⟩,λby' x=>rfl⟩
theorem qVe(sz:Nat):SrcC sz (.p .nilslice) []:=⟨.nilslice,.inl ⟨rfl,rfl⟩,λby' x=>rfl⟩
theorem qUx{sz:Nat}{c:Cell}{rows:List (List PVal)}(B:Bears sz c rows)(k:Nat)(hk:k<=rows.length):∃ c',(∀ {β:Type}{O:Oracle}{h:Heap}{d:Nat}{kt:KO β},vop O (.slice sz false (.k (.v (.c c))) none (some (.k (kI (k:Int)))) none) h d kt=kt (.v (.c c')) h)/\SrcC sz c' (rows.take k):=by
 rcases B with ⟨rfl,rfl⟩|⟨hne,r,rfl⟩
 ·have:k=0:=by simpa using hk
  subst this;exact⟨.p .nilslice,λ{β O h d kt}=>qAx _ _ rfl,qVe sz⟩
 ·have e:∃ c',sliceV sz false (.tsl sz rows r) none (some ((k:Int).toNat)) none=some c'/\SrcC sz c' (rows.take k):=by
   rw[Int.toNat_natCast];show ∃ c',(if sz=sz/\0<=k/\k<=rows.length/\rows.length<=rows.length then (if (none:Option Nat).isNone=true/\k=rows.length/\0<k then some (Cell.tsl sz (rows.drop 0) r) else some (.p (.slice sz (tightOf false k none) ((rows.take k).drop 0)))) else none)=some c'/\SrcC sz c' (rows.take k);rw[if_pos ⟨rfl,by omega,hk,by omega⟩];by_cases h1:k=rows.length/\0<k
   ·rw[if_pos ⟨rfl,h1.1,h1.2⟩];refine⟨_,rfl,?_⟩;rw[h1.1,List.take_length];exact qVm sz rows r
   ·rw[if_neg (λhh=>h1 hh.2)];exact⟨_,rfl,qWB sz _ _⟩
  obtain⟨c',e1,e2⟩:=e;refine⟨c',λ{β O h d kt}=>qAx _ _ ?_,e2⟩;show((sliceV sz false (.tsl sz rows r) none (some ((k:Int).toNat)) none).map λc=>Plan.pure (.v (.c c)))=_;rw[e1]; rfl
theorem qU7{sz:Nat}{c:Cell}{rows:List (List PVal)}(B:Bears sz c rows)(k:Nat)(hk:k<=rows.length):∃ c',(∀ {β:Type}{O:Oracle}{h:Heap}{d:Nat}{kt:KT β},vtouch O (.slice sz false (.k (.v (.c c))) (some (.k (kI (k:Int)))) none none) h d kt=kt (.v (.c c')) h noTouch)/\SrcC sz c' (rows.drop k):=by
 rcases B with ⟨rfl,rfl⟩|⟨hne,r,rfl⟩
 ·have:k=0:=by simpa using hk
  subst this;exact⟨.p .nilslice,λ{β O h d kt}=>qBe _ _ rfl,qVe sz⟩
 ·have e:∃ c',sliceV sz false (.tsl sz rows r) (some ((k:Int).toNat)) none none=some c'/\SrcC sz c' (rows.drop k):=by
   rw[Int.toNat_natCast];show ∃ c',(if sz=sz/\k<=rows.length/\rows.length<=rows.length/\rows.length<=rows.length then (if (none:Option Nat).isNone=true/\rows.length=rows.length/\k<rows.length then some (Cell.tsl sz (rows.drop k) r) else some (.p (.slice sz (tightOf false rows.length none) ((rows.take rows.length).drop k)))) else none)=some c'/\SrcC sz c' (rows.drop k);rw[if_pos ⟨rfl,hk,by omega,by omega⟩];by_cases h1:k<rows.length
   ·rw[if_pos ⟨rfl,rfl,h1⟩];exact⟨_,rfl,qVm sz _ r⟩
   ·rw[if_neg (λhh=>h1 hh.2.2),List.take_length];exact⟨_,rfl,qWB sz _ _⟩
  obtain⟨c',e1,e2⟩:=e;refine⟨c',λ{β O h d kt}=>qBe _ _ ?_,e2⟩;show((sliceV sz false (.tsl sz rows r) (some ((k:Int).toNat)) none none).map λc=>Plan.pure (.v (.c c)))=_;rw[e1]; rfl
def leadE(key:LB):Es->Nat
 |[]=>0
 |p::l=>if bless p.1 key=true then leadE key l+1 else 0
theorem qUf(key:LB):∀ l:Es,leadE key l<=l.length
 |[]=>Nat.le_refl _
 |p::l=>by
  unfold leadE;split
  ·have:=qUf key l; rw[List.length_cons]; omega
  ·exact Nat.zero_le _
theorem qUg(key:LB):∀ (l:Es) (i:Nat) (p:LB×TT),i<leadE key l->l[i]?=some p->bless p.1 key=true
 |[],i,p,h,_=>by simp[leadE] at h
 |q::l,i,p,h,hp=>by
  unfold leadE at h;split at h
  ·rename_i hb;cases i with
   |zero=>cases hp; exact hb
   |succ i=>exact qUg key l i p (by omega) (by simpa using hp)
  ·omega
theorem qUj(key:LB):∀ (l:Es) (p:LB×TT),l[leadE key l]?=some p->bless p.1 key=false
 |[],p,h=>by simp at h
 |q::l,p,h=>by
  unfold leadE at h;split at h
  ·exact qUj key l p (by simpa using h)
  ·rename_i hb;cases h;exact Bool.not_eq_true _▸hb
def insE(l:Es)(p:LB×TT):Es:=l.take (leadE p.1 l)++p::l.drop (leadE p.1 l)
theorem qXM(l:Es)(p:LB×TT):(insE l p).length=l.length+1:=by
 have:=qUf p.1 l;unfold insE;rw[List.length_append,List.length_cons,List.length_take,List.length_drop]; omega
def dupE(l:Es)(key:LB):Bool:=match l[leadE key l]? with
 |some q=>decide (q.1=key)
 |none=>false
structure RH (h:Heap) (L:List Tok) (s:RS) (kd:Int) (l:Es):Prop where
 a0:h.get (.im 0)=some (rO L s)
 a6:h.get (.own 6 1)=some (.cells z4 0)
 a7:∃ K E,h.get (.own 7 1)=some (.cells [.p (.int .i64 kd),.p (.str []),K,E] 0)/\Bears 1 K (l.map kRow)/\Bears 4 E (l.map vRow)
theorem qXe{h:Heap}{L:List Tok}{s:RS}{kd d:Int}{l:Es}(A:RH h L s kd l)(hl:l.length<=1000)(n:LB)(x9:TVal):∀ (m k:Nat),k+m=leadE n l ->
  lim tab.get S 62 1 2 [P0,kI d,q6,q7,kS n,x9,kI (k:Int)] h=lim tab.get S 62 1 3 [P0,kI d,q6,q7,kS n,x9,kI (leadE n l:Int)] h
 |0,k,hk=>by
  have hk:k=leadE n l:=by omega
  obtain⟨K,E,a7,BK,BE⟩:=A.a7;have LN:=λ{β:Type} {O:Oracle} {h:Heap} {d:Nat} {k:KO β}=>BK.len (O:=O) (h:=h) (d:=d) (k:=k)
  have AT:=λ{β:Type} {h:Heap} {k:KO β} (i:Int)=>BK.at (h:=h) (k:=k) i
  have ml:(l.map kRow).length=l.length:=List.length_map _;subst hk;by_cases h1:leadE n l<l.length
  ·obtain⟨p,hp⟩:∃ p,l[leadE n l]?=some p:=⟨l[leadE n l],by simp⟩;have hb:=qUj n l p hp;have q:(leadE n l:Int)<(l.length:Int):=by omega
   have q0:(0:Int)<=(leadE n l:Int):=by omega
   have r:(l.map kRow)[leadE n l]?=some (sRow p.1):=by rw[List.getElem?_map,hp]; rfl
   rw[w62_2,b62_2];simp (maxSteps:=9^7) +contextual only[exa,rA,rB,rC,rD,rE,rF,rG,rH,rI,exW,exY,a7,LN,AT,ml,q,q0,r,hb,Int.toNat_natCast,if_false]
  ·have q:¬ (leadE n l:Int)<(l.length:Int):=by omega
   rw[w62_2,b62_2];simp (maxSteps:=9^7) +contextual only[exa,rA,rB,rC,rD,rE,rF,rG,rH,rI,exW,exY,a7,LN,ml,q,if_false]
 |m+1,k,hk=>by
  obtain⟨K,E,a7,BK,BE⟩:=A.a7;have LN:=λ{β:Type} {O:Oracle} {h:Heap} {d:Nat} {k:KO β}=>BK.len (O:=O) (h:=h) (d:=d) (k:=k)
  have AT:=λ{β:Type} {h:Heap} {k:KO β} (i:Int)=>BK.at (h:=h) (k:=k) i
  have ml:(l.map kRow).length=l.length:=List.length_map _;have hle:=qUf n l;obtain⟨p,hp⟩:∃ p,l[k]?=some p:=⟨l[k]'(by omega),by simp⟩;have hb:=qUg n l k p (by omega) hp;have q:(k:Int)<(l.length:Int):=by omega
  have q0:(0:Int)<=(k:Int):=by omega
  have r:(l.map kRow)[k]?=some (sRow p.1):=by rw[List.getElem?_map,hp]; rfl
  have w:IntKind.i64.wrap ((k:Int)+1)=((k+1:Nat):Int):=by rw[qAL _ (by omega) (by omega)]; omega
  rw[<- qXe A hl n x9 m (k+1) (by omega),w62_2,b62_2];simp (maxSteps:=9^7) +contextual only[exa,rA,rB,rC,rD,rE,rF,rG,rH,rI,exW,exY,a7,LN,AT,ml,q,q0,r,hb,w,Int.toNat_natCast]
theorem rput{h:Heap}{L:List Tok}{s:RS}{kd d:Int}{l:Es}(A:RH h L s kd l)(hl:l.length<=1000)(hs:s.p<=900000)(n:LB)(x:TT)(g:Nat)(a9:h.get (.own 9 g)=some (.cells (pcells x.row) 0)) :
  ∃ h',RH h' L { s with tw:=s.tw||dupE l n } kd (insE l (n,x))/\(lim tab.get S 62 1 3 [P0,kI d,q6,q7,kS n,.v (.c (.ptr (.own 9 g) 0)),kI (leadE n l:Int)] h =
   if risM L { s with tw:=s.tw||dupE l n } [44]=true then lim tab.get S 62 1 1 [P0,kI d,q6,q7] (h'.put (.im 0) (rO L (reatM L { s with tw:=s.tw||dupE l n } [44]))) else lim tab.get S 62 1 4 [P0,q6,q7] h'):=by
 obtain⟨ck,cl,a7,B3,B4⟩:=A.a7;have hle:=qUf n l;have m1:(l.map vRow).length=l.length:=List.length_map _;have m2:(l.map kRow).length=l.length:=List.length_map _;have r1:∀ l:Es,∀ r∈l.map kRow,r.length=1:=λl r hr=>by obtain⟨_,_,rfl⟩:=List.mem_map.1 hr; rfl
 have r4:∀ l:Es,∀ r∈l.map vRow,r.length=4:=λl r hr=>by obtain⟨a,_,rfl⟩:=List.mem_map.1 hr; exact TT.row_len _
 obtain⟨s3,t3,b3,q3,p3⟩:=qUx B3 (leadE n l) (by rw[m2]; exact hle);obtain⟨s4,t4,b4,q4,p4⟩:=qUx B4 (leadE n l) (by rw[m1]; exact hle);obtain⟨s5,t5,b5,q5,p5⟩:=qU7 B3 (leadE n l) (by rw[m2]; exact hle);obtain⟨s6,t6,b6,q6',p6⟩:=qU7 B4 (leadE n l) (by rw[m1]; exact hle);rw[<- List.map_take] at q3 q4;rw[<- List.map_drop] at q5 q6';generalize hb:(s.tw||dupE l n)=b
 -- what stood twice is told
 obtain⟨hA,ehA⟩:∃ hA,hA=h.put (.im 0) (rO L { s with tw:=b }):=⟨_,rfl⟩;have iA:hA.get (.im 0)=some (rO L { s with tw:=b }):=by rw[ehA]; exact Heap.zput_self A.a0 (λe=>by cases e)
 have oA:∀ d g,hA.get (.own d g)=h.get (.own d g):=λd g=>by rw[ehA]; rfl
 have twoA:∀ (k:TVal->Heap->Res1),(vload false 1 (.v (.c (.ptr (.im 0) 3))) h λx61 h =>
   vguard x61 false (λkk=>kk (kI (leadE n l:Int)) h) h λx63 h =>
   vguard x61 false (λkk=>vfaddr 2 q7 h kk) h λx64 h =>
   vguard x61 false (λkk=>vload false 1 x64 h kk) h λx65 h =>
   vguard x61 false (λkk=>vlen Om 2 x65 h 66 kk) h λx66 h =>
   vguard x61 false (λkk=>vbin .lss 0 x63 x66 h kk) h λx67 h =>
   vguard x61 false (λkk=>kk x67 h) h λx68 h =>
   vguard x68 true (λkk=>vfaddr 2 q7 h kk) h λx69 h =>
   vguard x68 true (λkk=>vload false 1 x69 h kk) h λx70 h =>
   vguard x68 true (λkk=>kk (kI (leadE n l:Int)) h) h λx71 h =>
   vguard x68 true (λkk=>viaddr 1 x70 x71 h kk) h λx72 h =>
   vguard x68 true (λkk=>vload false 1 x72 h kk) h λx73 h =>
   vguard x68 true (λkk=>kk (kS n) h) h λx74 h =>
   vguard x68 true (λkk=>vbin .eql 0 x73 x74 h kk) h λx75 h =>
   vguard x61 false (λkk=>vop Om (.pick (.k x68) (.k x75) (.k (kB false))) h 76 kk) h λx76 h =>
   vop Om (.pick (.k x61) (.k (kB true)) (.k x76)) h 77 k)=k (kB b) h:=λk=>by
  have LN:=λ{β:Type} {O:Oracle} {h:Heap} {d:Nat} {k:KO β}=>B3.len (O:=O) (h:=h) (d:=d) (k:=k)
  have AT:=λ{β:Type} {h:Heap} {k:KO β} (i:Int)=>B3.at (h:=h) (k:=k) i
  cases ht:s.tw with
  |true =>
   rw[ht,Bool.true_or] at hb;subst hb;simp (maxSteps:=9^7) +contextual only[exa,rA,rB,rC,rD,rE,rF,rG,rH,rI,exW,A.a0,ht]
  |false =>
   rw[ht,Bool.false_or] at hb;by_cases h1:leadE n l<l.length
   ·obtain⟨p,hp⟩:∃ p,l[leadE n l]?=some p:=⟨l[leadE n l],by simp⟩;have q:(leadE n l:Int)<(l.length:Int):=by omega
    have q0:(0:Int)<=(leadE n l:Int):=by omega
    have r:(l.map kRow)[leadE n l]?=some (sRow p.1):=by rw[List.getElem?_map,hp]; rfl
    have hd:dupE l n=decide (p.1=n):=by unfold dupE; rw[hp]
    rw[hd] at hb;subst hb;by_cases hk:p.1=n
    ·simp (maxSteps:=9^7) +contextual only[exa,rA,rB,rC,rD,rE,rF,rG,rH,rI,exW,exY,A.a0,a7,LN,AT,m2,q,q0,r,ht,hk,Int.toNat_natCast]
    ·simp (maxSteps:=9^7) +contextual only[exa,rA,rB,rC,rD,rE,rF,rG,rH,rI,exW,exY,A.a0,a7,LN,AT,m2,q,q0,r,ht,hk,Int.toNat_natCast]
   ·have q:¬ (leadE n l:Int)<(l.length:Int):=by omega
    have hd:dupE l n=false:=by unfold dupE; rw[List.getElem?_eq_none (by omega)]
    rw[hd] at hb;subst hb;simp (maxSteps:=9^7) +contextual only[exa,rA,rB,rC,rD,rE,rF,rG,rH,rI,exW,exY,A.a0,a7,LN,m2,q,ht]
 obtain⟨c1,h1,u1,G1,e1,T1,K1,I1',X1⟩:=qML (h:=hA) (d:=85) (D:=[85,95,100]) (sz:=1) (by':=16) (v:=.p (.slice 1 true [])) (rows:=[]) q3 (.inr (.inl rfl)) (by decide) (r1 _) (by simp; omega) (by decide);obtain⟨c2,h2,u2,G2,e2,T2,K2,I2,X2⟩:=qML (h:=h1) (d:=91) (D:=[91,104,109]) (sz:=4) (by':=72) (v:=.p (.slice 4 true [])) (rows:=[]) q4 (.inr (.inl rfl)) (by decide) (r4 _) (by simp; omega) (by decide);have G1':AI.GS [85,95,100] 1 c1 ([]++(l.take (leadE n l)).map kRow) h2:=G1.keep λe he' g hh=>K2 e g _ (by revert he'; simp; omega) hh
 obtain⟨c3,h3,u3,G3,e3,T3,K3,I3,X3⟩:=qML (h:=h2) (d:=95) (sz:=1) (by':=16) (new:=[[.str n]]) (b:=.slice 1 true [[.str n]]) (.inr ⟨_,rfl⟩) G1' (by decide) (λr hr=>by simp at hr; rw[hr]; rfl) (by simp; omega) (by decide);obtain⟨c4,h4,u4,G4,e4,T4,K4,I4,X4⟩:=qML (d:=100) (by':=16) q5 G3 (by decide) (r1 _) (by simp; omega) (by decide);have G2':AI.GS [91,104,109] 4 c2 ([]++(l.take (leadE n l)).map vRow) h4:=G2.keep λe he' g hh=>K4 e g _ (by revert he'; simp; omega) (K3 e g _ (by revert he'; simp; omega) hh)
 obtain⟨c5,h5,u5,G5,e5,T5,K5,I5,X5⟩:=qML (d:=104) (by':=72) (new:=[x.row]) (b:=.slice 4 true [x.row]) (.inr ⟨_,rfl⟩) G2' (by decide) (λr hr=>by simp at hr; rw[hr]; exact TT.row_len x) (by simp; omega) (by decide);obtain⟨c6,h6,u6,G6,e6,T6,K6,I6,X6⟩:=qML (d:=109) (by':=72) q6' G5 (by decide) (r4 _) (by simp; omega) (by decide);obtain⟨ra,ea⟩:=X4 (.inr (X3 (.inl (by simp))));obtain⟨rb,eb⟩:=X6 (.inr (X5 (.inl (by simp))));have keep:∀ e g o,e∉[85,95,100,91,104,109]->h.get (.own e g)=some o->(h1.get (.own e g)=some o/\h2.get (.own e g)=some o)/\(h3.get (.own e g)=some o/\h4.get (.own e g)=some o)/\h5.get (.own e g)=some o/\h6.get (.own e g)=some o:=by
  intro e g o he' ho;have a1:=K1 e g o (by revert he'; simp <;> omega) ((oA e g).trans ho);have a2:=K2 e g o (by revert he'; simp <;> omega) a1;have a3:=K3 e g o (by revert he'; simp <;> omega) a2;have a4:=K4 e g o (by revert he'; simp <;> omega) a3;have a5:=K5 e g o (by revert he'; simp <;> omega) a4;exact⟨⟨a1,a2⟩,⟨a3,a4⟩,a5,K6 e g o (by revert he'; simp <;> omega) a5⟩
 have v0:hA.get (.own 7 1)=some (.cells [.p (.int .i64 kd),.p (.str []),ck,cl] 0):=(oA 7 1).trans a7;obtain⟨⟨v1,v2⟩,⟨v3,v4⟩,v5,v6⟩:=keep 7 1 _ (by decide) a7;obtain⟨⟨x1,x2⟩,⟨x3,x4⟩,x5,x6⟩:=keep 9 g _ (by decide) a9;obtain⟨⟨y1,y2⟩,⟨y3,y4⟩,y5,y6⟩:=keep 6 1 _ (by decide) A.a6;have i6:h6.get (.im 0)=some (rO L { s with tw:=b }):=by rw[I6,I5,I4,I3,I2,I1']; exact iA
 have A1:AI.Touch.apart u3 ⟨[(Ref.own 9 g).site],[],false⟩=true:=qEe T3 9 (by decide);have A2:AI.Touch.apart u4 ⟨[(Ref.own 9 g).site],[],false⟩=true:=qEe T4 9 (by decide);have A3:AI.Touch.apart u3 ⟨[(Ref.own 7 1).site],[],false⟩=true:=qEe T3 7 (by decide);have A4:AI.Touch.apart u4 ⟨[(Ref.own 7 1).site],[],false⟩=true:=qEe T4 7 (by decide);have A5:AI.Touch.apart u5 ⟨[(Ref.own 7 1).site],[],false⟩=true:=qEe T5 7 (by decide);have P1:∀ a b c d:Cell,put1 [a,b,c,d] 2 [c4]=[a,b,c4,d]:=λ_ _ _ _=>rfl
 have P2:∀ a b c d:Cell,put1 [a,b,c,d] 3 [c6]=[a,b,c,c6]:=λ_ _ _ _=>rfl
 have P3:∀ a b c d y:Cell,put1 [a,b,c,d] 3 [y]=[a,b,c,y]:=λ_ _ _ _ _=>rfl
 have B1:∀ {β:Type}{O:Oracle}{h:Heap}{d:Nat}{kt:KT β},vtouch O (.bslice 1 1 [.p (.str [])] [(0,.k (kS n))] false) h d kt=kt (kSl 1 true [[.str n]]) h noTouch:=qMZ _ _ rfl;have B2:∀ {β:Type}{O:Oracle}{h:Heap}{d:Nat}{kt:KT β},vtouch O (.bslice 4 1 z4 [(0,.k (.v (.agg (pcells x.row))))] false) h d kt=kt (kSl 4 true [x.row]) h noTouch:=qLb 4 _ _ rfl (TT.row_len x);have E1:∀ {β:Type}{O:Oracle}{k:KO β},vop O (.append 1 16 false (.k (kSl 1 true [])) (.k (.v (.c s3)))) hA 85 k=k (.v (.c c1)) h1:=λ{β O k}=>by rw[qEx,p3]; exact e1 β O _
 have E2:∀ {β:Type}{O:Oracle}{k:KO β},vop O (.append 4 72 false (.k (kSl 4 true [])) (.k (.v (.c s4)))) h1 91 k=k (.v (.c c2)) h2:=λ{β O k}=>by rw[qEx,p4]; exact e2 β O _
 have E4:∀ {β:Type}{O:Oracle}{kt:KT β},vtouch O (.append 1 16 false (.k (.v (.c c3))) (.k (.v (.c s5)))) h3 100 kt=kt (.v (.c c4)) h4 u4:=λ{β O kt}=>by rw[p5]; exact e4 β O _
 have E6:∀ {β:Type}{O:Oracle}{kt:KT β},vtouch O (.append 4 72 false (.k (.v (.c c5))) (.k (.v (.c s6)))) h5 109 kt=kt (.v (.c c6)) h6 u6:=λ{β O kt}=>by rw[p6]; exact e6 β O _
 have Z1:∀ {β:Type}{O:Oracle}{h:Heap}{d:Nat}{k:KO β},vop O (.bslice 1 0 [.p (.str [])] [] false) h d k=k (kSl 1 true []) h:=λ{β O h d k}=>qAx _ _ rfl
 have Z2:∀ {β:Type}{O:Oracle}{h:Heap}{d:Nat}{k:KO β},vop O (.bslice 4 0 z4 [] false) h d k=k (kSl 4 true []) h:=λ{β O h d k}=>qAx _ _ rfl
 have LD:∀ {β:Type}{h:Heap}{k:KO β},h.get (.own 9 g)=some (.cells (pcells x.row) 0)->vload true 4 (.v (.c (.ptr (.own 9 g) 0))) h k=k (.v (.agg (pcells x.row))) h:=λ{β h k} hg=>by
  have e:(pcells x.row).take 4=pcells x.row:=List.take_of_length_le (by rw[qAN,TT.row_len]; omega);have e2:(pcells x.row).length=4:=by rw[qAN,TT.row_len]
  simp (maxSteps:=9^7) +contextual only[exa,rA,rB,rC,rD,rE,rF,rG,rH,rI,hg,List.drop_zero,e,e2]
 have xl:(pcells x.row).length=4:=by rw[qAN,TT.row_len]
 have xt:(pcells x.row).take 4=pcells x.row:=List.take_of_length_le (by rw[xl]; exact Nat.le_refl _);obtain⟨hB,ehB⟩:∃ hB,hB=(h6.own 7 1 (.cells [.p (.int .i64 kd),.p (.str []),c4,cl] 0)).own 7 1 (.cells [.p (.int .i64 kd),.p (.str []),c4,c6] 0):=⟨_,rfl⟩;have iB:hB.get (.im 0)=some (rO L { s with tw:=b }):=by rw[ehB]; exact i6
 have s6B:hB.get (.own 6 1)=some (.cells z4 0):=by rw[ehB,Heap.own_get_ne _ _ _ _ _ _ (by decide),Heap.own_get_ne _ _ _ _ _ _ (by decide)]; exact y6
 have s7B:hB.get (.own 7 1)=some (.cells [.p (.int .i64 kd),.p (.str []),c4,c6] 0):=by rw[ehB]; exact Heap.own_get _ 7 1 _ (by decide) (λe=>by cases e)
 have ei1:(insE l (n,x)).map kRow=[]++(l.take (leadE n l)).map kRow++[[.str n]]++(l.drop (leadE n l)).map kRow:=by unfold insE; simp; rfl
 have ei2:(insE l (n,x)).map vRow=[]++(l.take (leadE n l)).map vRow++[x.row]++(l.drop (leadE n l)).map vRow:=by unfold insE; simp; rfl
 have ne:∀ {α:Type}(f:LB×TT->α),(insE l (n,x)).map f≠[]:=λf=>by unfold insE; simp
 have U:=λ{β:Type} {k:KO β} {d:Nat}=>u60 (k:=k) (d:=d) [44] (by decide) iB
 have V:=λ{β:Type} {k:KO β} {d:Nat}=>u93 (k:=k) (d:=d) (s:={ s with tw:=b }) (by show s.p<=1000000; omega) [44] (by decide) iB
 refine⟨hB,⟨iB,s6B,c4,c6,s7B,.inr ⟨ne _,ra,by rw[ei1]; exact ea⟩,.inr ⟨ne _,rb,by rw[ei2]; exact eb⟩⟩,?_⟩;have NK:∀ {β:Type}{h:Heap}{d:Nat}{k:KO β},vop Om (.nilck (.k P0)) h d k=k P0 h:=λ{β h d k}=>by simp (maxSteps:=9^7) +contextual only[exa,rA,rB,rC,rD,rE,rF,rG,rH,rI]
 have FA:∀ {β:Type}{h:Heap}{k:KO β},vfaddr 3 P0 h k=k (.v (.c (.ptr (.im 0) 3))) h:=λ{β h k}=>by simp (maxSteps:=9^7) +contextual only[exa,rA,rB,rC,rD,rE,rF,rG,rH,rI]
 have ST:∀ {k:TVal->Heap->Res1},vstore 1 (.v (.c (.ptr (.im 0) 3))) (kB b) h k=k .undef hA:=λ{k}=>by
  rw[ehA];simp (maxSteps:=9^7) +contextual only[exa,rA,rB,rC,rD,rE,rF,rG,rH,rI,A.a0,P3]
 rw[w62_3,b62_3];rw[NK,FA];refine(twoA _).trans ?_;rw[NK,FA,ST];cases hr:risM L { s with tw:=b } [44] with
 |true =>
  rw[hr] at U;simp (maxSteps:=9^7) +contextual only[exa,rA,rB,rC,rD,rE,rF,rG,rH,rI,exT,exW,exY,v0,t3,t4,t5,t6,Z1,Z2,E1,E2,e3,E4,e5,E6,v1,v2,v3,v4,v5,v6,x1,x2,x3,x4,x5,x6,xl,xt,List.drop_zero,B1,B2,qAv,A1,A2,A3,A4,A5,P1,P2,<- ehB,U,V,if_true]
 |false =>
  rw[hr] at U;simp (maxSteps:=9^7) +contextual only[exa,rA,rB,rC,rD,rE,rF,rG,rH,rI,exT,exW,exY,v0,t3,t4,t5,t6,Z1,Z2,E1,E2,e3,E4,e5,E6,v1,v2,v3,v4,v5,v6,x1,x2,x3,x4,x5,x6,xl,xt,List.drop_zero,B1,B2,qAv,A1,A2,A3,A4,A5,P1,P2,<- ehB,U,if_false,Bool.false_eq_true]
def begM(x:Tok):Bool:=decide (x.kind=1)||(decide (x.kind=4)&&decide (x.text=[123]))
def hedM(d:Int)(L:List Tok)(s:RS):RS:=if (begM (peekM L s)&&decide (12<d))=true then failM (mustM s (begM (peekM L s))) 13 else mustM s (begM (peekM L s))
def leafT(k:Int):TT:=.mk k [] .nil .nil
def zeroT:TT:=leafT 0
def angM(L:List Tok)(s:RS):RS:=mustM (takeM 4 L s [60]) (isM 4 L s [60])
def engM(L:List Tok)(s:RS):RS:=mustM (takeM 4 L s [62]) (isM 4 L s [62])
def ofM(sub:RS->TT×RS)(L:List Tok)(k:Int)(s:RS):TT×RS:=(.mk k [] .nil (.mk true [(sub (angM L s)).1]),engM L (sub (angM L s)).2)
noncomputable def wrdT(sub:RS->TT×RS)(L:List Tok)(w:LB)(s:RS):TT×RS :=
 if w=wordM 1 then (leafT 1,s) else if w=wordM 2 then (leafT 2,s) else if w=wordM 3 then (leafT 3,s) else if w=wordM 8 then recdM sub L 8 s
 else if w=wordM 4 then ofM sub L 4 s else if w=wordM 5 then ofM sub L 5 s else if w=wordM 6 then ofM sub L 6 s else (.mk 9 w .nil .nil,s)
noncomputable def oneP(sub:RS->TT×RS)(d:Int)(L:List Tok)(s:RS):TT×RS :=
 if (hedM d L s).e≠0 then (zeroT,hedM d L s) else if (peekM L s).kind=4 then recdM sub L 7 (hedM d L s) else wrdT sub L (peekM L s).text (nextM (hedM d L s))
def recOK(sub:RS->TT×RS)(ok:RS->Prop)(L:List Tok)(s:RS):Prop:=rowOK sub ok L [125] (opnM L s)/\(rowM sub L [125] (opnM L s)).1.length<=1000
def wrdOK(sub:RS->TT×RS)(ok:RS->Prop)(L:List Tok)(w:LB)(s:RS):Prop:=(w=wordM 8->recOK sub ok L s)/\((w=wordM 4\/w=wordM 5\/w=wordM 6)->ok (angM L s))
def oneOK(sub:RS->TT×RS)(ok:RS->Prop)(d:Int)(L:List Tok)(s:RS):Prop :=
 (hedM d L s).e=0->((peekM L s).kind=4->recOK sub ok L (hedM d L s))/\((peekM L s).kind≠4->wrdOK sub ok L (peekM L s).text (nextM (hedM d L s)))
structure OH (h:Heap) (L:List Tok) (s:RS) (x:Tok):Prop where
 g0:h.get (.im 0)=some (rO L s)
 o4:h.get (.own 4 1)=some (.cells z4 0)
 o5:h.get (.own 5 1)=some (.cells x.cells 0)
 g8:h.gen 8=0
abbrev o4P:TVal:=.v (.c (.ptr (.own 4 1) 0))
abbrev o5P:TVal:=.v (.c (.ptr (.own 5 1) 0))
theorem qTG(s:RS)(e:Int):(failM s e).p=s.p:=by unfold failM; split <;> rfl
theorem qIJ(d:Int)(L:List Tok)(s:RS):(hedM d L s).p=s.p:=by
 unfold hedM;split
 ·rw[qTG,qBS]
 ·rw[qBS]
theorem one0(d:Int)(L:List Tok)(s:RS):∃ h,OH h L (hedM d L s) (peekM L s)/\lim tab.get S 34 1 0 [P0,kI d] { ims:=[rO L s],owns:=.nil }=lim tab.get S 34 1 1 [P0,kI d,o4P,o5P] h:=by
 have g0:∀ x:AObj,((Heap.mk [rO L s] .nil).own 4 1 x).get (.im 0)=some (rO L s):=λ_=>rfl
 have U:=λ(x:AObj) (β:Type) (k:KO β) (d:Nat)=>u55 (k:=k) (d:=d) (g0 x)
 have gn:(Heap.mk [rO L s] .nil).gen 4=0:=rfl;have gn5:(Heap.mk [rO L s] .nil).gen 5=0:=rfl;have P4:∀ a b c d:Cell,put1 zT 0 [a,b,c,d]=[a,b,c,d]:=λ_ _ _ _=>rfl
 unfold hedM begM;rw[qIL] at U;generalize hx:peekM L s=x at *;generalize hH:(((Heap.mk [rO L s] .nil).own 4 1 (.cells z4 0)).own 5 1 (.cells zT 0)).own 5 1 (.cells [.p (.int .i64 x.kind),.p (.str x.text),.p (.int .i64 x.n),.p (.int .i64 x.pos)] 0)=H;have H0:H.get (.im 0)=some (rO L s):=by rw[<- hH]; rfl
 have U39:=λ(b:Bool) (β:Type) (k:KO β) (d:Nat)=>u39 (k:=k) (d:=d) b H0
 have OHp:∀ s',OH (H.put (.im 0) (rO L s')) L s' x:=λs'=>by rw[<- hH]; exact⟨rfl,rfl,rfl,rfl⟩
 have OHp2:∀ s' s'',OH ((H.put (.im 0) (rO L s')).put (.im 0) (rO L s'')) L s'' x:=λs' s''=>by rw[<- hH]; exact⟨rfl,rfl,rfl,rfl⟩
 have g5:H.get (.own 5 1)=some (.cells [.p (.int .i64 x.kind),.p (.str x.text),.p (.int .i64 x.n),.p (.int .i64 x.pos)] 0):=by rw[<- hH]; rfl
 generalize hb:(decide (x.kind=1)||(decide (x.kind=4)&&decide (x.text=[123])))=b;have U56:=λ(s':RS) (β:Type) (k:KO β) (d:Nat)=>u56 (k:=k) (d:=d) 13 (OHp s').g0
 have GO:lim tab.get S 34 1 0 [P0,kI d] { ims:=[rO L s],owns:=.nil }=(vcall Om (F_ 39) [P0,kB b] H 26 λx26 h=>vguard (kB b) true (λkk=>kk (kI d) h) h λx29 h=>vguard (kB b) true (λkk=>vbin .gtr 0 x29 (kI 12) h kk) h λx30 h=>vop Om (.pick (.k (kB b)) (.k x30) (.k (kB false))) h 31 λx31 h=>vif x31 (vcall Om (F_ 56) [P0,kI 13] h 33 λx33 h=>lim tab.get S 34 1 1 [P0,kI d,o4P,o5P] h) (lim tab.get S 34 1 1 [P0,kI d,o4P,o5P] h)):=by
  rw[w34_0,b34_0];cases h1:decide (x.kind=1) with
  |true =>
   rw[h1,Bool.true_or] at hb;subst hb;simp (maxSteps:=9^7) +contextual only[exa,rA,rB,rC,rD,rE,rF,rG,rH,rI,exW,U,gn,gn5,P4,h1,hH,g5]
  |false =>
   rw[h1,Bool.false_or] at hb;cases h4:decide (x.kind=4) with
   |true =>
    rw[h4,Bool.true_and] at hb;cases ht:decide (x.text=[123]) with
    |true =>
     rw[ht] at hb;subst hb;simp (maxSteps:=9^7) +contextual only[exa,rA,rB,rC,rD,rE,rF,rG,rH,rI,exW,U,gn,gn5,P4,h1,h4,ht,hH,g5]
    |false =>
     rw[ht] at hb;subst hb;simp (maxSteps:=9^7) +contextual only[exa,rA,rB,rC,rD,rE,rF,rG,rH,rI,exW,U,gn,gn5,P4,h1,h4,ht,hH,g5]
   |false =>
    rw[h4,Bool.false_and] at hb;subst hb;simp (maxSteps:=9^7) +contextual only[exa,rA,rB,rC,rD,rE,rF,rG,rH,rI,exW,U,gn,gn5,P4,h1,h4,hH,g5]
 cases b with
 |false =>
  refine⟨_,OHp (mustM s false),GO.trans ?_⟩;simp (maxSteps:=9^7) +contextual only[exa,rA,rB,rC,rD,rE,rF,rG,rH,rI,exW,U39]
 |true =>
  by_cases hd:12<d
  ·rw[Bool.true_and,if_pos (decide_eq_true hd)];refine⟨_,OHp2 (mustM s true) _,GO.trans ?_⟩;simp (maxSteps:=9^7) +contextual only[exa,rA,rB,rC,rD,rE,rF,rG,rH,rI,exW,U39,hd,U56]
  ·rw[Bool.true_and,if_neg (by rw[decide_eq_false hd]; decide)];refine⟨_,OHp (mustM s true),GO.trans ?_⟩;simp (maxSteps:=9^7) +contextual only[exa,rA,rB,rC,rD,rE,rF,rG,rH,rI,exW,U39,hd]
theorem qBZ(t:TT):put1 z4 0 (pcells t.row)=pcells t.row:=qBA _ _ (by rw[qAN,TT.row_len]; rfl)
theorem qC1{h:Heap}{L:List Tok}{s:RS}(t:TT)(o:AObj)(hg:h.get (.im 0)=some (rO L s)):vfin true 1 [.agg (pcells t.row)] (h.own 4 1 o)=some (kA t.row,[rO L s]) :=
 qAP true [.agg (pcells t.row)] _ (by simp only[exP]) hg (qAC L s)
theorem qIR{d:Int}{L:List Tok}{sub:RS->TT×RS}{okP:RS->Prop}(ok:SubOK d L sub okP)(hd:0<=d/\d<=100)(hL:L.length<=1000)(k:Int)(hk:k=4\/k=5\/k=6){h:Heap}{s:RS}{x:Tok}(hs:s.p<=L.length)(A:OH h L s x)(hw:x.text=wordM k)(ho:okP (angM L s)) :
  lim tab.get S 34 1 2 [P0,kI d,o4P,o5P,kI k] h=some (kA (ofM sub L k s).1.row,[rO L (ofM sub L k s).2]):=by
 have I0:I1 L s:=⟨λ_=>hs,by omega⟩;have Ia:I1 L (angM L s):=qEa _ (qEj (by decide) I0).1;have c34:=ok.one _ Ia ho;obtain⟨Ib,_⟩:=ok.inv _ Ia;unfold ofM;have U41:=λ(β:Type) (kk:KO β) (d:Nat)=>u41 (k:=kk) (d:=d) (by omega:s.p<=1000000) [60] A.g0
 generalize hh1:h.put (.im 0) (rO L (takeM 4 L s [60]))=h1 at U41;have G1:h1.get (.im 0)=some (rO L (takeM 4 L s [60])):=by rw[<- hh1]; exact Heap.zput_self A.g0 (λe=>by cases e)
 have U39:=λ(β:Type) (kk:KO β) (d:Nat)=>u39 (k:=kk) (d:=d) (isM 4 L s [60]) G1
 rw[show mustM (takeM 4 L s [60]) (isM 4 L s [60])=angM L s from rfl] at U39;generalize hh2:h1.put (.im 0) (rO L (angM L s))=h2 at U39;have G2:h2.get (.im 0)=some (rO L (angM L s)):=by rw[<- hh2]; exact Heap.zput_self G1 (λe=>by cases e)
 have ed:IntKind.i64.wrap (d+1)=d+1:=qAL _ (by omega) (by omega);generalize hr:sub (angM L s)=r at *;have U34:∀ (β:Type) (kk:KO β) (e:Nat),vcall Om (F_ 34) [P0,kI (d+1)] h2 e kk=kk (kA r.1.row) (h2.put (.im 0) (rO L r.2)):=λβ kk e =>
  qAU 34 (.im 0) 0 [] [kI (d+1)] _ _ _ rfl rfl G2 (qAC L _) (qAC L _) (by simp only[exP]) c34
 generalize hh3:h2.put (.im 0) (rO L r.2)=h3 at U34;have G3:h3.get (.im 0)=some (rO L r.2):=by rw[<- hh3]; exact Heap.zput_self G2 (λe=>by cases e)
 have Z3:∀ dd g,h3.get (.own dd g)=h.get (.own dd g):=λdd g=>by rw[<- hh3,<- hh2,<- hh1]; rfl
 have gn3:h3.gen 8=0:=by rw[<- hh3,<- hh2,<- hh1]; exact A.g8
 obtain⟨a1,a2,a3,a4,hrow⟩:∃ a1 a2 a3 a4,r.1.row=[a1,a2,a3,a4]:=by cases r.1; exact⟨_,_,_,_,rfl⟩
 have pr:pcells r.1.row=[.p a1,.p a2,.p a3,.p a4]:=by rw[hrow]; rfl
 generalize hh4:(h3.own 8 1 (.cells z4 0)).own 8 1 (.cells (pcells r.1.row) 0)=h4;have G4:h4.get (.im 0)=some (rO L r.2):=by rw[<- hh4]; exact G3
 have o8:h4.get (.own 8 1)=some (.cells (pcells r.1.row) 0):=by rw[<- hh4]; exact Heap.own_get _ _ _ _ (by decide) (λe=>by cases e)
 have o44:h4.get (.own 4 1)=some (.cells z4 0):=by rw[<- hh4]; exact(Heap.own_get_ne _ 8 _ _ 4 1 (by decide)).trans ((Heap.own_get_ne _ 8 _ _ 4 1 (by decide)).trans ((Z3 4 1).trans A.o4))
 have hp2:r.2.p<=1000000:=by have:=Ib.2; omega
 have V41:=λ(β:Type) (kk:KO β) (d:Nat)=>u41 (k:=kk) (d:=d) hp2 [62] G4
 generalize hh5:h4.put (.im 0) (rO L (takeM 4 L r.2 [62]))=h5 at V41;have G5:h5.get (.im 0)=some (rO L (takeM 4 L r.2 [62])):=by rw[<- hh5]; exact Heap.zput_self G4 (λe=>by cases e)
 have V39:=λ(β:Type) (kk:KO β) (d:Nat)=>u39 (k:=kk) (d:=d) (isM 4 L r.2 [62]) G5
 rw[show mustM (takeM 4 L r.2 [62]) (isM 4 L r.2 [62])=engM L r.2 from rfl] at V39;generalize hh6:h5.put (.im 0) (rO L (engM L r.2))=h6 at V39;have G6:h6.get (.im 0)=some (rO L (engM L r.2)):=by rw[<- hh6]; exact Heap.zput_self G5 (λe=>by cases e)
 have o86:h6.get (.own 8 1)=some (.cells (pcells r.1.row) 0):=by rw[<- hh6,<- hh5]; exact o8
 have o46:h6.get (.own 4 1)=some (.cells z4 0):=by rw[<- hh6,<- hh5]; exact o44
 have o5x:h.get (.own 5 1)=some (.cells [.p (.int .i64 x.kind),.p (.str x.text),.p (.int .i64 x.n),.p (.int .i64 x.pos)] 0):=A.o5;have k6:¬ (6:Int)<k:=by omega
 have B1:∀ (β:Type) (kk:KO β) (hh:Heap),vop Om (.bslice 4 1 z4 [(0,.k (kA r.1.row))] false) hh 96 kk=kk (kSl 4 true [r.1.row]) hh:=λβ kk hh=>by rw[hrow]; exact qAx _ _ rfl
 have B2:∀ (β:Type) (kk:KO β) (hh:Heap),vop Om (.build z4 [(0,1,.k (kI k)),(3,1,.k (kSl 4 true [r.1.row]))]) hh 97 kk=kk (kA (TT.mk k [] .nil (.mk true [r.1])).row) hh:=λ_ _ _=>rfl
 have L4:(pcells r.1.row).length=4:=by rw[qAN,TT.row_len]
 have T4:(pcells r.1.row).take 4=pcells r.1.row:=List.take_of_length_le (by omega);have Pz:=qBZ r.1;have Pk:=qBZ (TT.mk k [] .nil (.mk true [r.1]));have Lk:(pcells (TT.mk k [] .nil (.mk true [r.1])).row).length=4:=by rw[qAN,TT.row_len]
 have Tk:(pcells (TT.mk k [] .nil (.mk true [r.1])).row).take 4=pcells (TT.mk k [] .nil (.mk true [r.1])).row:=List.take_of_length_le (by omega);have fin:=qC1 (TT.mk k [] .nil (.mk true [r.1])) (.cells (pcells (TT.mk k [] .nil (.mk true [r.1])).row) 0) G6;rw[w34_2,b34_2];simp (maxSteps:=9^7) +contextual only[exa,rA,rB,rC,rD,rE,rF,rG,rH,rI,exW,exY,k6,o5x,y32,hw,U41,U39,ed,U34,gn3,hh4,V41,V39,o86,o46,B1,B2,L4,T4,Pz,Pk,Lk,Tk,fin]
theorem qFg{d:Int}{L:List Tok}(k:Int)(hk:k=4\/k=5\/k=6){h:Heap}{s:RS}{x:Tok}(A:OH h L s x)(hw:x.text≠wordM k) :
  lim tab.get S 34 1 2 [P0,kI d,o4P,o5P,kI k] h=lim tab.get S 34 1 2 [P0,kI d,o4P,o5P,kI (k+1)] h:=by
 have o5x:h.get (.own 5 1)=some (.cells [.p (.int .i64 x.kind),.p (.str x.text),.p (.int .i64 x.n),.p (.int .i64 x.pos)] 0):=A.o5;have k6:¬ (6:Int)<k:=by omega
 have ew:IntKind.i64.wrap (k+1)=k+1:=qAL _ (by omega) (by omega)
 conv=>lhs; rw[w34_2,b34_2]
 simp (maxSteps:=9^7) +contextual only[exa,rA,rB,rC,rD,rE,rF,rG,rH,rI,exW,exY,k6,o5x,y32,hw,ew]
theorem qPL{d:Int}{L:List Tok}{h:Heap}{s:RS}{x:Tok}(A:OH h L s x) :
  lim tab.get S 34 1 2 [P0,kI d,o4P,o5P,kI 7] h=some (kA (TT.mk 9 x.text .nil .nil).row,[rO L s]):=by
 have o5x:h.get (.own 5 1)=some (.cells [.p (.int .i64 x.kind),.p (.str x.text),.p (.int .i64 x.n),.p (.int .i64 x.pos)] 0):=A.o5;have B2:∀ (β:Type) (kk:KO β) (hh:Heap),vop Om (.build z4 [(0,1,.k (kI 9)),(1,1,.k (kS x.text))]) hh 100 kk=kk (kA (TT.mk 9 x.text .nil .nil).row) hh:=λ_ _ _=>rfl
 have Pk:=qBZ (TT.mk 9 x.text .nil .nil);have Lk:(pcells (TT.mk 9 x.text .nil .nil).row).length=4:=by rw[qAN,TT.row_len]
 have Tk:(pcells (TT.mk 9 x.text .nil .nil).row).take 4=pcells (TT.mk 9 x.text .nil .nil).row:=List.take_of_length_le (by omega);have fin:=qC1 (TT.mk 9 x.text .nil .nil) (.cells (pcells (TT.mk 9 x.text .nil .nil).row) 0) A.g0;rw[w34_2,b34_2];simp (maxSteps:=9^7) +contextual only[exa,rA,rB,rC,rD,rE,rF,rG,rH,rI,exW,exY];rw[w34_3,b34_3];simp (maxSteps:=9^7) +contextual only[exa,rA,rB,rC,rD,rE,rF,rG,rH,rI,exW,exY,o5x,A.o4,B2,Pk,Lk,Tk,fin]
theorem qRD{d:Int}{L:List Tok}{sub:RS->TT×RS}{okP:RS->Prop}(ok:SubOK d L sub okP)(hd:0<=d/\d<=100)(hL:L.length<=1000){h:Heap}{s:RS}{x:Tok}(hs:s.p<=L.length)(A:OH h L s x)(ho:(x.text=wordM 4\/x.text=wordM 5\/x.text=wordM 6)->okP (angM L s)) :
  lim tab.get S 34 1 2 [P0,kI d,o4P,o5P,kI 4] h=some (kA (if x.text=wordM 4 then ofM sub L 4 s else if x.text=wordM 5 then ofM sub L 5 s else if x.text=wordM 6 then ofM sub L 6 s else (.mk 9 x.text .nil .nil,s)).1.row,[rO L (if x.text=wordM 4 then ofM sub L 4 s else if x.text=wordM 5 then ofM sub L 5 s else if x.text=wordM 6 then ofM sub L 6 s else (.mk 9 x.text .nil .nil,s)).2]):=by
 by_cases h4:x.text=wordM 4
 ·rw[if_pos h4]; exact qIR ok hd hL 4 (.inl rfl) hs A h4 (ho (.inl h4))
 ·rw[if_neg h4,qFg 4 (.inl rfl) A h4];by_cases h5:x.text=wordM 5
  ·rw[if_pos h5]; exact qIR ok hd hL 5 (.inr (.inl rfl)) hs A h5 (ho (.inr (.inl h5)))
  ·rw[if_neg h5];refine(qFg 5 (.inr (.inl rfl)) A h5).trans ?_;by_cases h6:x.text=wordM 6
   ·rw[if_pos h6]; exact qIR ok hd hL 6 (.inr (.inr rfl)) hs A h6 (ho (.inr (.inr h6)))
   ·rw[if_neg h6];refine(qFg 6 (.inr (.inr rfl)) A h6).trans ?_;exact qPL A
theorem one1{d:Int}{L:List Tok}{sub:RS->TT×RS}{okP:RS->Prop}(ok:SubOK d L sub okP)(hd:0<=d/\d<=100)(hL:L.length<=1000){h:Heap}{s:RS}{x:Tok}(A:OH h L s x)(he:s.e=0)(hs:s.p<=L.length)(hs1:x.kind≠4->s.p+1<=L.length)(o4:x.kind=4->recOK sub okP L s)(ow:x.kind≠4->wrdOK sub okP L x.text (nextM s)) :
  lim tab.get S 34 1 1 [P0,kI d,o4P,o5P] h=some (kA (if x.kind=4 then recdM sub L 7 s else wrdT sub L x.text (nextM s)).1.row,[rO L (if x.kind=4 then recdM sub L 7 s else wrdT sub L x.text (nextM s)).2]):=by
 have o5x:h.get (.own 5 1)=some (.cells [.p (.int .i64 x.kind),.p (.str x.text),.p (.int .i64 x.n),.p (.int .i64 x.pos)] 0):=A.o5;have z5':∀ t:TT,(pcells t.row).length=4:=λt=>by rw[qAN,TT.row_len]
 have Tz:∀ t:TT,(pcells t.row).take 4=pcells t.row:=λt=>List.take_of_length_le (by rw[z5']; exact Nat.le_refl _)
 have R57:∀ (kd:Int) (s':RS) (h':Heap),h'.get (.im 0)=some (rO L s')->s'.p<=L.length->recOK sub okP L s'->∀ (β:Type) (kk:KO β) (e:Nat),vcall Om (F_ 57) [P0,kI kd,kI d] h' e kk=kk (kA (recdM sub L kd s').1.row) (h'.put (.im 0) (rO L (recdM sub L kd s').2)):=λkd s' h' hg hp ro β kk e =>
  qAU 57 (.im 0) 0 [] [kI kd,kI d] _ _ _ rfl rfl hg (qAC L _) (qAC L _) (by simp only[exP]) (qTr ok hd hL kd s' hp ro.1 ro.2)
 rw[w34_1,b34_1];cases hk4:decide (x.kind=4) with
 |true =>
  have h4:=of_decide_eq_true hk4;rw[if_pos h4];have U:=R57 7 s h A.g0 hs (o4 h4);generalize recdM sub L 7 s=r at *;have G1:(h.put (.im 0) (rO L r.2)).get (.im 0)=some (rO L r.2):=Heap.zput_self A.g0 (λe=>by cases e);have fin:=qC1 r.1 (.cells (pcells r.1.row) 0) G1;have Pk:=qBZ r.1;have Lk:=z5' r.1;have Tk:=Tz r.1;simp (maxSteps:=9^7) +contextual only[exa,rA,rB,rC,rD,rE,rF,rG,rH,rI,exW,exY,A.g0,he,o5x,hk4,U,A.o4,Pk,Lk,Tk,fin]
 |false =>
  have h4:=of_decide_eq_false hk4;rw[if_neg h4];have hsp:=hs1 h4;have w1:IntKind.i64.wrap ((s.p:Int)+1)=((s.p+1:Nat):Int):=by rw[qAL _ (by omega) (by omega)]; omega
  have P1:∀ (a b c e y:Cell),put1 [a,b,c,e] 1 [y]=[a,y,c,e]:=λ_ _ _ _ _=>rfl
  generalize hh1:h.put (.im 0) (rO L (nextM s))=h1;have hh1':h.put (.im 0) (.cells [.p (tksP L),.p (.int .i64 ((s.p+1:Nat):Int)),.p (.int .i64 0),.p (.bool s.tw)] 0)=h1:=by rw[<- he]; exact hh1
  have B:OH h1 L (nextM s) x:=by
   rw[<- hh1];exact⟨Heap.zput_self A.g0 (λe=>by cases e),A.o4,A.o5,A.g8⟩
  have b5x:h1.get (.own 5 1)=some (.cells [.p (.int .i64 x.kind),.p (.str x.text),.p (.int .i64 x.n),.p (.int .i64 x.pos)] 0):=B.o5;obtain⟨ow1,ow2⟩:=ow h4;have LF:∀ k:Int,∀ (β:Type) (kk:KO β) (hh:Heap) (dd:Nat),vop Om (.build z4 [(0,1,.k (kI k))]) hh dd kk=kk (kA (leafT k).row) hh:=λ_ _ _ _ _=>rfl
  have fin:=λk=>qC1 (leafT k) (.cells (pcells (leafT k).row) 0) B.g0
  have Pl:=λk=>qBZ (leafT k)
  have Ll:=λk=>z5' (leafT k)
  have Tl:=λk=>Tz (leafT k)
  unfold wrdT;cases q1:decide (x.text=wordM 1) with
  |true =>
   rw[if_pos (of_decide_eq_true q1)];simp (maxSteps:=9^7) +contextual only[exa,rA,rB,rC,rD,rE,rF,rG,rH,rI,exW,exY,A.g0,he,o5x,hk4,w1,P1,hh1',b5x,u32,q1,LF,A.o4,B.o4,Pl,Ll,Tl,fin]
  |false =>
   rw[if_neg (of_decide_eq_false q1)];cases q2:decide (x.text=wordM 2) with
   |true =>
    rw[if_pos (of_decide_eq_true q2)];simp (maxSteps:=9^7) +contextual only[exa,rA,rB,rC,rD,rE,rF,rG,rH,rI,exW,exY,A.g0,he,o5x,hk4,w1,P1,hh1',b5x,u32,q1,q2,LF,A.o4,B.o4,Pl,Ll,Tl,fin]
   |false =>
    rw[if_neg (of_decide_eq_false q2)];cases q3:decide (x.text=wordM 3) with
    |true =>
     rw[if_pos (of_decide_eq_true q3)];simp (maxSteps:=9^7) +contextual only[exa,rA,rB,rC,rD,rE,rF,rG,rH,rI,exW,exY,A.g0,he,o5x,hk4,w1,P1,hh1',b5x,u32,q1,q2,q3,LF,A.o4,B.o4,Pl,Ll,Tl,fin]
    |false =>
     rw[if_neg (of_decide_eq_false q3)];cases q8:decide (x.text=wordM 8) with
     |true =>
      rw[if_pos (of_decide_eq_true q8)];have U:=R57 8 (nextM s) h1 B.g0 hsp (ow1 (of_decide_eq_true q8));generalize recdM sub L 8 (nextM s)=r at *;have G1:(h1.put (.im 0) (rO L r.2)).get (.im 0)=some (rO L r.2):=Heap.zput_self B.g0 (λe=>by cases e);have finr:=qC1 r.1 (.cells (pcells r.1.row) 0) G1;have Pk:=qBZ r.1;have Lk:=z5' r.1;have Tk:=Tz r.1;simp (maxSteps:=9^7) +contextual only[exa,rA,rB,rC,rD,rE,rF,rG,rH,rI,exW,exY,A.g0,he,o5x,hk4,w1,P1,hh1',b5x,u32,q1,q2,q3,q8,LF,A.o4,B.o4,Pl,Ll,Tl,U,Pk,Lk,Tk,finr]
     |false =>
      rw[if_neg (of_decide_eq_false q8)];refine Eq.trans ?_ (qRD ok hd hL hsp B ow2);simp (maxSteps:=9^7) +contextual only[exa,rA,rB,rC,rD,rE,rF,rG,rH,rI,exW,exY,A.g0,he,o5x,hk4,w1,P1,hh1',b5x,u32,q1,q2,q3,q8,LF,A.o4,B.o4,Pl,Ll,Tl,fin]
theorem qUU{s:RS}{e:Int}(he:e≠0)(h:(failM s e).e=0):False:=qGU s e he h
theorem qHO{s:RS}{b:Bool}(h:(mustM s b).e=0):b=true/\s.e=0:=by
 unfold mustM at h;split at h
 ·rename_i hb; exact⟨hb,h⟩
 ·exact absurd h (qGU _ _ (by decide))
theorem qGq{d:Int}{L:List Tok}{s:RS}(h:(hedM d L s).e=0):hedM d L s=s/\begM (peekM L s)=true/\s.e=0/\d<=12:=by
 unfold hedM at h ⊢;split at h
 ·exact absurd h (qGU _ _ (by decide))
 ·rename_i hb;obtain⟨h1,h2⟩:=qHO h;rw[if_neg hb];refine⟨by rw[h1]; rfl,h1,h2,?_⟩;rw[h1,Bool.true_and,decide_eq_true_eq] at hb;omega
theorem qT2{d:Int}{L:List Tok}{sub:RS->TT×RS}{okP:RS->Prop}(ok:SubOK d L sub okP)(hd:0<=d/\d<=100)(hL:L.length<=1000)(s:RS)(I:I1 L s)(o:oneOK sub okP d L s) :
  Om 34 [P0,kI d] [rO L s]=some (kA (oneP sub d L s).1.row,[rO L (oneP sub d L s).2]):=by
 refine(qAD rfl).trans ?_;show lim tab.get S 34 1 0 [P0,kI d] { ims:=[rO L s],owns:=.nil }=_;obtain⟨h,A,e⟩:=one0 d L s;rw[e];unfold oneP;by_cases he:(hedM d L s).e=0
 ·obtain⟨h1,h2,h3,h4⟩:=qGq he;obtain⟨o1,o2⟩:=o he;rw[if_neg (λh=>h he)];have hp:=I.1 h3;have hsp:(peekM L s).kind≠4->(hedM d L s).p+1<=L.length:=λhk=>by
   rw[qIJ];unfold begM at h2;rw[decide_eq_false hk,Bool.false_and,Bool.or_false,decide_eq_true_eq] at h2;exact(qCo (by rw[h2]; decide)).2
  exact one1 ok hd hL A he (by rw[qIJ]; exact hp) hsp o1 o2
 ·rw[if_pos he];have o5x:h.get (.own 5 1)=some (.cells [.p (.int .i64 (peekM L s).kind),.p (.str (peekM L s).text),.p (.int .i64 (peekM L s).n),.p (.int .i64 (peekM L s).pos)] 0):=A.o5;have LF:∀ (β:Type) (kk:KO β) (hh:Heap),vop Om (.build z4 []) hh 39 kk=kk (kA zeroT.row) hh:=λ_ _ _=>rfl
  have fin:=qC1 zeroT (.cells (pcells zeroT.row) 0) A.g0;have Pl:=qBZ zeroT;have Ll:(pcells zeroT.row).length=4:=rfl;have Tl:(pcells zeroT.row).take 4=pcells zeroT.row:=rfl;have A0:=A.g0;generalize hedM d L s=s2 at *;rw[w34_1,b34_1];simp (maxSteps:=9^7) +contextual only[exa,rA,rB,rC,rD,rE,rF,rG,rH,rI,exW,exY,A0,he,LF,A.o4,Pl,Ll,Tl,fin]
def Inv(L:List Tok)(sub:RS->TT×RS):Prop:=∀ s,I1 L s->I1 L (sub s).2/\s.p<=(sub s).2.p
theorem qCN{L:List Tok}{sub:RS->TT×RS}(inv:Inv L sub){s:RS}(h:s.p<=L.length):I1 L (fieldM sub L s).2/\s.p<=(fieldM sub L s).2.p:=by
 obtain⟨h1,h2⟩:=qGS h;obtain⟨h3,h4⟩:=inv _ h1;exact⟨h3,by show s.p<=(sub (colM L s)).2.p; omega⟩
theorem qAg{L:List Tok}{s:RS}(x:LB)(h:I1 L s):I1 L (mustM (takeM 4 L s x) (isM 4 L s x))/\s.p<=(mustM (takeM 4 L s x) (isM 4 L s x)).p:=by
 obtain⟨h1,h2⟩:=qEj (k:=4) (x:=x) (by decide) h;exact⟨qEa _ h1,by rw[qBS]; exact h2⟩
theorem qJB{L:List Tok}{sub:RS->TT×RS}(inv:Inv L sub)(x:LB):∀ (f:Nat) (s:RS) (acc:Es),I1 L s->I1 L (loopM sub L x f s acc).2/\s.p<=(loopM sub L x f s acc).2.p
 |0,s,acc,h=>⟨h,Nat.le_refl _⟩
 |f+1,s,acc,h=>by
  unfold loopM;split
  ·rename_i hi;have hl:=(qBC (by decide) hi).2;have hn:(nextM s).p<=L.length:=hl;obtain⟨h1,h2⟩:=qCN inv hn;obtain⟨h3,h4⟩:=qJB inv x f _ (acc++[(fieldM sub L (nextM s)).1]) h1;refine⟨h3,?_⟩;have:(nextM s).p=s.p+1:=rfl;omega
  ·exact qAg x h
theorem qQn{L:List Tok}{sub:RS->TT×RS}(inv:Inv L sub)(x:LB){s:RS}(h:s.p<=L.length):I1 L (rowM sub L x s).2/\s.p<=(rowM sub L x s).2.p:=by
 unfold rowM;split
 ·rename_i hi;have hl:=(qBC (by decide) hi).2;exact⟨⟨λ_=>hl,by show s.p+1<=_; omega⟩,by show s.p<=s.p+1; omega⟩
 ·obtain⟨h1,h2⟩:=qCN inv h;obtain⟨h3,h4⟩:=qJB inv x (L.length+2) _ [(fieldM sub L s).1] h1;exact⟨h3,by omega⟩
theorem qSt{L:List Tok}{s:RS}:s.p<=(opnM L s).p:=by
 unfold opnM;rw[qBS];unfold takeM;split
 ·show s.p<=s.p+1; omega
 ·exact Nat.le_refl _
theorem qKL{L:List Tok}{sub:RS->TT×RS}(inv:Inv L sub)(kd:Int){s:RS}(h:s.p<=L.length):I1 L (recdM sub L kd s).2/\s.p<=(recdM sub L kd s).2.p:=by
 obtain⟨h1,h2⟩:=qQn inv [125] (qGw h);have h3:=qSt (L:=L) (s:=s);exact⟨⟨h1.1,h1.2⟩,by show s.p<=(rowM sub L [125] (opnM L s)).2.p; omega⟩
theorem qJV{L:List Tok}{sub:RS->TT×RS}(inv:Inv L sub)(k:Int){s:RS}(h:s.p<=L.length):I1 L (ofM sub L k s).2/\s.p<=(ofM sub L k s).2.p:=by
 obtain⟨h1,h2⟩:=qAg (L:=L) (s:=s) [60] ⟨λ_=>h,by omega⟩;obtain⟨h3,h4⟩:=inv _ h1;obtain⟨h5,h6⟩:=qAg [62] h3
 exact⟨h5,by
  show s.p<=(mustM (takeM 4 L (sub (angM L s)).2 [62]) (isM 4 L (sub (angM L s)).2 [62])).p;have h2':s.p<=(angM L s).p:=h2;have h4':(angM L s).p<=(sub (angM L s)).2.p:=h4;have h6':(sub (angM L s)).2.p<=(mustM (takeM 4 L (sub (angM L s)).2 [62]) (isM 4 L (sub (angM L s)).2 [62])).p:=h6
  omega⟩
theorem qSF{L:List Tok}{sub:RS->TT×RS}(inv:Inv L sub)(w:LB){s:RS}(h:s.p<=L.length):I1 L (wrdT sub L w s).2/\s.p<=(wrdT sub L w s).2.p:=by
 have me:I1 L s/\s.p<=s.p:=⟨⟨λ_=>h,by omega⟩,Nat.le_refl _⟩;unfold wrdT;split
 ·exact me
 split
 ·exact me
 split
 ·exact me
 split
 ·exact qKL inv 8 h
 split
 ·exact qJV inv 4 h
 split
 ·exact qJV inv 5 h
 split
 ·exact qJV inv 6 h
 ·exact me
theorem qRK{L:List Tok}{sub:RS->TT×RS}(inv:Inv L sub)(d:Int):Inv L (oneP sub d L):=by
 intro s I;unfold oneP;by_cases he:(hedM d L s).e=0
 ·obtain⟨h1,h2,h3,h4⟩:=qGq he;rw[if_neg (λh=>h he),h1];have hp:=I.1 h3;by_cases hk:(peekM L s).kind=4
  ·rw[if_pos hk]; exact qKL inv 7 hp
  ·rw[if_neg hk];unfold begM at h2;rw[decide_eq_false hk,Bool.false_and,Bool.or_false,decide_eq_true_eq] at h2;have hl:=(qCo (L:=L) (s:=s) (by rw[h2]; decide)).2;obtain⟨h5,h6⟩:=qSF inv (peekM L s).text (s:=nextM s) (by show s.p+1<=_; omega);have:(nextM s).p=s.p+1:=rfl;exact⟨h5,by omega⟩
 ·rw[if_pos he];refine⟨⟨λh=>absurd h he,by rw[qIJ]; exact I.2⟩,by rw[qIJ]; exact Nat.le_refl _⟩
noncomputable def oneF(L:List Tok):Nat->Int->RS->TT×RS
 |0,_=>λs=>(zeroT,s)
 |n+1,d=>oneP (oneF L n (d+1)) d L
def okF(L:List Tok):Nat->Int->RS->Prop
 |0,_=>λ_=>False
 |n+1,d=>oneOK (oneF L n (d+1)) (okF L n (d+1)) d L
theorem qDF(L:List Tok):∀ (n:Nat) (d:Int),Inv L (oneF L n d)
 |0,d=>λs I=>⟨I,Nat.le_refl _⟩
 |n+1,d=>qRK (qDF L n (d+1)) d
theorem qHD{L:List Tok}(hL:L.length<=1000):∀ (n:Nat) (d:Int),0<=d->d+n<=100->∀ s,I1 L s->okF L n d s->Om 34 [P0,kI d] [rO L s]=some (kA (oneF L n d s).1.row,[rO L (oneF L n d s).2])
 |0,d,_,_,s,I,o=>o.elim
 |n+1,d,h0,h1,s,I,o =>
  qT2 (sub:=oneF L n (d+1)) (okP:=okF L n (d+1)) ⟨λs I o=>qHD hL n (d+1) (by omega) (by omega) s I o,qDF L n (d+1)⟩ ⟨h0,by omega⟩ hL s I o
structure SubR (d:Int) (L:List Tok) (sub:RS->TT×RS):Prop where
 one:∀ s,I1 L s->Om 37 [P0,kI (d+1)] [rO L s]=some (kA (sub s).1.row,[rO L (sub s).2])
 inv:∀ s,I1 L s->I1 L (sub s).2/\s.p<=(sub s).2.p
theorem qUN{L:List Tok}{s:RS}{x:LB}(hx:x≠[])(h:risM L s x=true):s.e=0/\s.p<L.length:=by
 by_cases hh:s.e=0/\s.p<L.length
 ·exact hh
 ·unfold risM at h;rw[qUK hh] at h;have e1:Tok.zero.text=[]:=rfl;rw[e1,decide_eq_false (λe=>hx e.symm)] at h;cases h
theorem qUY{L:List Tok}{s:RS}{e:Int}(he:e≠0)(h:s.p<=L.length+1):I1 L (failM s e)/\s.p=(failM s e).p:=by
 have hp:(failM s e).p=s.p:=by unfold failM; split <;> rfl
 refine⟨⟨λh0=>?_,by rw[hp]; exact h⟩,hp.symm⟩;unfold failM at h0;split at h0
 ·exact absurd h0 he
 ·rename_i hh; exact absurd h0 hh
theorem qUS{L:List Tok}{s:RS}{x:LB}(hx:x≠[])(I:I1 L s):I1 L (reatM L s x)/\s.p<=(reatM L s x).p:=by
 unfold reatM;split
 ·rename_i h;obtain⟨h1,h2⟩:=qUN hx h;exact⟨⟨λ_=>by show s.p+1<=_; omega,by show s.p+1<=_; omega⟩,by show s.p<=s.p+1; omega⟩
 ·obtain⟨a,b⟩:=qUY (L:=L) (s:=s) (e:=12) (by decide) I.2;exact⟨a,by omega⟩
theorem qWT{L:List Tok}{s:RS}(I:I1 L s):I1 L (rnmM L s).2/\s.p<=(rnmM L s).2.p:=by
 unfold rnmM;split
 ·rename_i h;have h2:s.e=0/\s.p<L.length:=by
   by_cases hh:s.e=0/\s.p<L.length
   ·exact hh
   ·rw[qUK hh] at h; cases h
  exact⟨⟨λ_=>by show s.p+1<=_; omega,by show s.p+1<=_; omega⟩,by show s.p<=s.p+1; omega⟩
 ·obtain⟨a,b⟩:=qUY (L:=L) (s:=s) (e:=12) (by decide) I.2;exact⟨a,by show s.p<=(failM s 12).p; omega⟩
def rgo(L:List Tok)(s:RS)(l:Es):Bool:=decide (s.e=0) && !(l.isEmpty&&risM L s [125])
def rent(sub:RS->TT×RS)(L:List Tok)(s:RS):(LB×TT)×RS:=(((rnmM L s).1,(sub (reatM L (rnmM L s).2 [58])).1),(sub (reatM L (rnmM L s).2 [58])).2)
def rtwM(l:Es)(n:LB)(s:RS):RS:={ s with tw:=s.tw||dupE l n }
def rloop(sub:RS->TT×RS)(L:List Tok):Nat->RS->Es->Es×RS
 |0,s,l=>(l,s)
 |f+1,s,l=>if rgo L s l=true then
   (if risM L (rtwM l (rent sub L s).1.1 (rent sub L s).2) [44]=true then rloop sub L f (reatM L (rtwM l (rent sub L s).1.1 (rent sub L s).2) [44]) (insE l (rent sub L s).1)
   else (insE l (rent sub L s).1,rtwM l (rent sub L s).1.1 (rent sub L s).2))
  else (l,s)
def rrecM(sub:RS->TT×RS)(L:List Tok)(kd:Int)(s:RS):TT×RS :=
 (recT kd (rloop sub L (L.length+2) (reatM L s [123]) []).1,reatM L (rloop sub L (L.length+2) (reatM L s [123]) []).2 [125])
theorem RH.put{h:Heap}{L:List Tok}{s t:RS}{kd:Int}{l:Es}(A:RH h L s kd l):RH (h.put (.im 0) (rO L t)) L t kd l :=
 ⟨Heap.zput_self A.a0 (λe=>by cases e),A.a6,A.a7⟩
theorem RH.own9{h:Heap}{L:List Tok}{s:RS}{kd:Int}{l:Es}(A:RH h L s kd l)(g:Nat)(o:AObj):RH (h.own 9 g o) L s kd l:=by
 obtain⟨K,E,a,b,c⟩:=A.a7;exact⟨A.a0,by rw[Heap.own_get_ne _ _ _ _ _ _ (by decide)]; exact A.a6,K,E,by rw[Heap.own_get_ne _ _ _ _ _ _ (by decide)]; exact a,b,c⟩
theorem qWj{L:List Tok}{sub:RS->TT×RS}(inv:Inv L sub){s:RS}(I:I1 L s):I1 L (rent sub L s).2/\s.p<=(rent sub L s).2.p:=by
 obtain⟨a,b⟩:=qWT I;obtain⟨c,d⟩:=qUS (x:=[58]) (by decide) a;obtain⟨e,f⟩:=inv _ c;exact⟨e,by show s.p<=(sub (reatM L (rnmM L s).2 [58])).2.p; omega⟩
theorem qWy{d:Int}{L:List Tok}{sub:RS->TT×RS}(ok:SubR d L sub)(hd:0<=d/\d<=100)(hL:L.length<=1000){h:Heap}{s:RS}{kd:Int}{l:Es}(A:RH h L s kd l)(I:I1 L s)(hl:l.length<=1000)(hgo:rgo L s l=true) :
  ∃ h' g,RH h' L (rent sub L s).2 kd l/\h'.get (.own 9 g)=some (.cells (pcells (rent sub L s).1.2.row) 0)/\lim tab.get S 62 1 1 [P0,kI d,q6,q7] h=lim tab.get S 62 1 2 [P0,kI d,q6,q7,kS (rent sub L s).1.1,.v (.c (.ptr (.own 9 g) 0)),kI 0] h':=by
 have hp:=I.2;obtain⟨I1',p1⟩:=qWT I;obtain⟨I2,p2⟩:=qUS (x:=[58]) (by decide) I1';have A1:=A.put (t:=(rnmM L s).2);have A2:=A1.put (t:=reatM L (rnmM L s).2 [58]);have A3:=A2.put (t:=(rent sub L s).2);have c63:=λ{β:Type} {k:KO β} {d:Nat}=>u63 (k:=k) (d:=d) (L:=L) (s:=s) (by omega) A.a0
 have c93:=λ{β:Type} {k:KO β} {d:Nat}=>u93 (k:=k) (d:=d) (L:=L) (s:=(rnmM L s).2) (by have:=I1'.2; omega) [58] (by decide) A1.a0
 have c37:∀ {β:Type}{k:KO β}{e:Nat},vcall Om (F_ 37) [P0,kI (d+1)] ((h.put (.im 0) (rO L (rnmM L s).2)).put (.im 0) (rO L (reatM L (rnmM L s).2 [58]))) e k=k (kA (rent sub L s).1.2.row) (((h.put (.im 0) (rO L (rnmM L s).2)).put (.im 0) (rO L (reatM L (rnmM L s).2 [58]))).put (.im 0) (rO L (rent sub L s).2)):=λ{β k e} =>
  qAU 37 (.im 0) 0 [] [kI (d+1)] _ _ _ rfl rfl A2.a0 (qAC L _) (qAC L _) (by simp only[exP]) (ok.one _ I2)
 have wd:IntKind.i64.wrap (d+1)=d+1:=qAL _ (by omega) (by omega);obtain⟨K,E,a7,BK,BE⟩:=A.a7;have LN:=λ{β:Type} {O:Oracle} {h:Heap} {d:Nat} {k:KO β}=>BK.len (O:=O) (h:=h) (d:=d) (k:=k)
 have ml:(l.map kRow).length=l.length:=List.length_map _;have U:=λ{β:Type} {k:KO β} {d:Nat}=>u60 (k:=k) (d:=d) [125] (by decide) A.a0
 generalize hE:rent sub L s=e at *;have en:e.1.1=(rnmM L s).1:=by rw[<- hE]; rfl
 rw[<- en] at c63;generalize rnmM L s=n at *;generalize hH:((h.put (.im 0) (rO L n.2)).put (.im 0) (rO L (reatM L n.2 [58]))).put (.im 0) (rO L e.2)=h3 at *;have PT:put1 z4 0 (pcells e.1.2.row)=pcells e.1.2.row:=qBA _ _ (by rw[qAN,TT.row_len]; rfl);have xl:(pcells e.1.2.row).length=4:=by rw[qAN,TT.row_len]
 obtain⟨g,hg⟩:∃ g,g=h3.gen 9+1:=⟨_,rfl⟩;refine⟨(h3.own 9 g (.cells z4 0)).own 9 g (.cells (pcells e.1.2.row) 0),g,(A3.own9 _ _).own9 _ _,Heap.own_get _ 9 g _ (by decide) (λe=>by cases e),?_⟩;have go0:s.e=0:=by
  unfold rgo at hgo;rw[Bool.and_eq_true,decide_eq_true_eq] at hgo;exact hgo.1
 have A0:=A.a0;rw[w62_1,b62_1];by_cases hnil:l=[]
 ·subst hnil;have hr:risM L s [125]=false:=by
   unfold rgo at hgo;rw[Bool.and_eq_true] at hgo
   simpa using hgo.2
  rw[hr] at U;simp (maxSteps:=9^7) +contextual only[exa,rA,rB,rC,rD,rE,rF,rG,rH,rI,exW,exY,A0,go0,a7,LN,List.map_nil,List.length_nil,U,c63,c93,wd,c37,hH,<- hg,PT,xl,Nat.le_refl]
 ·have q:¬ (l.length:Int)=0:=by have:=List.length_pos_iff.2 hnil; omega
  simp (maxSteps:=9^7) +contextual only[exa,rA,rB,rC,rD,rE,rF,rG,rH,rI,exW,exY,A0,go0,a7,LN,ml,q,U,c63,c93,wd,c37,hH,<- hg,PT,xl,Nat.le_refl]
theorem qVZ{d:Int}{L:List Tok}{sub:RS->TT×RS}(ok:SubR d L sub)(hd:0<=d/\d<=100)(hL:L.length<=900){kd:Int}:∀ (f:Nat) (s:RS) (l:Es) (h:Heap),RH h L s kd l->I1 L s->L.length+1 - s.p<f->l.length+(L.length+1 - s.p)<=L.length+1 ->
  ∃ h',RH h' L (rloop sub L f s l).2 kd (rloop sub L f s l).1/\I1 L (rloop sub L f s l).2/\lim tab.get S 62 1 1 [P0,kI d,q6,q7] h=lim tab.get S 62 1 4 [P0,q6,q7] h'
 |0,s,l,h,A,I,hf,hn=>by omega
 |f+1,s,l,h,A,I,hf,hn=>by
  unfold rloop;cases hgo:rgo L s l with
  |false =>
   rw[if_neg (by decide)];refine⟨h,A,I,?_⟩;have A0:=A.a0;obtain⟨K,E,a7,BK,BE⟩:=A.a7;have LN:=λ{β:Type} {O:Oracle} {h:Heap} {d:Nat} {k:KO β}=>BK.len (O:=O) (h:=h) (d:=d) (k:=k)
   have U:=λ{β:Type} {k:KO β} {d:Nat}=>u60 (k:=k) (d:=d) [125] (by decide) A.a0
   rw[w62_1,b62_1];by_cases he:s.e=0
   ·have h2:l.isEmpty=true/\risM L s [125]=true:=by
     unfold rgo at hgo;rw[decide_eq_true he,Bool.true_and] at hgo
     simpa using hgo
    have hnil:l=[]:=List.isEmpty_iff.1 h2.1;subst hnil;rw[h2.2] at U;have z00:((0:Nat):Int)=0:=rfl;simp (maxSteps:=9^7) +contextual only[exa,rA,rB,rC,rD,rE,rF,rG,rH,rI,exW,exY,A0,he,a7,LN,List.map_nil,List.length_nil,U,z00,if_false]
   ·simp (maxSteps:=9^7) +contextual only[exa,rA,rB,rC,rD,rE,rF,rG,rH,rI,exW,exY,A0,he,if_false]
  |true =>
   rw[if_pos rfl];obtain⟨h1,g,A1,a9,e1⟩:=qWy ok hd (by omega) A I (by omega) hgo;obtain⟨Ie,pe⟩:=qWj ok.inv I;have e2:=qXe A1 (by omega) (d:=d) (rent sub L s).1.1 (.v (.c (.ptr (.own 9 g) 0))) (leadE (rent sub L s).1.1 l) 0 (by omega);obtain⟨h2,A2,e3⟩:=rput A1 (by omega) (by have:=Ie.2; omega) (d:=d) (rent sub L s).1.1 (rent sub L s).1.2 g a9;have hz:kI ((0:Nat):Int)=kI 0:=rfl;rw[hz] at e2;have e4:=e1.trans (e2.trans e3);change RH h2 L (rtwM l (rent sub L s).1.1 (rent sub L s).2) kd (insE l (rent sub L s).1) at A2;change lim tab.get S 62 1 1 [P0,kI d,q6,q7] h=(if risM L (rtwM l (rent sub L s).1.1 (rent sub L s).2) [44]=true then lim tab.get S 62 1 1 [P0,kI d,q6,q7] (h2.put (.im 0) (rO L (reatM L (rtwM l (rent sub L s).1.1 (rent sub L s).2) [44]))) else lim tab.get S 62 1 4 [P0,q6,q7] h2) at e4;have It:I1 L (rtwM l (rent sub L s).1.1 (rent sub L s).2):=Ie;cases hr:risM L (rtwM l (rent sub L s).1.1 (rent sub L s).2) [44] with
   |false =>
    rw[hr,if_neg (by decide)] at e4;rw[if_neg (by decide)];exact⟨h2,A2,It,e4⟩
   |true =>
    rw[hr,if_pos rfl] at e4;rw[if_pos rfl];obtain⟨g1,g2⟩:=qUN (by decide) hr;have g2:(rent sub L s).2.p<L.length:=g2;have hn2:(reatM L (rtwM l (rent sub L s).1.1 (rent sub L s).2) [44]).p=(rent sub L s).2.p+1:=by unfold reatM; rw[if_pos hr]; rfl
    obtain⟨h3,A3,I3,e5⟩:=qVZ ok hd hL f _ (insE l (rent sub L s).1) _ A2.put (qUS (x:=[44]) (by decide) It).1 (by omega) (by rw[qXM]; omega);exact⟨h3,A3,I3,e4.trans e5⟩
theorem qYM{d:Int}{L:List Tok}{sub:RS->TT×RS}(ok:SubR d L sub)(hd:0<=d/\d<=100)(hL:L.length<=900)(kd:Int)(s:RS)(I:I1 L s) :
  Om 62 [P0,kI kd,kI d] [rO L s]=some (kA (rrecM sub L kd s).1.row,[rO L (rrecM sub L kd s).2]):=by
 refine(qAD rfl).trans ?_;show lim tab.get S 62 1 0 [P0,kI kd,kI d] (Heap.mk [rO L s] .nil)=_;obtain⟨I2,_⟩:=qUS (x:=[123]) (by decide) I;have A:RH (((((Heap.mk [rO L s] .nil).own 6 1 (.cells z4 0)).own 7 1 (.cells z4 0)).own 7 1 (.cells [.p (.int .i64 kd),.p (.str []),.p .nilslice,.p .nilslice] 0)).put (.im 0) (rO L (reatM L s [123]))) L (reatM L s [123]) kd [] :=
  ⟨rfl,rfl,.p .nilslice,.p .nilslice,rfl,.inl ⟨rfl,rfl⟩,.inl ⟨rfl,rfl⟩⟩
 obtain⟨h1,A1,I3,e1⟩:=qVZ ok hd hL (L.length+2) _ [] _ A I2 (by omega) (by show 0+_<=_; omega);have hR:rrecM sub L kd s=(recT kd (rloop sub L (L.length+2) (reatM L s [123]) []).1,reatM L (rloop sub L (L.length+2) (reatM L s [123]) []).2 [125]):=rfl;rw[hR];generalize rloop sub L (L.length+2) (reatM L s [123]) []=r at *;have c0:=λ{β:Type} {k:KO β} {d:Nat}=>u93 (k:=k) (d:=d) (L:=L) (s:=s) (by have:=I.2; omega) [123] (by decide) (show((((Heap.mk [rO L s] .nil).own 6 1 (.cells z4 0)).own 7 1 (.cells z4 0)).own 7 1 (.cells [.p (.int .i64 kd),.p (.str []),.p .nilslice,.p .nilslice] 0)).get (.im 0)=some (rO L s) from rfl)
 have P:∀ a b c d:Cell,put1 z4 0 [a,b,c,d]=[a,b,c,d]:=λ_ _ _ _=>qBA _ _ rfl
 have BB:∀ {β:Type}{k:KO β}{h:Heap},vop Om (.build z4 [(0,1,.k (kI kd))]) h 14 k=k (.v (.agg [.p (.int .i64 kd),.p (.str []),.p .nilslice,.p .nilslice])) h:=λ{β k h}=>rfl
 have st:lim tab.get S 62 1 0 [P0,kI kd,kI d] (Heap.mk [rO L s] .nil)=lim tab.get S 62 1 1 [P0,kI d,q6,q7] (((((Heap.mk [rO L s] .nil).own 6 1 (.cells z4 0)).own 7 1 (.cells z4 0)).own 7 1 (.cells [.p (.int .i64 kd),.p (.str []),.p .nilslice,.p .nilslice] 0)).put (.im 0) (rO L (reatM L s [123]))):=by
  have z1:(Heap.mk [rO L s] .nil).gen 6=0:=rfl;have z2:(Heap.mk [rO L s] .nil).gen 7=0:=rfl;rw[w62_0,b62_0];simp (maxSteps:=9^7) +contextual only[exa,rA,rB,rC,rD,rE,rF,rG,rH,rI,exW,exY,z1,z2,BB,P,c0,Nat.le_refl]
 refine st.trans (e1.trans ?_);obtain⟨K,E,a7,BK,BE⟩:=A1.a7;have c2:=λ{β:Type} {k:KO β} {d:Nat}=>u93 (k:=k) (d:=d) (L:=L) (s:=r.2) (by have:=I3.2; omega) [125] (by decide) A1.a0
 have A2:=A1.put (t:=reatM L r.2 [125]);have b7:(h1.put (.im 0) (rO L (reatM L r.2 [125]))).get (.own 7 1)=some (.cells [.p (.int .i64 kd),.p (.str []),K,E] 0):=a7;have b6:=A2.a6;have b0:=A2.a0;generalize h1.put (.im 0) (rO L (reatM L r.2 [125]))=h2 at *;have fin:∀ h:Heap,h.get (.im 0)=some (rO L (reatM L r.2 [125]))->vfin true 1 [.agg [.p (.int .i64 kd),.p (.str []),K,E]] h=some (kA (recT kd r.1).row,[rO L (reatM L r.2 [125])]):=by
  intro h hg;rw[qRF _ (rO L (reatM L r.2 [125])) (by show([Cell.p (.int .i64 kd),.p (.str []),K,E].all isPT&&true)=true; simp only[List.all_cons,List.all_nil,BK.pt,BE.pt]; rfl) hg (qAC L _)];show some (TVal.v (.agg [.p (.int .i64 kd),.p (.str []),K.strip,E.strip]),_)=_;rw[BK.strip,BE.strip,qPo];rfl
 rw[w62_4,b62_4];simp (maxSteps:=9^7) +contextual only[exa,rA,rB,rC,rD,rE,rF,rG,rH,rI,exW,exY,c2,b7,b6,P,Nat.le_refl,oneOf];exact fin _ b0
def wordsM(src:LB):List Tok×Int:=match tokensM src with
 |.error e=>([],e)
 |.ok l=>(l,0)
theorem qHW(src:LB):toksVal (tokensM src) = .tup [.c (.p (tksP (wordsM src).1)),.c (.p (.int .i64 (wordsM src).2))]:=by
 unfold wordsM;cases tokensM src <;> rfl
abbrev s0M(src:LB):RS:=⟨0,(wordsM src).2,false⟩
theorem qFe(L:List Tok)(s:RS):Rooted [rO L s]:=Star.rooted ⟨(qAC L s).1,(λe=>by cases e),(λo ho=>by cases ho),by decide⟩
theorem qOS(src:LB):Om 33 [kS src] []=some (.v (.c (.ptr (.im 0) 0)),[rO (wordsM src).1 (s0M src)]):=by
 refine(qAD rfl).trans ?_;show lim tab.get S 33 0 0 [kS src] h0=some (_,[rO (wordsM src).1 ⟨0,(wordsM src).2,false⟩]);have c:=λ{β:Type} {k:KO β} {h:Heap} {d:Nat}=>qAH (O:=Om) (k:=k) (h:=h) (d:=d) 54 [kS src] _ rfl (qOC src) (by rw[qHW]; rfl)
 rw[qHW] at c;rw[w33_0,b33_0];generalize (wordsM src).1=L at *;generalize (wordsM src).2=e at *;simp (maxSteps:=9^7) +contextual only[exa,rA,rB,rC,rD,rE,rF,rG,rH,rI,exW,c];have A:At (h0.own 13 1 (rO L ⟨0,e,false⟩)) [.own 13 1] [rO L ⟨0,e,false⟩]:=by
  refine⟨by simp,rfl,λi r o e1 e2=>?_⟩
  match i with
  |0 =>
   cases e1; cases e2;rw[(qAC L _).2];exact Heap.own_get _ 13 1 _ (by decide) (λe=>by cases e)
  |i+1=>simp at e1
 exact qQy A (qFe L _) rfl false [.c (.ptr (.own 13 1) 0)] _ rfl rfl
theorem qE0(src:LB):(wordsM src).1.length<=400:=by
 unfold wordsM;cases ht:tokensM src with
 |error e=>simp
 |ok l =>
  show l.length<=400;unfold tokensM at ht;split at ht
  ·cases ht
  ·unfold toksFin at ht;split at ht
   ·cases ht
   ·split at ht
    ·cases ht
    ·cases ht; omega
noncomputable def typeR(src:LB):TT×RS:=oneF (wordsM src).1 13 1 (s0M src)
noncomputable def typeE(src:LB):Int:=errM (endM (wordsM src).1 (typeR src).2)
noncomputable def typeM(src:LB):TT:=if typeE src=0 then (typeR src).1 else zeroT
def typeOK(src:LB):Prop:=okF (wordsM src).1 13 1 (s0M src)
theorem qTK(src:LB)(ok:typeOK src):Om 16 [kS src] []=some (.tup [.agg (pcells (typeM src).row),.c (.p (.int .i64 (typeE src)))],[]):=by
 have hl:=qE0 src;have c34:=qHD (L:=(wordsM src).1) (by omega) 13 1 (by decide) (by decide) (s0M src) ⟨λ_=>Nat.zero_le _,Nat.zero_le _⟩ ok;refine(qAD rfl).trans ?_;show lim tab.get S 16 0 0 [kS src] h0=_;obtain⟨h1,c33,A1,K1,G1,L1⟩:=qIw (O:=Om) (show allB pT [kS src]=true from rfl) (qOS src) (qFe _ _).1 (h0.own 2 1 (.cells z4 0));have e0:(TVal.v (.c (.ptr (.im 0) 0))).ren (back [] [rO (wordsM src).1 (s0M src)].length (newRef (h0.own 2 1 (.cells z4 0)).ims.length))=P0:=rfl;rw[e0] at c33;have g0:h1.get (.im 0)=some (rO (wordsM src).1 (s0M src)):=by
  have:=A1.get 0 (.im 0) _ rfl rfl;rw[(qAC _ _).2] at this;exact this
 have o2:h1.get (.own 2 1)=some (.cells z4 0):=K1 _ _ (Heap.own_get _ 2 1 _ (by decide) (λe=>by cases e));have gn5:h1.gen 5=0:=(G1 5).trans rfl;unfold typeM typeE typeR;generalize (wordsM src).1=L at *;generalize s0M src=s at *;generalize oneF L 13 1 s=r at *;have U34:∀ (β:Type) (kk:KO β) (e:Nat),vcall Om (F_ 34) [P0,kI 1] h1 e kk=kk (kA r.1.row) (h1.put (.im 0) (rO L r.2)):=λβ kk e =>
  qAU 34 (.im 0) 0 [] [kI 1] _ _ _ rfl rfl g0 (qAC L _) (qAC L _) (by simp only[exP]) c34
 generalize hh2:h1.put (.im 0) (rO L r.2)=h2 at U34;have g2:h2.get (.im 0)=some (rO L r.2):=by rw[<- hh2]; exact Heap.zput_self g0 (λe=>by cases e)
 generalize hh3:(h2.own 5 1 (.cells z4 0)).own 5 1 (.cells (pcells r.1.row) 0)=h3;have g3:h3.get (.im 0)=some (rO L r.2):=by rw[<- hh3]; exact g2
 have gn52:h2.gen 5=0:=by rw[<- hh2]; exact gn5
 have o53:h3.get (.own 5 1)=some (.cells (pcells r.1.row) 0):=by rw[<- hh3]; exact Heap.own_get _ _ _ _ (by decide) (λe=>by cases e)
 have o23:h3.get (.own 2 1)=some (.cells z4 0):=by rw[<- hh3,<- hh2]; exact(Heap.own_get_ne _ 5 _ _ 2 1 (by decide)).trans ((Heap.own_get_ne _ 5 _ _ 2 1 (by decide)).trans o2)
 have U35:=λ(β:Type) (kk:KO β) (e:Nat)=>u35 (k:=kk) (d:=e) g3
 have BZ:∀ (β:Type) (kk:KO β) (hh:Heap),vop Om (.build z4 []) hh 15 kk=kk (kA zeroT.row) hh:=λ_ _ _=>rfl
 have z5':∀ t:TT,(pcells t.row).length=4:=λt=>by rw[qAN,TT.row_len]
 have Tz:∀ t:TT,(pcells t.row).take 4=pcells t.row:=λt=>List.take_of_length_le (by rw[z5']; exact Nat.le_refl _)
 have P1:=qBZ r.1;have P0':=qBZ zeroT;have L1':=z5' r.1;have L0':=z5' zeroT;have T1:=Tz r.1;have T0:=Tz zeroT;have fz:∀ (t:TT) (e:Int) (h:Heap),vfin true 0 [.agg (pcells t.row),.c (.p (.int .i64 e))] h=some (.tup [.agg (pcells t.row),.c (.p (.int .i64 e))],[]):=λt e h=>qAJ _ _ (by simp only[exP])
 have gn2:(h0.own 2 1 (.cells z4 0)).gen 2=1:=rfl;rw[w16_0,b16_0];by_cases he:errM (endM L r.2)=0
 ·rw[if_pos he];simp (maxSteps:=9^7) +contextual only[exa,rA,rB,rC,rD,rE,rF,rG,rH,rI,exW,c33,U34,gn52,hh3,U35,he,o53,o23,P1,L1',T1,fz]
 ·rw[if_neg he];simp (maxSteps:=9^7) +contextual only[exa,rA,rB,rC,rD,rE,rF,rG,rH,rI,exW,c33,U34,gn52,hh3,U35,he,o53,o23,BZ,P0',L0',T0,fz]
def rofM(sub:RS->TT×RS)(L:List Tok)(k:Int)(s:RS):TT×RS:=(.mk k [] .nil (.mk true [(sub (reatM L s [60])).1]),reatM L (sub (reatM L s [60])).2 [62])
theorem qYP{d:Int}{L:List Tok}{sub:RS->TT×RS}(ok:SubR d L sub)(hd:0<=d/\d<=100)(hL:L.length<=900)(kd:Int)(s:RS)(I:I1 L s) :
  Om 64 [P0,kI kd,kI d] [rO L s]=some (kA (rofM sub L kd s).1.row,[rO L (rofM sub L kd s).2]):=by
 refine(qAD rfl).trans ?_;show lim tab.get S 64 1 0 [P0,kI kd,kI d] (Heap.mk [rO L s] .nil)=_;obtain⟨I2,_⟩:=qUS (x:=[60]) (by decide) I;obtain⟨I3,_⟩:=ok.inv _ I2;have c1:=λ{β:Type} {k:KO β} {d:Nat}=>u93 (k:=k) (d:=d) (L:=L) (s:=s) (by have:=I.2; omega) [60] (by decide) (show((Heap.mk [rO L s] .nil).own 6 1 (.cells z4 0)).get (.im 0)=some (rO L s) from rfl)
 have c2:∀ {β:Type}{k:KO β}{e:Nat},vcall Om (F_ 37) [P0,kI (d+1)] (((Heap.mk [rO L s] .nil).own 6 1 (.cells z4 0)).put (.im 0) (rO L (reatM L s [60]))) e k=k (kA (sub (reatM L s [60])).1.row) ((((Heap.mk [rO L s] .nil).own 6 1 (.cells z4 0)).put (.im 0) (rO L (reatM L s [60]))).put (.im 0) (rO L (sub (reatM L s [60])).2)):=λ{β k e} =>
  qAU 37 (.im 0) 0 [] [kI (d+1)] _ _ _ rfl rfl rfl (qAC L _) (qAC L _) (by simp only[exP]) (ok.one _ I2)
 have wd:IntKind.i64.wrap (d+1)=d+1:=qAL _ (by omega) (by omega);unfold rofM;generalize sub (reatM L s [60])=r at *;generalize reatM L s [60]=s1 at *;have xl:(pcells r.1.row).length=4:=by rw[qAN,TT.row_len]
 have xt:(pcells r.1.row).take 4=pcells r.1.row:=List.take_of_length_le (by rw[xl]; exact Nat.le_refl _);have PT:put1 z4 0 (pcells r.1.row)=pcells r.1.row:=qBA _ _ (by rw[xl]; rfl);have P:∀ a b c d:Cell,put1 z4 0 [a,b,c,d]=[a,b,c,d]:=λ_ _ _ _=>qBA _ _ rfl
 have z1:(Heap.mk [rO L s] .nil).gen 6=0:=rfl;obtain⟨hC,ehC⟩:∃ hC,hC=(((Heap.mk [rO L s] .nil).own 6 1 (.cells z4 0)).put (.im 0) (rO L s1)).put (.im 0) (rO L r.2):=⟨_,rfl⟩;have g7:hC.gen 7=0:=by rw[ehC]; rfl
 have c3:=λ{β:Type} {k:KO β} {d:Nat}=>u93 (h:=(hC.own 7 1 (.cells z4 0)).own 7 1 (.cells (pcells r.1.row) 0)) (k:=k) (d:=d) (L:=L) (s:=r.2) (by have:=I3.2; omega) [62] (by decide) (by rw[ehC]; rfl)
 obtain⟨hD,ehD⟩:∃ hD,hD=((hC.own 7 1 (.cells z4 0)).own 7 1 (.cells (pcells r.1.row) 0)).put (.im 0) (rO L (reatM L r.2 [62])):=⟨_,rfl⟩;have d7:hD.get (.own 7 1)=some (.cells (pcells r.1.row) 0):=by rw[ehD]; exact Heap.own_get _ 7 1 _ (by decide) (λe=>by cases e)
 have d6:hD.get (.own 6 1)=some (.cells z4 0):=by rw[ehD,ehC]; rfl
 have d0:hD.get (.im 0)=some (rO L (reatM L r.2 [62])):=by rw[ehD,ehC]; rfl
 have BS:∀ {β:Type}{k:KO β}{h:Heap},vop Om (.bslice 4 1 z4 [(0,.k (.v (.agg (pcells r.1.row))))] false) h 18 k=k (kSl 4 true [r.1.row]) h:=λ{β k h}=>qAx _ _ (qIO 4 z4 r.1.row rfl (TT.row_len _))
 have BB:∀ {β:Type}{k:KO β}{h:Heap},vop Om (.build z4 [(0,1,.k (kI kd)),(3,1,.k (kSl 4 true [r.1.row]))]) h 19 k=k (kA (TT.mk kd [] .nil (.mk true [r.1])).row) h:=λ{β k h}=>by
  rw[show(TT.mk kd [] .nil (.mk true [r.1])).row=[.int .i64 kd,.str [],.nilslice,.slice 4 true [r.1.row]] from TT.row_eq _]; rfl
 have fin:∀ h:Heap,h.get (.im 0)=some (rO L (reatM L r.2 [62]))->vfin true 1 [.agg (pcells (TT.mk kd [] .nil (.mk true [r.1])).row)] h=some (kA (TT.mk kd [] .nil (.mk true [r.1])).row,[rO L (reatM L r.2 [62])]):=λh hg=>qAP true [.agg (pcells (TT.mk kd [] .nil (.mk true [r.1])).row)] _ (by simp only[exP]) hg (qAC L _)
 generalize TT.mk kd [] .nil (.mk true [r.1])=T at *;have yl:(pcells T.row).length=4:=by rw[qAN,TT.row_len]
 have PY:put1 z4 0 (pcells T.row)=pcells T.row:=qBA _ _ (by rw[yl]; rfl);have yt:(pcells T.row).take 4=pcells T.row:=List.take_of_length_le (by rw[yl]; exact Nat.le_refl _);have fin2:=fin (hD.own 6 1 (.cells (pcells T.row) 0)) d0;rw[w64_0,b64_0];simp (maxSteps:=9^7) +contextual only[exa,rA,rB,rC,rD,rE,rF,rG,rH,rI,exW,exY,z1,c1,c2,wd,<- ehC,g7,PT,c3,<- ehD,d7,d6,xl,xt,List.drop_zero,BS,BB,yl,yt,PY,fin2,Nat.le_refl,oneOf]
theorem qXU{d:Int}{L:List Tok}{sub:RS->TT×RS}(ok:SubR d L sub)(hd:0<=d/\d<=100)(hL:L.length<=900)(kd:Int){s:RS}(I:I1 L s){h:Heap}(hg:h.get (.im 0)=some (rO L s)){β:Type}{k:KO β}{e:Nat} :
  vcall Om (F_ 64) [P0,kI kd,kI d] h e k=k (kA (rofM sub L kd s).1.row) (h.put (.im 0) (rO L (rofM sub L kd s).2)) :=
 qAU 64 (.im 0) 0 [] [kI kd,kI d] _ _ _ rfl rfl hg (qAC L _) (qAC L _) (by simp only[exP]) (qYP ok hd hL kd s I)
theorem u62r{d:Int}{L:List Tok}{sub:RS->TT×RS}(ok:SubR d L sub)(hd:0<=d/\d<=100)(hL:L.length<=900)(kd:Int){s:RS}(I:I1 L s){h:Heap}(hg:h.get (.im 0)=some (rO L s)){β:Type}{k:KO β}{e:Nat} :
  vcall Om (F_ 62) [P0,kI kd,kI d] h e k=k (kA (rrecM sub L kd s).1.row) (h.put (.im 0) (rO L (rrecM sub L kd s).2)) :=
 qAU 62 (.im 0) 0 [] [kI kd,kI d] _ _ _ rfl rfl hg (qAC L _) (qAC L _) (by simp only[exP]) (qYM ok hd hL kd s I)
def rwrdT(sub:RS->TT×RS)(L:List Tok)(w:LB)(s:RS):TT×RS :=
 if w=wordM 1 then (leafT 1,s) else if w=wordM 2 then (leafT 2,s) else if w=wordM 3 then (leafT 3,s) else if w=wordM 4 then rofM sub L 4 s else if w=wordM 5 then rofM sub L 5 s else if w=wordM 6 then rofM sub L 6 s
 else if w=wordM 8 then (if risM L s [123]=true then rrecM sub L 8 s else (zeroT,failM s 12)) else (.mk 9 w .nil .nil,s)
def rtypP(sub:RS->TT×RS)(d:Int)(L:List Tok)(s:RS):TT×RS :=
 if (peekM L s).kind≠1/\risM L s [123]=false then (zeroT,failM s 12) else if 12<d then (zeroT,failM s 13)
 else if risM L s [123]=true then rrecM sub L 7 s else rwrdT sub L (rnmM L s).1 (rnmM L s).2
theorem qU4{L:List Tok}{h:Heap}(t:TT)(s:RS)(h4:h.get (.own 4 1)=some (.cells z4 0))(h0:h.get (.im 0)=some (rO L s)) :
  (vstore 4 (.v (.c (.ptr (.own 4 1) 0))) (kA t.row) h λ_ h=>vcell true 4 (.v (.c (.ptr (.own 4 1) 0))) h λc0=>vfin true 1 [c0] h)=some (kA t.row,[rO L s]):=by
 have yl:(pcells t.row).length=4:=by rw[qAN,TT.row_len]
 have PY:put1 z4 0 (pcells t.row)=pcells t.row:=qBA _ _ (by rw[yl]; rfl);have yt:(pcells t.row).take 4=pcells t.row:=List.take_of_length_le (by rw[yl]; exact Nat.le_refl _);have fin:vfin true 1 [.agg (pcells t.row)] (h.own 4 1 (.cells (pcells t.row) 0))=some (kA t.row,[rO L s]):=qAP true [.agg (pcells t.row)] _ (by simp only[exP]) h0 (qAC L _);simp (maxSteps:=9^7) +contextual only[exa,rA,rB,rC,rD,rE,rF,rG,rH,rI,exW,exY,h4,PY,yl,yt,List.drop_zero,fin,Nat.le_refl,oneOf]
theorem qW5{L:List Tok}{s:RS}(h:(peekM L s).kind=1):rnmM L s=((peekM L s).text,nextM s):=by unfold rnmM; rw[if_pos h]
theorem qYG{d:Int}{L:List Tok}{sub:RS->TT×RS}(ok:SubR d L sub)(hd:0<=d/\d<=100)(hL:L.length<=900)(s:RS)(I:I1 L s) :
  Om 37 [P0,kI d] [rO L s]=some (kA (rtypP sub d L s).1.row,[rO L (rtypP sub d L s).2]):=by
 refine(qAD rfl).trans ?_;show lim tab.get S 37 1 0 [P0,kI d] (Heap.mk [rO L s] .nil)=_;have z1:(Heap.mk [rO L s] .nil).gen 4=0:=rfl;obtain⟨h1,eh1⟩:∃ h1,h1=(Heap.mk [rO L s] .nil).own 4 1 (.cells z4 0):=⟨_,rfl⟩;have g0:h1.get (.im 0)=some (rO L s):=by rw[eh1]; rfl
 have g4:h1.get (.own 4 1)=some (.cells z4 0):=by rw[eh1]; rfl
 have k4:∀ t:RS,(h1.put (.im 0) (rO L t)).get (.own 4 1)=some (.cells z4 0):=λt=>g4
 have k0:∀ t:RS,(h1.put (.im 0) (rO L t)).get (.im 0)=some (rO L t):=λt=>Heap.zput_self g0 (λe=>by cases e)
 have LN:=λ{β:Type} {O:Oracle} {h:Heap} {d:Nat} {k:KO β}=>qBT (O:=O) (h:=h) (d:=d) (k:=k) L
 have V12:=λ{β:Type} {k:KO β} {d:Nat}=>u61 (k:=k) (d:=d) 12 g0
 have V13:=λ{β:Type} {k:KO β} {d:Nat}=>u61 (k:=k) (d:=d) 13 g0
 have BZ:∀ {β:Type}{k:KO β}{h:Heap}{d:Nat},vop Om (.build z4 []) h d k=k (kA zeroT.row) h:=λ{β k h d}=>rfl
 have F:∀ (t:TT) (s':RS) (h:Heap),h.get (.own 4 1)=some (.cells z4 0)->h.get (.im 0)=some (rO L s')->(vstore 4 (.v (.c (.ptr (.own 4 1) 0))) (kA t.row) h λ_ h=>vcell true 4 (.v (.c (.ptr (.own 4 1) 0))) h λc0=>vfin true 1 [c0] h)=some (kA t.row,[rO L s']):=λt s' h a b=>qU4 t s' a b
 have bad12:=F zeroT (failM s 12) _ (k4 _) (k0 _);have bad13:=F zeroT (failM s 13) _ (k4 _) (k0 _);have U:=λ{β:Type} {k:KO β} {d:Nat}=>u60 (k:=k) (d:=d) [123] (by decide) g0
 unfold rtypP;rw[w37_0,b37_0];by_cases he:s.e=0/\s.p<L.length
 ·obtain⟨he,hp⟩:=he;have ht:L[s.p]?=some L[s.p]:=List.getElem?_eq_getElem hp;have AT:=λ{β:Type} {k:KO β} {h:Heap}=>qSa (h:=h) (k:=k) L s.p L[s.p] ht
  have q1:(s.p:Int)<(L.length:Int):=by omega
  have pk:=qUe he ht;have r0:∀ t:Tok,t.row[0]?=some (.int .i64 t.kind):=λ_=>rfl
  have c63:=λ{β:Type} {k:KO β} {d:Nat}=>u63 (k:=k) (d:=d) (L:=L) (s:=s) (by omega) g0
  have rn:=λhk=>qW5 (L:=L) (s:=s) hk
  rw[<- pk] at AT;generalize hpk:peekM L s=t at *;have R7:=λ{β:Type} {k:KO β} {e:Nat}=>u62r ok hd hL 7 I g0 (k:=k) (e:=e)
  have F7:=F (rrecM sub L 7 s).1 (rrecM sub L 7 s).2 _ (k4 _) (k0 _);by_cases hk:t.kind=1
  ·have hk':¬ (t.kind≠1/\risM L s [123]=false):=λh=>h.1 hk
   rw[if_neg hk'];by_cases hd12:12<d
   ·rw[if_pos hd12];simp (maxSteps:=9^7) +contextual only[exa,rA,rB,rC,rD,rE,rF,rG,rH,rI,exW,exY,z1,<- eh1,g0,he,q1,LN,AT,r0,hk,hd12,V13,BZ,oneOf];have X:=bad13;simp (maxSteps:=9^7) +contextual only[exa,rA,rB,rC,rD,rE,rF,rG,rH,rI,exW,exY,oneOf] at X;exact X
   ·rw[if_neg hd12];cases hr:risM L s [123] with
    |true =>
     rw[hr] at U;rw[if_pos rfl];simp (maxSteps:=9^7) +contextual only[exa,rA,rB,rC,rD,rE,rF,rG,rH,rI,exW,exY,z1,<- eh1,g0,he,q1,LN,AT,r0,hk,hd12,U,R7,if_false,oneOf];have X:=F7;simp (maxSteps:=9^7) +contextual only[exa,rA,rB,rC,rD,rE,rF,rG,rH,rI,exW,exY,oneOf] at X;exact X
    |false =>
     rw[hr] at U;rw[if_neg (by decide)];rw[rn hk] at c63 ⊢;have In:I1 L (nextM s):=⟨λ_=>by show s.p+1<=_; omega,by show s.p+1<=_; omega⟩;generalize nextM s=s1 at *;have n4:=k4 s1;have n0:=k0 s1;generalize h1.put (.im 0) (rO L s1)=h2 at *;have m4:∀ t:RS,(h2.put (.im 0) (rO L t)).get (.own 4 1)=some (.cells z4 0):=λt=>n4
     have m0:∀ t:RS,(h2.put (.im 0) (rO L t)).get (.im 0)=some (rO L t):=λt=>Heap.zput_self n0 (λe=>by cases e)
     have U2:=λ{β:Type} {k:KO β} {d:Nat}=>u60 (k:=k) (d:=d) [123] (by decide) n0
     have W12:=λ{β:Type} {k:KO β} {d:Nat}=>u61 (k:=k) (d:=d) 12 n0
     have O4:=λ{β:Type} {k:KO β} {e:Nat}=>qXU ok hd hL 4 In n0 (k:=k) (e:=e)
     have O5:=λ{β:Type} {k:KO β} {e:Nat}=>qXU ok hd hL 5 In n0 (k:=k) (e:=e)
     have O6:=λ{β:Type} {k:KO β} {e:Nat}=>qXU ok hd hL 6 In n0 (k:=k) (e:=e)
     have R8:=λ{β:Type} {k:KO β} {e:Nat}=>u62r ok hd hL 8 In n0 (k:=k) (e:=e)
     have B1:∀ {β:Type}{k:KO β}{h:Heap}{d:Nat},vop Om (.build z4 [(0,1,.k (kI 1))]) h d k=k (kA (leafT 1).row) h:=λ{β k h d}=>rfl
     have B2:∀ {β:Type}{k:KO β}{h:Heap}{d:Nat},vop Om (.build z4 [(0,1,.k (kI 2))]) h d k=k (kA (leafT 2).row) h:=λ{β k h d}=>rfl
     have B3:∀ {β:Type}{k:KO β}{h:Heap}{d:Nat},vop Om (.build z4 [(0,1,.k (kI 3))]) h d k=k (kA (leafT 3).row) h:=λ{β k h d}=>rfl
     have B9:∀ {β:Type}{k:KO β}{h:Heap}{d:Nat}(w:LB),vop Om (.build z4 [(0,1,.k (kI 9)),(1,1,.k (kS w))]) h d k=k (kA (TT.mk 9 w .nil .nil).row) h:=λ{β k h d} w=>rfl
     dsimp only;unfold rwrdT;have e1:wordM 1=[66,111,111,108]:=rfl;have e2:wordM 2=[73,110,116]:=rfl;have e3:wordM 3=[84,101,120,116]:=rfl;have e4:wordM 4=[76,105,115,116]:=rfl;have e5:wordM 5=[77,97,112]:=rfl;have e6:wordM 6=[79,112,116]:=rfl;have e8:wordM 8=[85,110,105,111,110]:=rfl;rw[e1,e2,e3,e4,e5,e6,e8];simp (maxSteps:=9^7) +contextual only[exa,rA,rB,rC,rD,rE,rF,rG,rH,rI,exW,exY,z1,<- eh1,g0,he,q1,LN,AT,r0,hk,hd12,U,c63,B1,B2,B3,B9,if_false];generalize t.text=w at *;by_cases w1:w=[66,111,111,108]
     ·rw[if_pos w1];have d1:=decide_eq_true w1;simp (maxSteps:=9^7) +contextual only[exa,rA,rB,rC,rD,rE,rF,rG,rH,rI,exW,exY,oneOf,d1,B1];have X:=F (leafT 1) s1 _ n4 n0;simp (maxSteps:=9^7) +contextual only[exa,rA,rB,rC,rD,rE,rF,rG,rH,rI,exW,exY,oneOf] at X;exact X
     rw[if_neg w1];by_cases w2:w=[73,110,116]
     ·rw[if_pos w2];have d2:=decide_eq_true w2;simp (maxSteps:=9^7) +contextual only[exa,rA,rB,rC,rD,rE,rF,rG,rH,rI,exW,exY,oneOf,w1,w2,B2,if_false];have X:=F (leafT 2) s1 _ n4 n0;simp (maxSteps:=9^7) +contextual only[exa,rA,rB,rC,rD,rE,rF,rG,rH,rI,exW,exY,oneOf] at X;exact X
     rw[if_neg w2];by_cases w3:w=[84,101,120,116]
     ·rw[if_pos w3];have d3:=decide_eq_true w3;simp (maxSteps:=9^7) +contextual only[exa,rA,rB,rC,rD,rE,rF,rG,rH,rI,exW,exY,oneOf,w1,w2,w3,B3,if_false];have X:=F (leafT 3) s1 _ n4 n0;simp (maxSteps:=9^7) +contextual only[exa,rA,rB,rC,rD,rE,rF,rG,rH,rI,exW,exY,oneOf] at X;exact X
     rw[if_neg w3];by_cases w4:w=[76,105,115,116]
     ·rw[if_pos w4];have d4:=decide_eq_true w4;simp (maxSteps:=9^7) +contextual only[exa,rA,rB,rC,rD,rE,rF,rG,rH,rI,exW,exY,oneOf,w1,w2,w3,w4,O4,if_false];have X:=F (rofM sub L 4 s1).1 (rofM sub L 4 s1).2 _ (m4 _) (m0 _);simp (maxSteps:=9^7) +contextual only[exa,rA,rB,rC,rD,rE,rF,rG,rH,rI,exW,exY,oneOf] at X;exact X
     rw[if_neg w4];by_cases w5:w=[77,97,112]
     ·rw[if_pos w5];have d5:=decide_eq_true w5;simp (maxSteps:=9^7) +contextual only[exa,rA,rB,rC,rD,rE,rF,rG,rH,rI,exW,exY,oneOf,w1,w2,w3,w4,w5,O5,if_false];have X:=F (rofM sub L 5 s1).1 (rofM sub L 5 s1).2 _ (m4 _) (m0 _);simp (maxSteps:=9^7) +contextual only[exa,rA,rB,rC,rD,rE,rF,rG,rH,rI,exW,exY,oneOf] at X;exact X
     rw[if_neg w5];by_cases w6:w=[79,112,116]
     ·rw[if_pos w6];have d6:=decide_eq_true w6;simp (maxSteps:=9^7) +contextual only[exa,rA,rB,rC,rD,rE,rF,rG,rH,rI,exW,exY,oneOf,w1,w2,w3,w4,w5,w6,O6,if_false];have X:=F (rofM sub L 6 s1).1 (rofM sub L 6 s1).2 _ (m4 _) (m0 _);simp (maxSteps:=9^7) +contextual only[exa,rA,rB,rC,rD,rE,rF,rG,rH,rI,exW,exY,oneOf] at X;exact X
     rw[if_neg w6];by_cases w8:w=[85,110,105,111,110]
     ·rw[if_pos w8];have d8:=decide_eq_true w8;cases hr2:risM L s1 [123] with
      |true =>
       rw[hr2] at U2;rw[if_pos rfl];simp (maxSteps:=9^7) +contextual only[exa,rA,rB,rC,rD,rE,rF,rG,rH,rI,exW,exY,oneOf,w1,w2,w3,w4,w5,w6,w8,U2,R8,if_false];have X:=F (rrecM sub L 8 s1).1 (rrecM sub L 8 s1).2 _ (m4 _) (m0 _);simp (maxSteps:=9^7) +contextual only[exa,rA,rB,rC,rD,rE,rF,rG,rH,rI,exW,exY,oneOf] at X;exact X
      |false =>
       rw[hr2] at U2;rw[if_neg (by decide)];simp (maxSteps:=9^7) +contextual only[exa,rA,rB,rC,rD,rE,rF,rG,rH,rI,exW,exY,oneOf,w1,w2,w3,w4,w5,w6,w8,U2,W12,BZ,if_false];have X:=F zeroT (failM s1 12) _ (m4 _) (m0 _);simp (maxSteps:=9^7) +contextual only[exa,rA,rB,rC,rD,rE,rF,rG,rH,rI,exW,exY,oneOf] at X;exact X
     rw[if_neg w8];simp (maxSteps:=9^7) +contextual only[exa,rA,rB,rC,rD,rE,rF,rG,rH,rI,exW,exY,oneOf,w1,w2,w3,w4,w5,w6,w8,B9,if_false];have X:=F (.mk 9 w .nil .nil) s1 _ n4 n0;simp (maxSteps:=9^7) +contextual only[exa,rA,rB,rC,rD,rE,rF,rG,rH,rI,exW,exY,oneOf] at X;exact X
  ·cases hr:risM L s [123] with
   |true =>
    rw[hr] at U;rw[if_neg (λh=>by cases h.2)];by_cases hd12:12<d
    ·rw[if_pos hd12];simp (maxSteps:=9^7) +contextual only[exa,rA,rB,rC,rD,rE,rF,rG,rH,rI,exW,exY,z1,<- eh1,g0,he,q1,LN,AT,r0,hk,hd12,U,V13,BZ,oneOf];have X:=bad13;simp (maxSteps:=9^7) +contextual only[exa,rA,rB,rC,rD,rE,rF,rG,rH,rI,exW,exY,oneOf] at X;exact X
    ·rw[if_neg hd12,if_pos rfl];simp (maxSteps:=9^7) +contextual only[exa,rA,rB,rC,rD,rE,rF,rG,rH,rI,exW,exY,z1,<- eh1,g0,he,q1,LN,AT,r0,hk,hd12,U,R7,if_false,oneOf];have X:=F7;simp (maxSteps:=9^7) +contextual only[exa,rA,rB,rC,rD,rE,rF,rG,rH,rI,exW,exY,oneOf] at X;exact X
   |false =>
    rw[hr] at U;rw[if_pos ⟨hk,rfl⟩];simp (maxSteps:=9^7) +contextual only[exa,rA,rB,rC,rD,rE,rF,rG,rH,rI,exW,exY,z1,<- eh1,g0,he,q1,LN,AT,r0,hk,U,V12,BZ,oneOf];have X:=bad12;simp (maxSteps:=9^7) +contextual only[exa,rA,rB,rC,rD,rE,rF,rG,rH,rI,exW,exY,oneOf] at X;exact X
 ·have hr:risM L s [123]=false:=by
   cases hr:risM L s [123] with
   |true=>exact absurd (qUN (by decide) hr) he
   |false=>rfl
  rw[qUK he,if_pos ⟨by decide,hr⟩];by_cases h0:s.e=0
  ·have q1:¬ (s.p:Int)<(L.length:Int):=by have:=λhp=>he ⟨h0,hp⟩; omega
   simp (maxSteps:=9^7) +contextual only[exa,rA,rB,rC,rD,rE,rF,rG,rH,rI,exW,exY,z1,<- eh1,g0,h0,q1,LN,V12,BZ,oneOf];have X:=bad12;simp (maxSteps:=9^7) +contextual only[exa,rA,rB,rC,rD,rE,rF,rG,rH,rI,exW,exY,oneOf] at X;exact X
  ·simp (maxSteps:=9^7) +contextual only[exa,rA,rB,rC,rD,rE,rF,rG,rH,rI,exW,exY,z1,<- eh1,g0,h0,LN,V12,BZ,oneOf];have X:=bad12;simp (maxSteps:=9^7) +contextual only[exa,rA,rB,rC,rD,rE,rF,rG,rH,rI,exW,exY,oneOf] at X;exact X
theorem qWF{L:List Tok}{sub:RS->TT×RS}(inv:Inv L sub):∀ (f:Nat) (s:RS) (l:Es),I1 L s->I1 L (rloop sub L f s l).2/\s.p<=(rloop sub L f s l).2.p
 |0,s,l,I=>⟨I,Nat.le_refl _⟩
 |f+1,s,l,I=>by
  unfold rloop;split
  ·obtain⟨Ie,pe⟩:=qWj inv I;have It:I1 L (rtwM l (rent sub L s).1.1 (rent sub L s).2):=Ie;have pt:s.p<=(rtwM l (rent sub L s).1.1 (rent sub L s).2).p:=pe;split
   ·obtain⟨a,b⟩:=qUS (x:=[44]) (by decide) It;obtain⟨c,d⟩:=qWF inv f _ (insE l (rent sub L s).1) a;exact⟨c,by omega⟩
   ·exact⟨It,pt⟩
  ·exact⟨I,Nat.le_refl _⟩
theorem qWo{L:List Tok}{sub:RS->TT×RS}(inv:Inv L sub)(kd:Int){s:RS}(I:I1 L s):I1 L (rrecM sub L kd s).2/\s.p<=(rrecM sub L kd s).2.p:=by
 obtain⟨a,b⟩:=qUS (x:=[123]) (by decide) I;obtain⟨c,d⟩:=qWF inv (L.length+2) _ [] a;obtain⟨e,f⟩:=qUS (x:=[125]) (by decide) c;exact⟨e,by show s.p<=(reatM L (rloop sub L (L.length+2) (reatM L s [123]) []).2 [125]).p; omega⟩
theorem qYS{L:List Tok}{sub:RS->TT×RS}(inv:Inv L sub)(kd:Int){s:RS}(I:I1 L s):I1 L (rofM sub L kd s).2/\s.p<=(rofM sub L kd s).2.p:=by
 obtain⟨a,b⟩:=qUS (x:=[60]) (by decide) I;obtain⟨c,d⟩:=inv _ a;obtain⟨e,f⟩:=qUS (x:=[62]) (by decide) c;exact⟨e,by show s.p<=(reatM L (sub (reatM L s [60])).2 [62]).p; omega⟩
theorem qYH{L:List Tok}{sub:RS->TT×RS}(inv:Inv L sub)(w:LB){s:RS}(I:I1 L s):I1 L (rwrdT sub L w s).2/\s.p<=(rwrdT sub L w s).2.p:=by
 unfold rwrdT;have same:I1 L s/\s.p<=s.p:=⟨I,Nat.le_refl _⟩
 repeat' split
 all_goals first
  |exact same
  |exact qYS inv _ I
  |exact qWo inv _ I
  |exact⟨(qUY (by decide) I.2).1,Nat.le_of_eq (qUY (L:=L) (e:=12) (by decide) I.2).2⟩
theorem qYN{L:List Tok}{sub:RS->TT×RS}(inv:Inv L sub)(d:Int):Inv L (rtypP sub d L):=λs I=>by
 unfold rtypP;split
 ·exact⟨(qUY (by decide) I.2).1,Nat.le_of_eq (qUY (L:=L) (e:=12) (by decide) I.2).2⟩
 split
 ·exact⟨(qUY (by decide) I.2).1,Nat.le_of_eq (qUY (L:=L) (e:=13) (by decide) I.2).2⟩
 split
 ·exact qWo inv 7 I
 ·obtain⟨a,b⟩:=qWT I;obtain⟨c,e⟩:=qYH inv (rnmM L s).1 a;exact⟨c,Nat.le_trans b e⟩
theorem qWu{d:Int}{L:List Tok}(sub:RS->TT×RS)(hd:12<d)(s:RS) :
  Om 37 [P0,kI d] [rO L s]=some (kA (rtypP sub d L s).1.row,[rO L (rtypP sub d L s).2]):=by
 refine(qAD rfl).trans ?_;show lim tab.get S 37 1 0 [P0,kI d] (Heap.mk [rO L s] .nil)=_;have z1:(Heap.mk [rO L s] .nil).gen 4=0:=rfl;obtain⟨h1,eh1⟩:∃ h1,h1=(Heap.mk [rO L s] .nil).own 4 1 (.cells z4 0):=⟨_,rfl⟩;have g0:h1.get (.im 0)=some (rO L s):=by rw[eh1]; rfl
 have g4:h1.get (.own 4 1)=some (.cells z4 0):=by rw[eh1]; rfl
 have k4:∀ t:RS,(h1.put (.im 0) (rO L t)).get (.own 4 1)=some (.cells z4 0):=λt=>g4
 have k0:∀ t:RS,(h1.put (.im 0) (rO L t)).get (.im 0)=some (rO L t):=λt=>Heap.zput_self g0 (λe=>by cases e)
 have LN:=λ{β:Type} {O:Oracle} {h:Heap} {d:Nat} {k:KO β}=>qBT (O:=O) (h:=h) (d:=d) (k:=k) L
 have V12:=λ{β:Type} {k:KO β} {d:Nat}=>u61 (k:=k) (d:=d) 12 g0
 have V13:=λ{β:Type} {k:KO β} {d:Nat}=>u61 (k:=k) (d:=d) 13 g0
 have BZ:∀ {β:Type}{k:KO β}{h:Heap}{d:Nat},vop Om (.build z4 []) h d k=k (kA zeroT.row) h:=λ{β k h d}=>rfl
 have bad12:=qU4 zeroT (failM s 12) (k4 _) (k0 _);have bad13:=qU4 zeroT (failM s 13) (k4 _) (k0 _);have U:=λ{β:Type} {k:KO β} {d:Nat}=>u60 (k:=k) (d:=d) [123] (by decide) g0
 unfold rtypP;rw[w37_0,b37_0];by_cases he:s.e=0/\s.p<L.length
 ·obtain⟨he,hp⟩:=he;have ht:L[s.p]?=some L[s.p]:=List.getElem?_eq_getElem hp;have AT:=λ{β:Type} {k:KO β} {h:Heap}=>qSa (h:=h) (k:=k) L s.p L[s.p] ht
  have q1:(s.p:Int)<(L.length:Int):=by omega
  have pk:=qUe he ht;have r0:∀ t:Tok,t.row[0]?=some (.int .i64 t.kind):=λ_=>rfl
  rw[<- pk] at AT;generalize peekM L s=t at *;by_cases hk:t.kind=1
  ·rw[if_neg (λh=>h.1 hk),if_pos hd];simp (maxSteps:=9^7) +contextual only[exa,rA,rB,rC,rD,rE,rF,rG,rH,rI,exW,exY,z1,<- eh1,g0,he,q1,LN,AT,r0,hk,hd,V13,BZ,oneOf];have X:=bad13;simp (maxSteps:=9^7) +contextual only[exa,rA,rB,rC,rD,rE,rF,rG,rH,rI,exW,exY,oneOf] at X;exact X
  ·cases hr:risM L s [123] with
   |true =>
    rw[hr] at U;rw[if_neg (λh=>by cases h.2),if_pos hd];simp (maxSteps:=9^7) +contextual only[exa,rA,rB,rC,rD,rE,rF,rG,rH,rI,exW,exY,z1,<- eh1,g0,he,q1,LN,AT,r0,hk,hd,U,V13,BZ,oneOf];have X:=bad13;simp (maxSteps:=9^7) +contextual only[exa,rA,rB,rC,rD,rE,rF,rG,rH,rI,exW,exY,oneOf] at X;exact X
   |false =>
    rw[hr] at U;rw[if_pos ⟨hk,rfl⟩];simp (maxSteps:=9^7) +contextual only[exa,rA,rB,rC,rD,rE,rF,rG,rH,rI,exW,exY,z1,<- eh1,g0,he,q1,LN,AT,r0,hk,U,V12,BZ,oneOf];have X:=bad12;simp (maxSteps:=9^7) +contextual only[exa,rA,rB,rC,rD,rE,rF,rG,rH,rI,exW,exY,oneOf] at X;exact X
 ·have hr:risM L s [123]=false:=by
   cases hr:risM L s [123] with
   |true=>exact absurd (qUN (by decide) hr) he
   |false=>rfl
  rw[qUK he,if_pos ⟨by decide,hr⟩];have X:=bad12;simp (maxSteps:=9^7) +contextual only[exa,rA,rB,rC,rD,rE,rF,rG,rH,rI,exW,exY,oneOf] at X;by_cases h0:s.e=0
  ·have q1:¬ (s.p:Int)<(L.length:Int):=by have:=λhp=>he ⟨h0,hp⟩; omega
   simp (maxSteps:=9^7) +contextual only[exa,rA,rB,rC,rD,rE,rF,rG,rH,rI,exW,exY,z1,<- eh1,g0,h0,q1,LN,V12,BZ,oneOf];exact X
  ·simp (maxSteps:=9^7) +contextual only[exa,rA,rB,rC,rD,rE,rF,rG,rH,rI,exW,exY,z1,<- eh1,g0,h0,LN,V12,BZ,oneOf];exact X
def rtypF(L:List Tok):Nat->Int->RS->TT×RS
 |0,_=>λs=>(zeroT,s)
 |n+1,d=>rtypP (rtypF L n (d+1)) d L
theorem qV9(L:List Tok):∀ (n:Nat) (d:Int),Inv L (rtypF L n d)
 |0,d=>λs I=>⟨I,Nat.le_refl _⟩
 |n+1,d=>qYN (qV9 L n (d+1)) d
theorem qVq{L:List Tok}(hL:L.length<=900):∀ (n:Nat) (d:Int),0<=d->d+n=14->1<=n->∀ s,I1 L s->Om 37 [P0,kI d] [rO L s]=some (kA (rtypF L n d s).1.row,[rO L (rtypF L n d s).2])
 |0,d,_,_,h,_,_=>by omega
 |1,d,h0,hd,_,s,I=>qWu (rtypF L 0 (d+1)) (by omega) s
 |n+2,d,h0,hd,_,s,I =>
  qYG (sub:=rtypF L (n+1) (d+1)) ⟨λs I=>qVq hL (n+1) (d+1) (by omega) (by omega) (by omega) s I,qV9 L (n+1) (d+1)⟩ ⟨h0,by omega⟩ hL s I
def rtypeR(src:LB):TT×RS:=rtypF (wordsM src).1 13 1 ⟨0,0,false⟩
def rtypeE(src:LB):Int:=if (wordsM src).2=0 then (rdnM (wordsM src).1 (rtypeR src).2).e else (wordsM src).2
def rtypeM(src:LB):TT:=if rtypeE src=0 then (rtypeR src).1 else zeroT
theorem qXp(src:LB):Om 20 [kS src] []=some (.tup [.agg (pcells (rtypeM src).row),.c (.p (.int .i64 (rtypeE src)))],[]):=by
 have hl:=qE0 src;refine(qAD rfl).trans ?_;show lim tab.get S 20 0 0 [kS src] h0=_;have c36:CAL 36 [kS src] (.tup [.c (.p (tksP (wordsM src).1)),.c (.p (.int .i64 (wordsM src).2))]):=λ{β k h d} =>
  qAH 36 [kS src] _ rfl (by rw[qWQ,qHW]) (by rfl)
 have z2:h0.gen 2=0:=rfl;have P:∀ a b c d:Cell,put1 z4 0 [a,b,c,d]=[a,b,c,d]:=λ_ _ _ _=>qBA _ _ rfl
 have xl:∀ t:TT,(pcells t.row).length=4:=λt=>by rw[qAN,TT.row_len]
 have PT:∀ t:TT,put1 z4 0 (pcells t.row)=pcells t.row:=λt=>qBA _ _ (by rw[xl]; rfl)
 have xt:∀ t:TT,(pcells t.row).take 4=pcells t.row:=λt=>List.take_of_length_le (by rw[xl]; exact Nat.le_refl _)
 have BZ:∀ {β:Type}{k:KO β}{h:Heap}{d:Nat},vop Om (.build z4 []) h d k=k (kA zeroT.row) h:=λ{β k h d}=>rfl
 have F:∀ (t:TT) (e:Int) (h:Heap),vfin true 0 [.agg (pcells t.row),.c (.p (.int .i64 e))] h=some (.tup [.agg (pcells t.row),.c (.p (.int .i64 e))],[]):=λt e h=>qAJ _ _ (by simp only[exP])
 by_cases h0':(wordsM src).2=0
 ·have I0:I1 (wordsM src).1 ⟨0,0,false⟩:=⟨λ_=>Nat.zero_le _,Nat.zero_le _⟩;have e37:=qVq (L:=(wordsM src).1) (by omega) 13 1 (by decide) (by decide) (by decide) ⟨0,0,false⟩ I0;have hR:rtypeR src=rtypF (wordsM src).1 13 1 ⟨0,0,false⟩:=rfl;rw[<- hR] at e37;have hE:rtypeE src=(rdnM (wordsM src).1 (rtypeR src).2).e:=by unfold rtypeE; rw[if_pos h0']
  have hM:rtypeM src=if rtypeE src=0 then (rtypeR src).1 else zeroT:=rfl
  rw[hM,hE];rw[h0'] at c36;generalize (wordsM src).1=L at *;generalize rtypeR src=r at *;obtain⟨hB,ehB⟩:∃ hB,hB=(h0.own 2 1 (.cells z4 0)).own 19 1 (.cells [.p (tksP L),.p (.int .i64 0),.p (.int .i64 0),.p (.bool false)] 0):=⟨_,rfl⟩;have b19:hB.get (.own 19 1)=some (rO L ⟨0,0,false⟩):=by rw[ehB]; rfl
  have c37:∀ {β:Type}{k:KO β}{e:Nat},vcall Om (F_ 37) [.v (.c (.ptr (.own 19 1) 0)),kI 1] hB e k=k (kA r.1.row) (hB.put (.own 19 1) (rO L r.2)):=λ{β k e} =>
   qAU 37 (.own 19 1) 0 [] [kI 1] _ _ _ rfl rfl b19 (qAC L _) (qAC L _) (by simp only[exP]) e37
  obtain⟨hC,ehC⟩:∃ hC,hC=hB.own 19 1 (rO L r.2):=⟨_,rfl⟩;have ehC':hB.put (.own 19 1) (rO L r.2)=hC:=by rw[ehC]; rfl
  have g7:hC.gen 7=0:=by rw[ehC,ehB]; rfl
  have cg:∀ x y:AObj,((hC.own 7 1 x).own 7 1 y).get (.own 19 1)=some (rO L r.2):=λx y=>by rw[Heap.own_get_ne _ _ _ _ _ _ (by decide),Heap.own_get_ne _ _ _ _ _ _ (by decide),ehC]; exact Heap.own_get _ 19 1 _ (by decide) (λe=>by cases e)
  have c38:∀ {β:Type}{k:KO β}{e:Nat}(x y:AObj),vcall Om (F_ 38) [.v (.c (.ptr (.own 19 1) 0))] ((hC.own 7 1 x).own 7 1 y) e k=k (kI (rdnM L r.2).e) (((hC.own 7 1 x).own 7 1 y).own 19 1 (rO L (rdnM L r.2))):=λ{β k e} x y =>
   qAU 38 (.own 19 1) 0 [] [] _ _ _ rfl rfl (cg x y) (qAC L _) (qAC L _) rfl (qYU L r.2)
  have c2:hC.get (.own 2 1)=some (.cells z4 0):=by rw[ehC,ehB]; rfl
  have BD:∀ {β:Type}{k:KO β}{h:Heap},vop Om (.build [.p .nilslice,.p (.int .i64 0),.p (.int .i64 0),.p (.bool false)] [(0,1,.k (.v (.c (.p (tksP L)))))]) h 18 k=k (.v (.agg [.p (tksP L),.p (.int .i64 0),.p (.int .i64 0),.p (.bool false)])) h:=λ{β k h}=>rfl
  have T4:AI.Touch.apart ⟨[(Ref.own 19 1).site],[],false⟩ ⟨[(Ref.own 2 1).site],[(Ref.own 2 1).site],false⟩=true:=rfl;have TB:∀ {β:Type}{O:Oracle}{h:Heap}{d:Nat}{kt:KT β},vtouch O (.build z4 []) h d kt=kt (kA zeroT.row) h noTouch:=qBe _ _ rfl;have TN:∀ {β:Type}{O:Oracle}{h:Heap}{d:Nat}{kt:KT β},vtouch O (.nilck (.k (.v (.c (.ptr (.own 19 1) 0))))) h d kt=kt (.v (.c (.ptr (.own 19 1) 0))) h noTouch:=qBe _ _ rfl;have FZ:=F zeroT;have FR:=F r.1;by_cases he:(rdnM L r.2).e=0
  ·rw[if_pos he,he];have zl:=xl r.1;have zt:=xt r.1;have zp:=PT r.1;generalize rdnM L r.2=t at *;generalize r.1=T at *;rw[w20_0,b20_0];simp (maxSteps:=9^7) +contextual only[exa,rA,rB,rC,rD,rE,rF,rG,rH,rI,exT,exW,exY,z2,c36,BD,<- ehB,c37,ehC',g7,zp,zl,zt,c38,he,c2,List.drop_zero,FR,Nat.le_refl,if_false,oneOf]
  ·rw[if_neg he];have zl:=xl r.1;have zp:=PT r.1;generalize rdnM L r.2=t at *;have yl:=xl zeroT;have yt:=xt zeroT;have yp:=PT zeroT;generalize r.1=T at *;generalize zeroT=Z at *;rw[w20_0,b20_0];simp (maxSteps:=9^7) +contextual only[exa,rA,rB,rC,rD,rE,rF,rG,rH,rI,exT,exW,exY,z2,c36,BD,<- ehB,c37,ehC',g7,zp,zl,c38,he,c2,BZ,TB,TN,yl,yt,yp,qAv,T4,List.drop_zero,FZ,Nat.le_refl,oneOf]
 ·have hE:rtypeE src=(wordsM src).2:=by unfold rtypeE; rw[if_neg h0']
  have hM:rtypeM src=zeroT:=by unfold rtypeM; rw[hE,if_neg h0']
  rw[hM,hE];generalize (wordsM src).2=e at *;generalize (wordsM src).1=L at *;have zl:=xl zeroT;have zt:=xt zeroT;have zp:=PT zeroT;have FZ:=F zeroT e;generalize zeroT=Z at *;rw[w20_0,b20_0];simp (maxSteps:=9^7) +contextual only[exa,rA,rB,rC,rD,rE,rF,rG,rH,rI,exT,exW,exY,z2,c36,h0',BZ,zp,zl,zt,List.drop_zero,FZ,Nat.le_refl,oneOf]
def sepM(x:LB)(L:List Tok)(s:RS):RS:=mustM (takeM 4 L (nmS1 L s) x) (isM 4 L (nmS1 L s) x)
structure GS where
 nm:LB
 pr:Sl TT
 rs:TT
abbrev Gs:=List GS
def gRow(f:GS):List PVal:=.str f.nm::slP 4 TT.row f.pr::f.rs.row
def gRows(l:Gs):List PVal:=l.flatMap gRow
end Go.Proofs.YtnlmlcfipbnpgaaDoor.Ab
namespace Go.AI
section
variable {β:Type} {O:Oracle} {h:Heap} {d:Nat} {k:KO β} {kt:KT β}
end
end Go.AI
namespace Go.Proofs.YtnlmlcfipbnpgaaDoor.Ab
open Go Go.AI
abbrev fO(nm:LB)(L:Cell):AObj:=.cells [.p (.str nm),L,.p (.int .i64 0),.p (.str []),.p .nilslice,.p .nilslice] 0
structure Sp0 (h:Heap) (L:List Tok) (s:RS) (nm:LB):Prop where
 g0:h.get (.im 0)=some (rO L s)
 g1:h.get (.im 1)=some (fO nm (.p .nilslice))
 g2:h.get (.im 2)=some (boxO 0)
structure Sp1 (h:Heap) (L:List Tok) (s:RS) (nm:LB) (n:Nat) (xs:List PVal) (j:Nat):Prop where
 g0:h.get (.im 0)=some (rO L s)
 g1:h.get (.im 1)=some (fO nm (.sref (.im j) 0 n none 4))
 g2:h.get (.im 2)=some (boxO 0)
 hj:3<=j
 gj:h.get (.im j)=some (.cells (pcells xs) 0)
 hx:xs.length=n*4
 hn:n<=90000
theorem Sp0.put{h:Heap}{L:List Tok}{s t:RS}{nm:LB}(A:Sp0 h L s nm):Sp0 (h.put (.im 0) (rO L t)) L t nm :=
 ⟨Heap.zput_self A.g0 (λe=>by cases e),(Heap.zput_ne A.g0 (by decide)).trans A.g1,(Heap.zput_ne A.g0 (by decide)).trans A.g2⟩
theorem Sp1.put{h:Heap}{L:List Tok}{s t:RS}{nm:LB}{n:Nat}{xs:List PVal}{j:Nat}(A:Sp1 h L s nm n xs j):Sp1 (h.put (.im 0) (rO L t)) L t nm n xs j :=
 ⟨Heap.zput_self A.g0 (λe=>by cases e),(Heap.zput_ne A.g0 (by decide)).trans A.g1,(Heap.zput_ne A.g0 (by decide)).trans A.g2,A.hj,(Heap.zput_ne A.g0 (λe=>by cases e; have:=A.hj; omega)).trans A.gj,A.hx,A.hn⟩
end Go.Proofs.YtnlmlcfipbnpgaaDoor.Ab
namespace Go.AI
section
variable {β:Type} {O:Oracle} {h:Heap} {d:Nat} {k:KO β}
end
end Go.AI
namespace Go.Proofs.YtnlmlcfipbnpgaaDoor.Ab
open Go Go.AI
structure Fh (h:Heap) (L:List Tok) (s:RS) (nm:LB) (c:Cell):Prop where
 g0:h.get (.im 0)=some (rO L s)
 g1:h.get (.im 1)=some (boxO 0)
 g2:h.get (.im 2)=some (.cells [.p (.str []),.p .nilslice,.p (.int .i64 0),.p (.str []),.p .nilslice,.p .nilslice] 0)
 g3:h.get (.im 3)=some (fO nm c)
theorem Fh.put{h:Heap}{L:List Tok}{s t:RS}{nm:LB}{c:Cell}(A:Fh h L s nm c):Fh (h.put (.im 0) (rO L t)) L t nm c :=
 ⟨Heap.zput_self A.g0 (λe=>by cases e),(Heap.zput_ne A.g0 (by decide)).trans A.g1,(Heap.zput_ne A.g0 (by decide)).trans A.g2,(Heap.zput_ne A.g0 (by decide)).trans A.g3⟩
end Go.Proofs.YtnlmlcfipbnpgaaDoor.Ab
namespace Go.AI
section
variable {β:Type} {O:Oracle} {h:Heap} {d:Nat} {k:KO β} {kt:KT β}
end
end Go.AI
namespace Go.Proofs.YtnlmlcfipbnpgaaDoor.Ab
open Go Go.AI
abbrev z6s:List Cell:=[.p (.int .i64 0),.p (.str []),.p .nilslice,.p .nilslice,.p .nilslice,.p .nilslice]
def AtN(h:Heap)(ns:Es)(T:Cell):Prop:=(ns=[]/\T = .p .nilslice)\/(ns≠[]/\∃ j,3<=j/\T = .sref (.im j) 0 ns.length none 5/\h.get (.im j)=some (.cells (pcells (eRows ns)) 0))
def AtF(h:Heap)(gs:Gs)(G:Cell):Prop:=(gs=[]/\G = .p .nilslice)\/(gs≠[]/\∃ j,3<=j/\G = .sref (.im j) 0 gs.length none 6/\h.get (.im j)=some (.cells (pcells (gRows gs)) 0))
structure Ps (h:Heap) (L:List Tok) (s:RS) (main:TT) (ns:Es) (gs:Gs) (T G:Cell):Prop where
 g0:h.get (.im 0)=some (.cells z6s 0)
 g1:h.get (.im 1)=some (rO L s)
 g2:h.get (.im 2)=some (.cells (pcells main.row++[T,G]) 0)
 tT:AtN h ns T
 tG:AtF h gs G
 ap:∀ r∈T.refs,r∉G.refs
theorem AtN.ref{h:Heap}{ns:Es}{T:Cell}(A:AtN h ns T):∀ r∈T.refs,∃ j,r = .im j/\3<=j/\j<h.ims.length:=by
 rcases A with ⟨_,rfl⟩|⟨_,j,hj,rfl,hg⟩
 ·intro r hr; cases hr
 ·intro r hr;have:r = .im j:=by simpa [Cell.refs] using hr
  refine⟨j,this,hj,?_⟩;have:=(Heap.get_im_some hg).1;exact(List.getElem?_eq_some_iff.1 this).1
theorem AtF.ref{h:Heap}{ns:Gs}{T:Cell}(A:AtF h ns T):∀ r∈T.refs,∃ j,r = .im j/\3<=j/\j<h.ims.length:=by
 rcases A with ⟨_,rfl⟩|⟨_,j,hj,rfl,hg⟩
 ·intro r hr; cases hr
 ·intro r hr;have:r = .im j:=by simpa [Cell.refs] using hr
  refine⟨j,this,hj,?_⟩;have:=(Heap.get_im_some hg).1;exact(List.getElem?_eq_some_iff.1 this).1
theorem AtN.keep{h h':Heap}{ns:Es}{T:Cell}(A:AtN h ns T)(k:∀ r∈T.refs,h'.get r=h.get r):AtN h' ns T:=by
 rcases A with ⟨e,rfl⟩|⟨e,j,hj,rfl,hg⟩
 ·exact .inl ⟨e,rfl⟩
 ·exact .inr ⟨e,j,hj,rfl,(k (.im j) (by simp[Cell.refs])).trans hg⟩
theorem AtF.keep{h h':Heap}{ns:Gs}{T:Cell}(A:AtF h ns T)(k:∀ r∈T.refs,h'.get r=h.get r):AtF h' ns T:=by
 rcases A with ⟨e,rfl⟩|⟨e,j,hj,rfl,hg⟩
 ·exact .inl ⟨e,rfl⟩
 ·exact .inr ⟨e,j,hj,rfl,(k (.im j) (by simp[Cell.refs])).trans hg⟩
theorem Ps.put{h:Heap}{L:List Tok}{s t:RS}{main:TT}{ns:Es}{gs:Gs}{T G:Cell}(A:Ps h L s main ns gs T G):Ps (h.put (.im 1) (rO L t)) L t main ns gs T G:=by
 have k:∀ j,3<=j->(h.put (.im 1) (rO L t)).get (.im j)=h.get (.im j):=λj hj=>Heap.zput_ne A.g1 (λe=>by cases e; omega)
 refine⟨(Heap.zput_ne A.g1 (by decide)).trans A.g0,Heap.zput_self A.g1 (λe=>by cases e),(Heap.zput_ne A.g1 (by decide)).trans A.g2,A.tT.keep λr hr=>?_,A.tG.keep λr hr=>?_,A.ap⟩
 ·obtain⟨j,rfl,hj,_⟩:=A.tT.ref r hr; exact k j hj
 ·obtain⟨j,rfl,hj,_⟩:=A.tG.ref r hr; exact k j hj
theorem Ps.len{h:Heap}{L:List Tok}{s:RS}{main:TT}{ns:Es}{gs:Gs}{T G:Cell}(A:Ps h L s main ns gs T G):3<=h.ims.length:=by
 have:=(Heap.get_im_some A.g2).1;have:=(List.getElem?_eq_some_iff.1 this).1;omega
theorem AtN.len{β:Type}{h h':Heap}{ns:Es}{T:Cell}(A:AtN h ns T){k:KO β}{d:Nat}:vlen Om 2 (.v (.c T)) h' d k=k (kI (ns.length:Int)) h':=by
 rcases A with ⟨rfl,rfl⟩|⟨_,j,_,rfl,_⟩
 ·rfl
 ·rw[qCP]
theorem AtF.len{β:Type}{h h':Heap}{ns:Gs}{T:Cell}(A:AtF h ns T){k:KO β}{d:Nat}:vlen Om 2 (.v (.c T)) h' d k=k (kI (ns.length:Int)) h':=by
 rcases A with ⟨rfl,rfl⟩|⟨_,j,_,rfl,_⟩
 ·rfl
 ·rw[qCP]
structure SC where
 main:TT
 ts:Sl (LB×TT)
 gs:Sl GS
def SC.row(x:SC):List PVal:=x.main.row++[slP 5 (λp=>eRow p.1 p.2) x.ts,slP 6 gRow x.gs]
def SC.zero:SC:=⟨zeroT,.nil,.nil⟩
open Go Go.AI
theorem y14{β:Type}{kt:KT β}{h:Heap}{d:Nat}{x:TT}(ok:TextOK x):vtouch Om (.call (.k (F_ 14)) [.k (kA x.row)]) h d kt=kt (kS (txtM x)) h noTouch :=
 qKo 14 [kA x.row] _ (by simp only[exP]) ok (by simp only[exP])
theorem qWZ(xs:List (LB))(c:Cell)(G:Bears 1 c (xs.map sRow))(h:Heap)(hs:([123]++Lib.join xs sepC++[125]).length<=1000000000)(hn:xs.length<=1000):lim tab.get S 31 0 3 [.v (.c c)] h=some (kS ([123]++Lib.join xs sepC++[125]),[]):=by
 simp only[List.length_append,List.length_cons,List.length_nil] at hs;have cj:CAL 53 [.v (.c c),kS [44,32]] (kS (Lib.join xs sepC)):=λ{β k h d} =>
  (G.call1 53 [kS [44,32]]).trans (qAH 53 _ _ rfl (qYL xs sepC (by omega) (by omega)) rfl)
 have s1:([123]:LB).length+(Lib.join xs sepC).length<=4611686018427387904:=by simp; omega
 have s2:([123]++Lib.join xs sepC).length+([125]:LB).length<=4611686018427387904:=by simp; omega
 have A1:∀ {β:Type}{h:Heap}{k:KO β},vbin .add 0 (kS [123]) (kS (Lib.join xs sepC)) h k=k (kS ([123]++Lib.join xs sepC)) h:=λ{β h k}=>qUJ 0 _ _ s1
 have A2:∀ {β:Type}{h:Heap}{k:KO β},vbin .add 0 (kS ([123]++Lib.join xs sepC)) (kS [125]) h k=k (kS ([123]++Lib.join xs sepC++[125])) h:=λ{β h k}=>qUJ 0 _ _ s2
 rw[w31_3,b31_3];simp only[cj,A1,A2,qAI,qTF]
structure FldH (t:TT) (h:Heap):Prop where
 a1:h.get (.own 1 1)=some (.cells (pcells t.row) 0)
theorem qVu(t:TT)(sm:smT t)(ok:∀ x∈t.kids.list,TextOK x)(hs:(brM t).length<=1000000000) :
  ∀ (i:Nat) (acc:List (LB)) (c:Cell) (h:Heap),acc.length<=i->acc++fldL (t.names.list.drop i) (t.kids.list.drop i)=fldL t.names.list t.kids.list->AI.GS [30] 1 c (acc.map sRow) h->(acc=[]->c = .p .nilslice)->(acc≠[]->∃ r,c = .tsl 1 (acc.map sRow) r)->FldH t h ->
   lim tab.get S 31 0 1 [q1,.v (.c c),tsP t.kids,kI (t.kids.len:Int),kI (i:Int)] h=some (kS (brM t),[]):=by
 obtain⟨s1,s2,_⟩:=(qGM t).1 sm;have bears:∀ (acc:List (LB)) (c:Cell),(acc=[]->c = .p .nilslice)->(acc≠[]->∃ r,c = .tsl 1 (acc.map sRow) r)->Bears 1 c (acc.map sRow):=by
  intro acc c h1 h2;by_cases h:acc=[]
  ·exact .inl ⟨by rw[h]; rfl,h1 h⟩
  ·exact .inr ⟨by simpa using h,h2 h⟩
 have fin:∀ (acc:List (LB)) (c:Cell) (h:Heap),acc=fldL t.names.list t.kids.list->Bears 1 c (acc.map sRow)->lim tab.get S 31 0 3 [.v (.c c)] h=some (kS (brM t),[]):=by
  intro acc c h e G;have:=qWZ acc c G h (by rw[e]; exact hs) (by rw[e]; have:=qVs t.names.list t.kids.list; have:t.kids.list.length<=1000:=s2; omega);rw[this,e]; rfl
 refine qE7 t.kids.len (λi hi acc c h hl he G c0 c1 H=>?_) (λi hi ihl acc c h hl he G c0 c1 H=>?_) <;> rw[w31_1,b31_1]
 ·have h1:¬ (i:Int)<(t.kids.len:Int):=by omega
  have e1:t.kids.list.drop i=[]:=qB8 hi;rw[e1,qVT,List.append_nil] at he;simp (maxSteps:=9^7) +contextual only[exa,rA,rB,rC,rD,rE,rF,rG,rH,rI,h1];exact fin acc c h he (bears acc c c0 c1)
 ·have h1:(i:Int)<(t.kids.len:Int):=by omega
  obtain⟨x,hx,dx,mx⟩:=qBN (l:=t.kids.list) (i:=i) hi;have P4:=qR2 _ (TT.row_len x);by_cases h2:(i:Int)<(t.names.len:Int)
  ·obtain⟨n,hn,dn,mn⟩:=qBN (l:=t.names.list) (i:=i) (by show i<t.names.len; omega);rw[dx,dn,fldL] at he;have hm:(n++colC++txtM x)∈fldL t.names.list t.kids.list:=qVf _ _ i n x hn hx;have hj:=qXH _ _ hm;have hs2:(n++colC++txtM x).length<=1000000000:=by
    unfold brM at hs;simp only[List.length_append,List.length_cons,List.length_nil] at hs hj ⊢;omega
   have hs3:=hs2;simp only[List.length_append] at hs3;have a1:n.length+([58,32]:LB).length<=4611686018427387904:=by simp; omega
   have a2:(n++[58,32]).length+(txtM x).length<=4611686018427387904:=by simp; omega
   have A1:∀ {β:Type}{h:Heap}{k:KO β},vbin .add 0 (kS n) (kS [58,32]) h k=k (kS (n++[58,32])) h:=λ{β h k}=>qUJ 0 _ _ a1
   have A2:∀ {β:Type}{h:Heap}{k:KO β},vbin .add 0 (kS (n++[58,32])) (kS (txtM x)) h k=k (kS (n++[58,32]++txtM x)) h:=λ{β h k}=>qUJ 0 _ _ a2
   have H5:FldH t ((h.own 5 (h.gen 5+1) (.cells z4 0)).own 5 (h.gen 5+1) (.cells (pcells x.row) 0)):=⟨(Heap.own_get_ne _ 5 _ _ 1 1 (by decide)).trans ((Heap.own_get_ne _ 5 _ _ 1 1 (by decide)).trans H.a1)⟩;have g5:((h.own 5 (h.gen 5+1) (.cells z4 0)).own 5 (h.gen 5+1) (.cells (pcells x.row) 0)).get (.own 5 (h.gen 5+1))=some (.cells (pcells x.row) 0):=qJI _ 5 _ _ 0 (by decide);have G5:AI.GS [30] 1 c (acc.map sRow) ((h.own 5 (h.gen 5+1) (.cells z4 0)).own 5 (h.gen 5+1) (.cells (pcells x.row) 0)):=(G.own _ _ (by decide)).own _ _ (by decide);have B:∀ {β:Type}{O:Oracle}{h:Heap}{d:Nat}{kt:KT β},vtouch O (.bslice 1 1 [.p (.str [])] [(0,.k (kS (n++[58,32]++txtM x)))] false) h d kt=kt (kSl 1 true [[.str (n++[58,32]++txtM x)]]) h noTouch:=qMZ _ _ rfl;obtain⟨c',h',t',G',e',T',K',I',X'⟩:=qML (d:=30) (by':=16) (new:=[[.str (n++[58,32]++txtM x)]]) (b:=.slice 1 true [[.str (n++[58,32]++txtM x)]]) (.inr ⟨_,rfl⟩) G5 (by decide) (λr hr=>by simp at hr; rw[hr]; rfl) (by simp; omega) (by decide);have H':FldH t h':=⟨K' 1 1 _ (by decide) H5.a1⟩;simp (maxSteps:=9^7) +contextual only[A1,A2,exa,rA,rB,rC,rD,rE,rF,rG,rH,rI,exY,h1,h2,hx,hn,P4,H.a1,H5.a1,g5,y14 (ok x mx),B,e'];rw[w31_2,b31_2];simp (maxSteps:=9^7) +contextual only[exa,rA,rB,rC,rD,rE,rF,rG,rH,rI,qBq i (by omega)];refine ihl (acc++[n++[58,32]++txtM x]) c' h' (by simp; omega) (by rw[List.append_assoc]; exact he) (by rw[List.map_append]; exact G') (λe=>absurd e (by simp)) (λ_=>?_) H';obtain⟨r,e⟩:=X' (.inl (by simp));exact⟨r,by rw[e,List.map_append]; rfl⟩
  ·have e2:t.names.list.drop i=[]:=qB8 (by show t.names.len<=i; omega);have e3:t.names.list.drop (i+1)=[]:=qB8 (by show t.names.len<=i+1; omega);rw[e2,qUi,List.append_nil] at he;have H5:FldH t ((h.own 5 (h.gen 5+1) (.cells z4 0)).own 5 (h.gen 5+1) (.cells (pcells x.row) 0)):=⟨(Heap.own_get_ne _ 5 _ _ 1 1 (by decide)).trans ((Heap.own_get_ne _ 5 _ _ 1 1 (by decide)).trans H.a1)⟩;simp (maxSteps:=9^7) +contextual only[exa,rA,rB,rC,rD,rE,rF,rG,rH,rI,exY,h1,h2,hx,P4,H.a1,H5.a1];rw[w31_2,b31_2];simp (maxSteps:=9^7) +contextual only[exa,rA,rB,rC,rD,rE,rF,rG,rH,rI,qBq i (by omega)];exact ihl acc c _ (by omega) (by rw[e3,qUi,List.append_nil]; exact he) ((G.own _ _ (by decide)).own _ _ (by decide)) c0 c1 H5
theorem qVc(t:TT)(sm:smT t)(ok:∀ x∈t.kids.list,TextOK x)(hs:(brM t).length<=1000000000):Om 31 [kA t.row] []=some (kS (brM t),[]):=by
 refine(qAD rfl).trans ?_;show lim tab.get S 31 0 0 [kA t.row] h0=_;rw[w31_0,b31_0];simp (maxSteps:=9^7) +contextual only[exa,rA,rB,rC,rD,rE,rF,rG,rH,rI];exact qVu t sm ok hs 0 [] (.p .nilslice) _ (Nat.le_refl _) rfl (.inl ⟨rfl,rfl⟩) (λ_=>rfl) (λe=>absurd rfl e) ⟨rfl⟩
def wrB:Nat->TT->Prop
 |0,_=>False
 |n+1,t=>(txtM t).length<=1000000000/\(brM t).length<=1000000000/\(angL t.kids.list).length<=1000000000/\∀ x∈t.kids.list,wrB n x
theorem qWC:∀ (n:Nat) (t:TT),wrB n t->smT t->TextOK t
 |0,_,h,_=>h.elim
 |n+1,t,hw,sm=>by
  obtain⟨w1,w2,w3,w4⟩:=hw;obtain⟨s1,s2,s3⟩:=(qGM t).1 sm;have ok:∀ x∈t.kids.list,TextOK x:=λx hx=>qWC n x (w4 x hx) (s3 x hx)
  have c31:CAL 31 [kA t.row] (kS (brM t)):=qAH 31 _ _ (by simp only[exP]) (qVc t sm ok w2) rfl;have k31:∀ {β:Type}{kt:KT β}{h:Heap}{d:Nat},vtouch Om (.call (.k (F_ 31)) [.k (kA t.row)]) h d kt=kt (kS (brM t)) h noTouch:=qKo 31 [kA t.row] _ (by simp only[exP]) (qVc t sm ok w2) rfl;refine(qAD rfl).trans ?_;show lim tab.get S 14 0 0 [kA t.row] h0=_;rw[w14_0,b14_0,qUL];by_cases k9:t.kind=9
  ·rw[if_pos k9];simp (maxSteps:=9^7) +contextual only[exa,rA,rB,rC,rD,rE,rF,rG,rH,rI,k9,oneOf]
  rw[if_neg k9];by_cases k7:t.kind=7
  ·rw[if_pos k7];simp (maxSteps:=9^7) +contextual only[exa,rA,rB,rC,rD,rE,rF,rG,rH,rI,k7,c31,oneOf]
  rw[if_neg k7];by_cases k8:t.kind=8
  ·rw[if_pos k8];have u8:wordM 8=[85,110,105,111,110]:=rfl;have A1:∀ {β:Type}{h:Heap}{k:KO β},vbin .add 0 (kS [85,110,105,111,110]) (kS [32]) h k=k (kS [85,110,105,111,110,32]) h:=λ{β h k}=>qUJ 0 _ _ (by decide)
   have A2:∀ {β:Type}{h:Heap}{k:KO β},vbin .add 0 (kS [85,110,105,111,110,32]) (kS (brM t)) h k=k (kS ([85,110,105,111,110,32]++brM t)) h:=λ{β h k}=>qUJ 0 _ _ (by simp; omega)
   simp (maxSteps:=9^7) +contextual only[A1,A2,exa,rA,rB,rC,rD,rE,rF,rG,rH,rI,k8,y32,u8,k31,oneOf]
  rw[if_neg k8];simp (maxSteps:=9^7) +contextual only[exa,rA,rB,rC,rD,rE,rF,rG,rH,rI,k9,k7,k8,u32];have ht:txtM t=wordM t.kind++angL t.kids.list:=by rw[qUL,if_neg k9,if_neg k7,if_neg k8]
  have:=qXR [] t.kids s2 ok 0 (wordM t.kind) ((h0.own 1 1 (.cells (pcells t.row) 0))) (by rw[List.drop_zero,<- ht]; exact w1);rw[List.drop_zero] at this;exact this
def RSameOK(a b:TT):Prop:=Om 17 [kA a.row,kA b.row] []=some (kB (sameT a b),[])
abbrev s2P:TVal:=.v (.c (.ptr (.own 2 1) 0))
abbrev s3P:TVal:=.v (.c (.ptr (.own 3 1) 0))
abbrev tC(a:TT):List Cell:=[.p (.int .i64 a.kind),.p (.str a.name),.p (slP 1 sRow a.names),.p (slP 4 TT.row a.kids)]
theorem qQT(a:TT):pcells a.row=tC a:=by rw[TT.row_eq]; rfl
theorem qPb(a b:TT)(hab:a.names.len=b.names.len)(hl:a.names.len<=1000)(h:Heap)(g2:h.get (.own 2 1)=some (.cells (tC a) 0))(g3:h.get (.own 3 1)=some (.cells (tC b) 0)) :
  ∀ i:Nat,lim tab.get S 17 0 1 [s2P,s3P,kI (i:Int)] h=if a.names.list.drop i=b.names.list.drop i then lim tab.get S 17 0 3 [s2P,s3P,kI 0] h else some (kB false,[]):=by
 refine qE7 a.names.len (λi hi=>?_) (λi hi ihl=>?_) <;> rw[w17_1,b17_1]
 ·have h1:¬ (i:Int)<(a.names.len:Int):=by omega
  have e1:a.names.list.drop i=[]:=qB8 hi;have e2:b.names.list.drop i=[]:=qB8 (by show b.names.len<=i; omega);rw[e1,e2,if_pos rfl];simp (maxSteps:=9^7) +contextual only[exa,rA,rB,rC,rD,rE,rF,rG,rH,rI,exR,g2,g3,h1];rw[w17_2,b17_2]
 ·have h1:(i:Int)<(a.names.len:Int):=by omega
  obtain⟨x,hx,dx,mx⟩:=qBN (l:=a.names.list) (i:=i) hi;obtain⟨y,hy,dy,my⟩:=qBN (l:=b.names.list) (i:=i) (by show i<b.names.len; omega);rw[dx,dy];by_cases hxy:x=y
  ·subst hxy;have:(x::a.names.list.drop (i+1)=x::b.names.list.drop (i+1))=(a.names.list.drop (i+1)=b.names.list.drop (i+1)):=by simp
   simp only[this];rw[<- ihl];simp (maxSteps:=9^7) +contextual only[exa,rA,rB,rC,rD,rE,rF,rG,rH,rI,exR,g2,g3,h1,hx,hy,qBq i (by omega)]
  ·rw[if_neg (by simp[hxy])];simp (maxSteps:=9^7) +contextual only[exa,rA,rB,rC,rD,rE,rF,rG,rH,rI,exR,g2,g3,h1,hx,hy,hxy,oneOf]
theorem qNi(a b:TT)(hab:a.kids.len=b.kids.len)(hl:a.kids.len<=1000)(ok:∀ x∈a.kids.list,∀ y∈b.kids.list,RSameOK x y)(h:Heap)(g2:h.get (.own 2 1)=some (.cells (tC a) 0))(g3:h.get (.own 3 1)=some (.cells (tC b) 0)) :
  ∀ i:Nat,lim tab.get S 17 0 3 [s2P,s3P,kI (i:Int)] h=some (kB (sameL (a.kids.list.drop i) (b.kids.list.drop i)),[]):=by
 refine qE7 a.kids.len (λi hi=>?_) (λi hi ihl=>?_) <;> rw[w17_3,b17_3]
 ·have h1:¬ (i:Int)<(a.kids.len:Int):=by omega
  have e1:a.kids.list.drop i=[]:=qB8 hi;have e2:b.kids.list.drop i=[]:=qB8 (by show b.kids.len<=i; omega);rw[e1,e2];simp (maxSteps:=9^7) +contextual only[exa,rA,rB,rC,rD,rE,rF,rG,rH,rI,exR,g2,g3,h1,oneOf,sameL]
 ·have h1:(i:Int)<(a.kids.len:Int):=by omega
  obtain⟨x,hx,dx,mx⟩:=qBN (l:=a.kids.list) (i:=i) hi;obtain⟨y,hy,dy,my⟩:=qBN (l:=b.kids.list) (i:=i) (by show i<b.kids.len; omega);rw[dx,dy,sameL];have cc:CAL 17 [kA x.row,kA y.row] (kB (sameT x y)):=qAH 17 _ _ (by simp only[exP]) (ok x mx y my) rfl;cases hs:sameT x y
  ·simp (maxSteps:=9^7) +contextual only[exa,rA,rB,rC,rD,rE,rF,rG,rH,rI,exR,g2,g3,h1,hx,hy,cc,hs,oneOf]
  ·simp (maxSteps:=9^7) +contextual only[exa,rA,rB,rC,rD,rE,rF,rG,rH,rI,exR,g2,g3,h1,hx,hy,cc,hs,qBq i (by omega),ihl]
theorem qPU:∀ (n:Nat) (a b:TT),SizeOf.sizeOf a<n->smT a->smT b->RSameOK a b:=by
 intro n
 induction n with
 |zero=>intro a b h; omega
 |succ n ih =>
  intro a b hs sa sb;obtain⟨a1,a2,a3⟩:=(qGM a).1 sa;obtain⟨b1,b2,b3⟩:=(qGM b).1 sb;have ok:∀ x∈a.kids.list,∀ y∈b.kids.list,RSameOK x y:=λx hx y hy=>ih x y (by have:=TT.mem_size hx; omega) (a3 x hx) (b3 y hy)
  refine(qAD rfl).trans ?_;show lim tab.get S 17 0 0 [kA a.row,kA b.row] h0=_;rw[w17_0,b17_0,qIk];rw[show kA a.row = .v (.agg (tC a)) by rw[<- qQT],show kA b.row = .v (.agg (tC b)) by rw[<- qQT]];by_cases h1:a.kind=b.kind
  ·by_cases h2:a.name=b.name
   ·by_cases h3:(a.names.len:Int)=(b.names.len:Int)
    ·by_cases h4:(a.kids.len:Int)=(b.kids.len:Int)
     ·have NL:=qPb a b (by omega) a1 ((h0.own 2 1 (.cells (tC a) 0)).own 3 1 (.cells (tC b) 0)) rfl rfl 0;have KL:=qNi a b (by omega) a2 ok ((h0.own 2 1 (.cells (tC a) 0)).own 3 1 (.cells (tC b) 0)) rfl rfl 0;rw[List.drop_zero,List.drop_zero] at NL KL;have hh:lim tab.get S 17 0 1 [s2P,s3P,kI 0] ((h0.own 2 1 (.cells (tC a) 0)).own 3 1 (.cells (tC b) 0))=some (kB (((decide (a.kind=b.kind)&&decide (a.name=b.name))&&decide (a.names.list=b.names.list))&&sameL a.kids.list b.kids.list),[]):=by
       refine NL.trans ?_;by_cases h5:a.names.list=b.names.list
       ·rw[if_pos h5];refine KL.trans ?_;rw[decide_eq_true h1,decide_eq_true h2,decide_eq_true h5]; rfl
       ·rw[if_neg h5,decide_eq_false h5];rw[Bool.and_false,Bool.false_and]
      rw[<- hh];simp (maxSteps:=9^7) +contextual only[exa,rA,rB,rC,rD,rE,rF,rG,rH,rI,exR,h1,h2,h3,h4]
     ·have h5:sameL a.kids.list b.kids.list=false:=qEs _ _ (λe=>h4 (by show((a.kids.list.length:Nat):Int)=_; rw[e]; rfl));rw[h5,Bool.and_false];simp (maxSteps:=9^7) +contextual only[exa,rA,rB,rC,rD,rE,rF,rG,rH,rI,exR,h1,h2,h3,h4,oneOf]
    ·have h5:a.names.list≠b.names.list:=λe=>h3 (by show((a.names.list.length:Nat):Int)=_; rw[e]; rfl)
     rw[decide_eq_false h5,Bool.and_false,Bool.false_and];simp (maxSteps:=9^7) +contextual only[exa,rA,rB,rC,rD,rE,rF,rG,rH,rI,exR,h1,h2,h3,oneOf]
   ·simp (maxSteps:=9^7) +contextual only[exa,rA,rB,rC,rD,rE,rF,rG,rH,rI,exR,h1,h2,oneOf]
  ·simp (maxSteps:=9^7) +contextual only[exa,rA,rB,rC,rD,rE,rF,rG,rH,rI,exR,h1,oneOf]
def mixL:List (LB):=[[100,97,116,97],[116,121,112,101],[102,110],[73,110,116],[66,111,111,108],[84,101,120,116],[76,105,115,116,60],[77,97,112,60],[79,112,116,60],[62],[123],[125],[85,110,105,111,110],[97],[98],[58],[44],[59],[61],[40],[41],[45,62],[65],[55],[34,120,34]]
def pieM(n:Int):LB:=mixL.getD (withinM n 25).toNat []
def mixW(n:Int):LB:=pieM n++[32]
def mixM(l:List Int):LB:=(l.take 50).flatMap mixW
theorem qWb(n:Int):mixL[(withinM n 25).toNat]?=some (pieM n):=by
 have hb:=qCy n 25 (by decide);have:(withinM n 25).toNat<mixL.length:=by show _<25; omega
 unfold pieM;rw[List.getD_eq_getElem?_getD,List.getElem?_eq_getElem this]; rfl
theorem qWH(n:Int):(pieM n).length<=5:=by
 have hm:pieM n∈mixL:=List.mem_of_getElem? (qWb n);have:∀ x∈mixL,x.length<=5:=by decide
 exact this _ hm
abbrev IsP(s:Sl Int):TVal:=.v (.c (.p (slP 1 iRow s)))
abbrev mixP:TVal:=kSl 1 true (mixL.map sRow)
theorem qLR{β:Type}{h:Heap}{k:KO β}(a b:LB)(hl:a.length+b.length<=4611686018427387904):vbin .add 0 (kS a) (kS b) h k=k (kS (a++b)) h:=by
 simp (config:={ maxSteps:=10000000 }) only[exa,rA,rB,rC,rD,rE,rF,rG,rH,rI,decide_eq_true hl]
theorem qVg(s:Sl Int)(h:Heap):∀ (m i:Nat) (acc:LB),i+m=50->acc.length<=10*i ->
  lim tab.get S 15 0 1 [IsP s,mixP,kS acc,kI (i:Int)] h=some (kS (acc++((s.list.drop i).take m).flatMap mixW),[])
 |0,i,acc,hi,ha=>by
  have q:¬ (i:Int)<50:=by omega
  rw[w15_1,b15_1,List.take_zero,List.flatMap_nil,List.append_nil];by_cases h1:(i:Int)<(s.len:Int)
  ·simp (maxSteps:=9^7) +contextual only[exa,rA,rB,rC,rD,rE,rF,rG,rH,rI,h1,q,oneOf]
  ·simp (maxSteps:=9^7) +contextual only[exa,rA,rB,rC,rD,rE,rF,rG,rH,rI,h1,q,oneOf]
 |m+1,i,acc,hi,ha=>by
  have q:(i:Int)<50:=by omega
  rw[w15_1,b15_1];by_cases h1:(i:Int)<(s.len:Int)
  ·obtain⟨x,hx,dx,mx⟩:=qBN (l:=s.list) (i:=i) (by show i<s.len; omega);have hb:=qCy x 25 (by decide);have hp:=qWb x;have pl:=qWH x;have AT:∀ (β:Type) (kk:KO β) (hh:Heap),viaddr 1 mixP (kI (withinM x 25)) hh kk=kk (.v (.c (.p (.pptr (sRow (pieM x)) 0)))) hh:=λβ kk hh=>by
    have:(mixL.map sRow)[(withinM x 25).toNat]?=some (sRow (pieM x)):=by rw[List.getElem?_map,hp]; rfl
    have e:=qNz (h:=hh) (k:=kk) 1 true (mixL.map sRow) (withinM x 25).toNat _ this
    rwa [show(((withinM x 25).toNat:Nat):Int)=withinM x 25 by omega] at e
   have LN:∀ (β:Type) (kk:KO β) (hh:Heap),vlen Om 2 mixP hh 24 kk=kk (kI 25) hh:=λ_ _ _=>rfl
   have U:=λ(β:Type) (kk:KO β) (hh:Heap) (d:Nat)=>u19 (k:=kk) (h:=hh) (d:=d) x 25 (by decide) (by decide)
   have V1:∀ (β:Type) (kk:KO β) (hh:Heap),vbin .add 0 (kS acc) (kS (pieM x)) hh kk=kk (kS (acc++pieM x)) hh:=λβ kk hh=>qLR _ _ (by omega)
   have V2:∀ (β:Type) (kk:KO β) (hh:Heap),vbin .add 0 (kS (acc++pieM x)) (kS [32]) hh kk=kk (kS (acc++pieM x++[32])) hh:=λβ kk hh=>qLR _ _ (by simp; omega)
   rw[dx,List.take_succ_cons,List.flatMap_cons];have ih:=qVg s h m (i+1) (acc++mixW x) (by omega) (by unfold mixW; simp; omega);rw[show acc++(mixW x++((s.list.drop (i+1)).take m).flatMap mixW)=acc++mixW x++((s.list.drop (i+1)).take m).flatMap mixW by simp];rw[<- ih];unfold mixW;rw[<- List.append_assoc];generalize hmp:mixP=MP at *;generalize pieM x=px at *;simp (maxSteps:=9^7) +contextual only[exa,rA,rB,rC,rD,rE,rF,rG,rH,rI,h1,q,hx,LN,U,AT,V1,V2,qBq i (by omega)]
  ·have e:s.list.drop i=[]:=List.drop_eq_nil_of_le (by show s.len<=i; omega);rw[e,List.take_nil,List.flatMap_nil,List.append_nil];simp (maxSteps:=9^7) +contextual only[exa,rA,rB,rC,rD,rE,rF,rG,rH,rI,h1,oneOf]
theorem qYQ(s:Sl Int):Om 15 [IsP s] []=some (kS (mixM s.list),[]):=by
 refine(qAD rfl).trans ?_;show lim tab.get S 15 0 0 [IsP s] h0=_;have BS:∀ (β:Type) (kk:KO β) (hh:Heap),vop Om (.bslice 1 25 [.p (.str [])] [(0,.k (kS [100,97,116,97])),(1,.k (kS [116,121,112,101])),(2,.k (kS [102,110])),(3,.k (kS [73,110,116])),(4,.k (kS [66,111,111,108])),(5,.k (kS [84,101,120,116])),(6,.k (kS [76,105,115,116,60])),(7,.k (kS [77,97,112,60])),(8,.k (kS [79,112,116,60])),(9,.k (kS [62])),(10,.k (kS [123])),(11,.k (kS [125])),(12,.k (kS [85,110,105,111,110])),(13,.k (kS [97])),(14,.k (kS [98])),(15,.k (kS [58])),(16,.k (kS [44])),(17,.k (kS [59])),(18,.k (kS [61])),(19,.k (kS [40])),(20,.k (kS [41])),(21,.k (kS [45,62])),(22,.k (kS [65])),(23,.k (kS [55])),(24,.k (kS [34,120,34]))] false) hh 6 kk=kk mixP hh:=λ_ _ _=>qAx _ _ rfl
 rw[w15_0,b15_0,BS];have:=qVg s h0 50 0 [] (by omega) (by decide);rw[List.drop_zero,List.nil_append] at this;exact this
theorem u15{β:Type}{k:KO β}{h:Heap}{d:Nat}(s:Sl Int):vcall Om (F_ 15) [IsP s] h d k=k (kS (mixM s.list)) h:=qAH 15 _ _ (by simp only[exP]) (qYQ s) rfl
theorem qXt(l:List Int):(mixM l).length<=300:=by
 unfold mixM;have:∀ l:List Int,(l.flatMap mixW).length<=6*l.length:=by
  intro l
  induction l with
  |nil=>exact Nat.zero_le _
  |cons x l ih =>
   have:=qWH x;rw[List.flatMap_cons,List.length_append,List.length_cons];unfold mixW at ih ⊢;simp at ih ⊢; omega
 have h2:=this (l.take 50);have h3:(l.take 50).length<=50:=by simp; omega
 omega
def nameB(w:LB):Bool:=match w with
 |[]=>false
 |c::_=>isLetter c.toNat&&w.all (λb=>isWord b.toNat)&&Nat.ble w.length 16
def endW(r:LB):Prop:=∀ b t,r=b::t->isWord b.toNat=false
theorem qGy(p:Nat->Bool):∀ (w r:LB),(∀ b∈w,p b.toNat=true)->(∀ b t,r=b::t->p b.toNat=false)->runLen p (w++r)=w.length
 |[],r,_,h=>by
  cases r with
  |nil=>rfl
  |cons b t=>simp[runLen,h b t rfl]
 |b::w,r,h1,h2=>by
  have:=qGy p w r (λx hx=>h1 x (List.mem_cons_of_mem _ hx)) h2;simp[runLen,h1 b (List.mem_cons_self ..),this]
theorem qMt(n:Nat)(h:isLetter n=true):isBlank n=false:=by
 cases hb:isBlank n with
 |false=>rfl
 |true =>
  exfalso;unfold isLetter at h;unfold isBlank at hb;simp only[Bool.or_eq_true,Bool.and_eq_true,Nat.beq_eq,Nat.ble_eq] at h hb;omega
theorem qNH{w:LB}(hw:nameB w=true){r:LB}(hr:endW r)(f i:Nat)(acc:List Tok):toksGo (f+1) (w++r) i acc=toksGo f r (i+w.length) (acc++[⟨1,w,0,(i:Int)⟩]):=by
 cases w with
 |nil=>cases hw
 |cons c q =>
  unfold nameB at hw;simp only[Bool.and_eq_true,Nat.ble_eq,List.all_eq_true] at hw;obtain⟨⟨h1,h2⟩,h3⟩:=hw;have hk:runLen isBlank (c::(q++r))=0:=by simp[runLen,qMt _ h1]
  have hl:=qGy isWord (c::q) r h2 hr;have ho:oneM (c::(q++r))=⟨⟨1,c::q,0,0⟩,((c::q).length:Nat),0⟩:=by
   show(if isLetter c.toNat then wrdM (c::(q++r)) else _)=_;rw[if_pos h1];unfold wrdM;rw[show c::(q++r)=(c::q)++r from rfl,hl,if_neg (by omega),List.take_left'];rfl
  rw[List.cons_append,toksGo];simp only[hk,List.drop_zero];simp only[ho,Nat.add_zero,if_true,Int.toNat_natCast];rw[show(c::(q++r))=(c::q)++r from rfl,List.drop_left'];rfl
def sgnB(c:UInt8):Bool:=Nat.beq c.toNat 60||Nat.beq c.toNat 62||Nat.beq c.toNat 123||Nat.beq c.toNat 125||Nat.beq c.toNat 44||Nat.beq c.toNat 58||Nat.beq c.toNat 59||Nat.beq c.toNat 40||Nat.beq c.toNat 41||Nat.beq c.toNat 61
theorem qEY{c:UInt8}(h:sgnB c=true):c=60\/c=62\/c=123\/c=125\/c=44\/c=58\/c=59\/c=40\/c=41\/c=61:=by
 unfold sgnB at h;simp only[Bool.or_eq_true,Nat.beq_eq] at h
 rcases h with ((((((((h|h)|h)|h)|h)|h)|h)|h)|h)|h
 ·exact .inl (UInt8.toNat_inj.1 h)
 ·exact .inr (.inl (UInt8.toNat_inj.1 h))
 ·exact .inr (.inr (.inl (UInt8.toNat_inj.1 h)))
 ·exact .inr (.inr (.inr (.inl (UInt8.toNat_inj.1 h))))
 ·exact .inr (.inr (.inr (.inr (.inl (UInt8.toNat_inj.1 h)))))
 ·exact .inr (.inr (.inr (.inr (.inr (.inl (UInt8.toNat_inj.1 h))))))
 ·exact .inr (.inr (.inr (.inr (.inr (.inr (.inl (UInt8.toNat_inj.1 h)))))))
 ·exact .inr (.inr (.inr (.inr (.inr (.inr (.inr (.inl (UInt8.toNat_inj.1 h))))))))
 ·exact .inr (.inr (.inr (.inr (.inr (.inr (.inr (.inr (.inl (UInt8.toNat_inj.1 h)))))))))
 ·exact .inr (.inr (.inr (.inr (.inr (.inr (.inr (.inr (.inr (UInt8.toNat_inj.1 h)))))))))
theorem qPT{c:UInt8}(r:LB)(h1:isLetter c.toNat=false)(h2:isDigit c.toNat=false)(h3:c.toNat≠45)(h4:c.toNat≠34):oneM (c::r)=signM (c::r):=by
 have hn:numHead (c::r)=false:=by
  show(isDigit c.toNat||(decide (c.toNat=45)&&_))=false;rw[h2,decide_eq_false h3,Bool.false_and,Bool.or_false]
 show(if isLetter c.toNat=true then wrdM (c::r) else if numHead (c::r)=true then numberM (c::r) else if c.toNat=34 then textM (c::r) else signM (c::r))=_;rw[h1,hn,if_neg (by decide),if_neg (by decide),if_neg h4]
theorem qNj{c:UInt8}(hc:sgnB c=true)(r:LB)(hr:c=58->r.head?≠some 61)(f i:Nat)(acc:List Tok):toksGo (f+1) (c::r) i acc=toksGo f r (i+1) (acc++[⟨4,[c],0,(i:Int)⟩]):=by
 have ho:oneM (c::r)=⟨⟨4,[c],0,0⟩,1,0⟩:=by
  have h2:¬ (c::r).take 2=two2:=by
   intro e;cases r with
   |nil=>cases e
   |cons b t =>
    have e':[c,b]=[58,61]:=e;injection e' with e1 e2
    injection e2 with e2 e3
    exact hr e1 (by rw[e2]; rfl)
  rcases qEY hc with rfl|rfl|rfl|rfl|rfl|rfl|rfl|rfl|rfl|rfl
  all_goals
   rw[qPT r (by decide) (by decide) (by decide) (by decide)];unfold signM
   rw[if_neg (by
    intro e;cases r with
    |nil=>cases e
    |cons b t=>injection e with e1 e2; cases e1),if_neg h2]
   rfl
 have hk:runLen isBlank (c::r)=0:=by
  rcases qEY hc with rfl|rfl|rfl|rfl|rfl|rfl|rfl|rfl|rfl|rfl <;> rfl
 rw[toksGo];simp only[hk,List.drop_zero];simp only[ho,Nat.add_zero,if_true];rfl
theorem qLx(f:Nat)(s:LB)(i:Nat)(acc:List Tok):toksGo (f+1) (32::s) i acc=toksGo (f+1) s (i+1) acc:=by
 have e:runLen isBlank (32::s)=runLen isBlank s+1:=by simp[runLen]; rfl
 unfold toksGo;simp only[e,List.drop_succ_cons,show i+(runLen isBlank s+1)=i+1+runLen isBlank s by omega]
theorem qOt(f i:Nat)(acc:List Tok):toksGo f [] i acc = .ok acc:=by cases f <;> rfl
end Go.Proofs.YtnlmlcfipbnpgaaDoor.Ab
