/- Own work. Condition: what each theorem names. -/
import Derived.Test.YtnlmlcfipbnpgaaGreatDoorG0
set_option linter.all false
set_option maxRecDepth 100000
set_option maxHeartbeats 4000000
open Nat renaming reduceAdd->rA,reduceMul->rB,reduceLT->rC,reduceLeDiff->rD,reduceEqDiff->rE
open Int renaming reduceLT->rF,reduceLE->rG,reduceEq->rH,reduceToNat->rI
open Option renaming some.injEq->rJ,bind_eq_some_iff->rK,bind_eq_bind->rL
namespace Go.Proofs.YtnlmlcfipbnpgaaGreatDoor.Ab
open Go Go.AI
section
variable {α:Type} [K:SK α]
def UC(n:Nat)(hn:n<=1000)(x:α)(D:List α):∀ (V A:List α) (h:bm),(A++x::(V++D)).length=n->h.get (.im 0)=some (gR K (A++x::(V++D))) ->
  ca tab.get S K.fM 1 3 [sK K n,kI ((A.length+V.length+1:Nat):Int),kI (A.length:Int)] h=some (.dq [],[gR K (A++V++x::D)])
 |[],A,h,hl,M=>by
  have ad:A.length+1+D.length=n:=by rw[<- hl]; simp only[bV,di,fm]; omega
  have t:¬ (A.length:Int)<(A.length:Int):=bn
  have ew:IntKind.i64.wrap (((A.length+1:Nat):Int) - 1)=(A.length:Int):=by rw[UL _ bn bn]; rfl
  have fin:=sP true [] _ rfl M (nH _ 0);have e:A++x::([]++D)=A++[]++x::D:=bR
  rw[fm,gH,K.CZ,tD];simp only[bW,ew,t];rw[K.Gm,uF,fin,e];rfl
 |v::V,A,h,hl,M=>by
  have ad:A.length+1+(V.length+1+D.length)=n:=by rw[<- hl]; simp only[bV,di]; omega
  rw[qL] at hl M;have ea:A++x::v::(V++D)=A++x::([]++v::(V++D)):=rfl;rw[ea] at hl M;have U:AG K n (A++x::([]++v::(V++D))) A.length x:=FI hl bn x (ZM _ _ _)
  have B1:AG K n (A++x::([]++v::(V++D))) (A.length+1) v:=FI hl bn v (by
   have:=Oq (A++[x]) v (V++D) (A.length+1) bR
   rw[<- this]; simp)
  obtain⟨s1,s2,s3⟩:=Xw hl U B1;have sw:=Xx A [] (V++D) x v;rw[fm,gH] at sw;rw[sw] at s2;have aa:=bm.bX (o:=gR K ((A++x::([]++v::(V++D))).set A.length v)) M cb;have ab:=bm.bX (o:=gR K (A++v::([]++x::(V++D)))) aa cb;have eb:A++v::([]++x::(V++D))=(A++[v])++x::(V++D):=bR
  rw[eb] at ab s2;have ih:=UC n hn x D V (A++[v]) _ (by simp only[bV,di,fm]; omega) ab;have ec:A++[v]++V++x::D=A++v::V++x::D:=bR
  rw[ec] at ih;refine jD ?_ ih;have e1:(A++[v]).length=A.length+1:=bR
  rw[e1,di];have t:(A.length:Int)<((A.length+(V.length+1):Nat):Int):=bn
  have ew:IntKind.i64.wrap (((A.length+(V.length+1)+1:Nat):Int) - 1)=((A.length+(V.length+1):Nat):Int):=by rw[UL _ bn bn]; rfl
  have es:=yq A.length bn;have en:A.length+1+V.length+1=A.length+(V.length+1)+1:=bn
  rw[en,K.CZ,tD];simp only[bW,ew,es,t,U.lt,U.le,U.row,U.len,U.fit,B1.lt,B1.le,B1.row,B1.len,M,s1,s2,s3,aa,eV]
def UB(n:Nat)(hn:n<=1000)(y:α)(A:List α):∀ (k:Nat) (V D:List α) (h:bm),V.length=k->(A++V++y::D).length=n->h.get (.im 0)=some (gR K (A++V++y::D)) ->
  ca tab.get S K.fM 1 8 [sK K n,kI (A.length:Int),kI ((A.length+V.length:Nat):Int)] h=some (.dq [],[gR K (A++y::(V++D))])
 |0,V,D,h,hk,hl,hg=>by
  have e:=ku.1 hk;subst e;have t:¬ (A.length:Int)<(A.length:Int):=bn
  have fin:=sP true [] _ rfl hg (nH _ 0);have e:A++[]++y::D=A++y::([]++D):=bR
  rw[fm,gH,K.CW,tz];simp only[bW,t];rw[K.Gk,uC,fin,e];rfl
 |k+1,V,D,h,hk,hl,hg=>by
  obtain⟨W,u,rfl⟩:∃ W u,V=W++[u]:=by
   have:V≠[]:=λe=>by rw[e] at hk; cases hk
   exact⟨V.dropLast,V.getLast this,(Fp this).symm⟩
  have hW:W.length=k:=by rw[bV,gM] at hk; omega
  have ad:A.length+k+1+1+D.length=n:=by rw[<- hl,<- hW]; simp only[bV,di,fm]; omega
  have ea:A++(W++[u])++y::D=(A++W)++u::([]++y::D):=bR
  rw[ea] at hl hg;have M:(A++W).length=A.length+k:=by rw[bV,hW]
  have B0:AG K n ((A++W)++u::([]++y::D)) (A.length+k) u:=FI hl bn u (Oq _ _ _ _ M.symm)
  have U:AG K n ((A++W)++u::([]++y::D)) (A.length+k+1) y:=FI hl bn y (by
   have:=Oq (A++W++[u]) y D (A.length+k+1) (by rw[bV,M]; rfl)
   rw[<- this]; simp)
  obtain⟨s1,s2,s3⟩:=Xw hl U B0;have sw:=qJu (A++W) [] D u y (Xx _ _ _ _ _);rw[fm,gH,M] at sw;rw[sw] at s2;have aa:=bm.bX (o:=gR K ((A++W++u::([]++y::D)).set (A.length+k+1) u)) hg cb;have ab:=bm.bX (o:=gR K ((A++W)++y::([]++u::D))) aa cb;have ih:=UB n hn y A k W (u::D) _ hW (by rw[<- hl]; simp only[bV,di,fm]; omega) ab;have ec:A++y::(W++u::D)=A++y::(W++[u]++D):=bR
  rw[ec] at ih;refine jD ?_ ih;have hlen:((A.length+(W++[u]).length:Nat):Int)=((A.length+k+1:Nat):Int):=by rw[bV,gM,hW]; rfl
  have t:(A.length:Int)<((A.length+k+1:Nat):Int):=bn
  have ew:IntKind.i64.wrap (((A.length+k+1:Nat):Int) - 1)=((A.length+k:Nat):Int):=by rw[UL _ bn bn]; rfl
  rw[hlen,hW,K.CW,tz];simp only[bW,ew,t,B0.lt,B0.le,B0.row,B0.len,U.lt,U.le,U.row,U.len,U.fit,hg,s1,s2,s3,aa,eV]
def bs2(n:Nat)(hn:n<=1000)(A C:List α)(y:α):∀ (k:Nat) (U Xm X2:List α) (h:bm),Xm.length<=k->(A++(U++Xm++X2)++y::C).length=n->Ord (iI K) (U++Xm++X2)->(∀ x∈U,(iI K) y x=false)->(∀ x∈X2,(iI K) y x=true)->h.get (.im 0)=some (gR K (A++(U++Xm++X2)++y::C)) ->
  ∃ V1 V2,U++Xm++X2=V1++V2/\(∀ x∈V1,(iI K) y x=false)/\(∀ x∈V2,(iI K) y x=true)/\ca tab.get S K.fM 1 6 [sK K n,kI ((A.length+(U++Xm++X2).length:Nat):Int),(fF K),kI ((A.length+U.length:Nat):Int),kI ((A.length+U.length+Xm.length:Nat):Int)] h=ca tab.get S K.fM 1 7 [sK K n,kI ((A.length+(U++Xm++X2).length:Nat):Int),kI ((A.length+V1.length:Nat):Int)] h
 |k,U,[],X2,h,hk,hl,o,h1,h2,hg=>by
  refine⟨U,X2,bR,h1,h2,?_⟩;have t:¬ ((A.length+U.length:Nat):Int)<((A.length+U.length:Nat):Int):=bn
  rw[fm,gH,K.CX,tA];simp only[bW,t]
 |0,U,_::_,X2,h,hk,hl,o,h1,h2,hg=>by simp at hk
 |k+1,U,u::Xm,X2,h,hk,hl,o,h1,h2,hg=>by
  generalize hY:u::Xm=M at *;have hM:1<=M.length:=by rw[<- hY]; simp
  have ab:A.length+(U.length+M.length+X2.length)+1+C.length=n:=by rw[<- hl]; simp only[bV,di]; omega
  obtain⟨j,hj⟩:∃ j,j=(A.length+U.length+(A.length+U.length+M.length)) / 2:=⟨_,rfl⟩
  have j2:j<A.length+U.length+M.length:=bn
  obtain⟨M1,x,M2,e,hm⟩:∃ M1 x M2,M=M1++x::M2/\M1.length=j - (A.length+U.length):=by
   refine⟨M.take (j - (A.length+U.length)),M[j - (A.length+U.length)]'bn,M.drop (j - (A.length+U.length)+1),?_,by rw[ji]; omega⟩;rw[<- kV bn,mI]
  subst e;have ea:A++(U++(M1++x::M2)++X2)++y::C=(A++(U++M1))++x::(M2++X2++y::C):=bR
  have aa:(M1++x::M2).length=M1.length+1+M2.length:=by simp only[bV,di]; omega
  have ad:(U++(M1++x::M2)++X2).length=U.length+(M1.length+1+M2.length)+X2.length:=by rw[bV,bV,aa]
  rw[aa] at hk hM ab hj j2;have Bx:AG K n (A++(U++(M1++x::M2)++X2)++y::C) j x:=FI hl bn x (by rw[ea]; exact Oq _ _ _ _ (by simp only[bV]; omega));have By:AG K n (A++(U++(M1++x::M2)++X2)++y::C) (A.length+(U++(M1++x::M2)++X2).length) y:=FI hl (by rw[ad]; omega) y (Oq _ _ _ _ bV.symm);have hf:=λ{β:Type} {h:bm} {k:KO β}=>Xl (β:=β) (h:=h) (k:=k) (A.length+U.length) (A.length+U.length+(M1.length+1+M2.length)) bn bn
  rw[<- hj] at hf;have t:((A.length+U.length:Nat):Int)<((A.length+U.length+(M1.length+1+M2.length):Nat):Int):=bn
  have o':=o;rw[eH,eH] at o';have o1:=(iQ.1 (iQ.1 o').2.1);have step:∀ w:Nat,AG K n (A++(U++(M1++x::M2)++X2)++y::C) w y->ca tab.get S K.fM 1 6 [sK K n,kI (w:Int),(fF K),kI ((A.length+U.length:Nat):Int),kI ((A.length+U.length+(M1.length+1+M2.length):Nat):Int)] h =
    if cX (K.key y) (K.key x)=true then ca tab.get S K.fM 1 6 [sK K n,kI (w:Int),(fF K),kI ((A.length+U.length:Nat):Int),kI (j:Int)] h
    else ca tab.get S K.fM 1 6 [sK K n,kI (w:Int),(fF K),kI ((j+1:Nat):Int),kI ((A.length+U.length+(M1.length+1+M2.length):Nat):Int)] h:=by
   intro w By;have ew:=yq j bn;rw[K.CX,tA,qh,oP,bF (cI t),hf];cases hb:cX (K.key y) (K.key x)
   ·simp only[bW,ew,Bx.lt,Bx.le,Bx.row,Bx.len,By.lt,By.le,By.row,By.len,hg,Jy,JN,hb,gh,fC]
   ·simp only[bW,ew,Bx.lt,Bx.le,Bx.row,Bx.len,By.lt,By.le,By.row,By.len,hg,Jy,JN,hb,fx]
  have step:=step _ By;rw[aa,step];cases hb:cX (K.key y) (K.key x)
  ·rw[bA bu];have ec:U++(M1++x::M2)++X2=(U++M1++[x])++M2++X2:=bR
   rw[ec] at hl hg o ⊢
   obtain⟨V1,V2,q1,q2,q3,q4⟩:=bs2 n hn A C y k (U++M1++[x]) M2 X2 h bn hl o (λz hz=>by
    rcases fb.1 hz with hz|hz
    ·rcases fb.1 hz with hz|hz
     ·exact h1 z hz
     ·have oo:(iI K) x z=false:=o1.2.2 z hz x bR;exact(FV K) z x y oo hb
    ·rw[fY.1 hz]; exact hb) h2 hg
   refine⟨V1,V2,q1,q2,q3,?_⟩;rw[<- q4];have e1:A.length+(U++M1++[x]).length=j+1:=by simp only[bV,gM]; omega
   have e2:j+1+M2.length=A.length+U.length+(M1.length+1+M2.length):=bn
   rw[e1,e2]
  ·rw[bF rfl];have ec:U++(M1++x::M2)++X2=U++M1++(x::M2++X2):=bR
   rw[ec] at hl hg o ⊢
   obtain⟨V1,V2,q1,q2,q3,q4⟩:=bs2 n hn A C y k U M1 (x::M2++X2) h bn hl o h1 (λz hz=>by
    rcases dK.1 hz with rfl|hz
    ·exact hb
    ·rcases fb.1 hz with hz|hz
     ·have oo:(iI K) z x=false:=(kv.1 o1.2.1).1 z (fb.2 (.inl hz));cases hc:(iI K) y z
      ·have:=(FV K) x z y oo hc;rw[show(iI K) y x=true from hb] at this; cases this
      ·rfl
     ·exact h2 z hz) hg
   refine⟨V1,V2,q1,q2,q3,?_⟩;rw[<- q4];have:A.length+U.length+M1.length=j:=bn
   rw[this]
def vD(K:SK α)(l:List α)(p c:Nat):Bool:=match l[p - c]?,l[c]? with
 |some u,some v=>(iI K) u v
 |_,_=>true
def bs3(N:Nat)(hN:N<=1000)(l:List α)(hl:l.length=N)(a m b A nn lo hi p:Nat)(hp:p<=3000)(hr:∀ c,lo<=c->c<hi->c<=p/\p - c<N/\c<N)(aa:hi<=N)(h:bm)(hg:h.get (.im 0)=some (gR K l)):∀ (k s r:Nat),r - s<=k->lo<=s->s<=r->r<=hi->(s=lo\/vD K l p (s - 1)=false)->(r=hi\/vD K l p r=true) ->
  ∃ t,lo<=t/\t<=hi/\(t=lo\/vD K l p (t - 1)=false)/\(t=hi\/vD K l p t=true) /\
   ca tab.get S K.fM 1 12 [sK K N,kI (a:Int),kI (m:Int),kI (b:Int),(fF K),kI (A:Int),kI (nn:Int),kI (s:Int),kI (r:Int),kI (p:Int)] h=ca tab.get S K.fM 1 13 [sK K N,kI (a:Int),kI (m:Int),kI (b:Int),(fF K),kI (A:Int),kI (nn:Int),kI (t:Int)] h
 |k,s,r,hk,h1,h2,h3,i1,i2=>by
  by_cases e:s=r
  ·subst e;refine⟨s,h1,h3,i1,i2,?_⟩;have t:¬ (s:Int)<(s:Int):=bn
   rw[K.v8,nP];simp only[bW,t]
  ·cases k with
   |zero=>omega
   |succ k =>
    have t:(s:Int)<(r:Int):=bn
    obtain⟨c,hc⟩:∃ c,c=(s+r) / 2:=⟨_,rfl⟩;have c1:s<=c:=bn
    obtain⟨q1,q2,q3⟩:=hr c bn bn;obtain⟨u,M⟩:=WO N l hl (p - c) q2;obtain⟨v,U⟩:=WO N l hl c q3;have hf:=λ{β:Type} {h:bm} {k:KO β}=>Xl (β:=β) (h:=h) (k:=k) s r bn bn
    rw[<- hc] at hf;have ew:=yq c bn;have es:=Ca p c bn q1;have hs:vD K l p c=cX (K.key u) (K.key v):=by unfold vD; rw[M.get,U.get]; rfl
    cases hb:cX (K.key u) (K.key v)
    ·obtain⟨t',r1,r2,r3,r4,r5⟩:=bs3 N hN l hl a m b A nn lo hi p hp hr aa h hg k (c+1) r bn bn bn h3 (.inr (by rw[Ap,hs,hb])) i2;refine⟨t',r1,r2,r3,r4,?_⟩;rw[<- r5,K.v8,nP,qh,oP,bF (cI t),hf];simp only[bW,ew,es,M.lt,M.le,M.row,M.len,U.lt,U.le,U.row,U.len,hg,Jy,JN,hb]
    ·obtain⟨t',r1,r2,r3,r4,r5⟩:=bs3 N hN l hl a m b A nn lo hi p hp hr aa h hg k s c bn h1 c1 bn i1 (.inr (by rw[hs,hb]));refine⟨t',r1,r2,r3,r4,?_⟩;rw[<- r5,K.v8,nP,qh,oP,bF (cI t),hf];simp only[bW,ew,es,M.lt,M.le,M.row,M.len,U.lt,U.le,U.row,U.len,hg,Jy,JN,hb]
end
section
variable {α:Type} [K:SK α]
def qaa{β:Type}{k:KO β}{h:bm}{d:Nat}(n a m b:Nat)(l l':List α)(hc:Om K.fR [sK K n,kI (a:Int),kI (m:Int),kI (b:Int),(fF K)] [gR K l]=some (.dq [],[gR K l']))(A:h.get (.im 0)=some (gR K l)):bE Om (.v (.c (.func K.fR []))) [sK K n,kI (a:Int),kI (m:Int),kI (b:Int),(fF K)] h d k=k (.dq []) (h.put (.im 0) (gR K l')) :=
 JJ K.fR (.im 0) [sK K n,kI (a:Int),kI (m:Int),kI (b:Int),(fF K)] _ _ _ _ rfl rfl rfl A (nH _ 0) (nH _ 0) (λ_=>rfl) hc
def W8{β:Type}{k:KO β}{h:bm}{d:Nat}(n a m b:Nat)(l l':List α)(hc:Om K.fM [sK K n,kI (a:Int),kI (m:Int),kI (b:Int),(fF K)] [gR K l]=some (.dq [],[gR K l']))(A:h.get (.im 0)=some (gR K l)):bE Om (.v (.c (.func K.fM []))) [sK K n,kI (a:Int),kI (m:Int),kI (b:Int),(fF K)] h d k=k (.dq []) (h.put (.im 0) (gR K l')) :=
 JJ K.fM (.im 0) [sK K n,kI (a:Int),kI (m:Int),kI (b:Int),(fF K)] _ _ _ _ rfl rfl rfl A (nH _ 0) (nH _ 0) (λ_=>rfl) hc
def y0(K:SK α)(n f:Nat):Prop:=∀ X Y A C:List α,X.length+Y.length<=f->1<=X.length->1<=Y.length->Ord (iI K) X->Ord (iI K) Y->(A++X++Y++C).length=n ->
 ∃ Z,wx (iI K) X Y Z/\Om K.fM [sK K n,kI (A.length:Int),kI ((A.length+X.length:Nat):Int),kI ((A.length+X.length+Y.length:Nat):Int),(fF K)] [gR K (A++X++Y++C)]=some (.dq [],[gR K (A++Z++C)])
def qXm(n f:Nat)(hn:n<=1000)(ih:y0 K n f)(A X Y C:List α)(hf:X.length+Y.length<=f)(oX:Ord (iI K) X)(oY:Ord (iI K) Y)(h:bm)(hl:(A++X++Y++C).length=n)(U:h.get (.im 0)=some (gR K (A++X++Y++C))) :
  ∃ Z,wx (iI K) X Y Z/\ca tab.get S K.fM 1 15 [sK K n,kI ((A.length+X.length+Y.length:Nat):Int),(fF K),kI (A.length:Int),kI ((A.length+X.length:Nat):Int)] h=some (.dq [],[gR K (A++Z++C)]):=by
 by_cases hx:1<=X.length
 ·by_cases hy:1<=Y.length
  ·obtain⟨Z,M,e⟩:=ih X Y A C hf hx hy oX oY hl;refine⟨Z,M,?_⟩;have c:=λ{β:Type} {k:KO β} {d:Nat}=>W8 (k:=k) (d:=d) n A.length (A.length+X.length) (A.length+X.length+Y.length) _ _ e U
   have fin:=sP true [] _ rfl (bm.bX (o:=gR K (A++Z++C)) U cb) (nH _ 0);have t1:(A.length:Int)<((A.length+X.length:Nat):Int):=bn
   have t2:((A.length+X.length:Nat):Int)<((A.length+X.length+Y.length:Nat):Int):=bn
   rw[K.vY,nL];simp only[bW,t1,t2,c,fin,oneOf]
  ·have ey:Y=[]:=ku.1 bn;subst ey;refine⟨X,qTk (iI K) X oX,?_⟩;have fin:=sP true [] _ rfl U (nH _ 0);have e:A++X++[]++C=A++X++C:=bR
   have t1:(A.length:Int)<((A.length+X.length:Nat):Int):=bn
   have t2:¬ ((A.length+X.length:Nat):Int)<((A.length+X.length:Nat):Int):=bn
   rw[e] at fin;rw[fm,gH,K.vY,nL];simp only[bW,t1,t2,fin,oneOf]
 ·have ex:X=[]:=ku.1 bn;subst ex;refine⟨Y,qTn (iI K) Y oY,?_⟩;have fin:=sP true [] _ rfl U (nH _ 0);have e:A++[]++Y++C=A++Y++C:=bR
  have t1:¬ (A.length:Int)<(A.length:Int):=bn
  rw[e] at fin;rw[fm,gH,K.vY,nL];simp only[bW,t1,fin,oneOf]
def qX1(n f:Nat)(hn:n<=1000)(ih:y0 K n f)(A M U X2 Y2 C:List α)(ag:M.length+U.length<=f)(ah:X2.length+Y2.length<=f)(ad:Ord (iI K) M)(ae:Ord (iI K) U)(ai:Ord (iI K) X2)(aj:Ord (iI K) Y2)(h:bm)
  (hl:(A++M++U++X2++Y2++C).length=n) (hg:h.get (.im 0)=some (gR K (A++M++U++X2++Y2++C))) (aa en b:Nat) (af:aa=A.length+M.length+U.length) (ak:en=aa+X2.length) (hb:b=en+Y2.length) :
  ∃ Z1 Z2,wx (iI K) M U Z1/\wx (iI K) X2 Y2 Z2/\ca tab.get S K.fM 1 14 [sK K n,kI (A.length:Int),kI (b:Int),(fF K),kI (aa:Int),kI ((A.length+M.length:Nat):Int),kI (en:Int)] h=some (.dq [],[gR K (A++Z1++Z2++C)]):=by
 have ab:∀ (Z1:List α) (h1:bm),wx (iI K) M U Z1->h1.get (.im 0)=some (gR K (A++Z1++(X2++Y2++C))) ->
   ∃ Z2,wx (iI K) X2 Y2 Z2/\ca tab.get S K.fM 1 15 [sK K n,kI (b:Int),(fF K),kI (aa:Int),kI (en:Int)] h1=some (.dq [],[gR K (A++Z1++Z2++C)]):=by
  intro Z1 h1 M1 g1;have lZ:=M1.len;have el:(A++Z1).length=aa:=by rw[bV,lZ]; omega
  have e1:A++Z1++(X2++Y2++C)=(A++Z1)++X2++Y2++C:=bR
  rw[e1] at g1;obtain⟨Z2,M2,e2⟩:=qXm n f hn ih (A++Z1) X2 Y2 C ah ai aj h1 (by rw[<- hl]; simp only[bV,lZ]; omega) g1;rw[el,<- ak,<- hb] at e2;exact⟨Z2,M2,e2⟩
 by_cases hx:1<=M.length
 ·have t1:(A.length:Int)<((A.length+M.length:Nat):Int):=bn
  by_cases hy:1<=U.length
  ·have t2:((A.length+M.length:Nat):Int)<(aa:Int):=bn
   have ea:A++M++U++X2++Y2++C=A++M++U++(X2++Y2++C):=bR
   rw[ea] at hl hg;obtain⟨Z1,M1,e⟩:=ih M U A (X2++Y2++C) ag hx hy ad ae hl;have c:=λ{β:Type} {k:KO β} {d:Nat}=>W8 (k:=k) (d:=d) n A.length (A.length+M.length) (A.length+M.length+U.length) _ _ e hg
   rw[<- af] at c;obtain⟨Z2,M2,e2⟩:=ab Z1 _ M1 (bm.bX hg cb);refine⟨Z1,Z2,M1,M2,?_⟩;rw[<- e2,K.vZ,nN];simp only[bW,t1,t2,c]
  ·have ey:U=[]:=ku.1 bn;have t2:¬ ((A.length+M.length:Nat):Int)<(aa:Int):=bn
   have M1:wx (iI K) M U M:=by rw[ey]; exact qTk (iI K) M ad
   obtain⟨Z2,M2,e2⟩:=ab M h M1 (by rw[hg,ey]; simp);refine⟨M,Z2,M1,M2,?_⟩;rw[<- e2,K.vZ,nN];simp only[bW,t1,t2]
 ·have ex:M=[]:=ku.1 bn;have t1:¬ (A.length:Int)<((A.length+M.length:Nat):Int):=bn
  have M1:wx (iI K) M U U:=by rw[ex]; exact qTn (iI K) U ae
  obtain⟨Z2,M2,e2⟩:=ab U h M1 (by rw[hg,ex]; simp);refine⟨U,Z2,M1,M2,?_⟩;rw[<- e2,K.vZ,nN];simp only[bW,t1]
def qXE(n f:Nat)(hn:n<=1000)(ih:y0 K n f)(A X1 Y1 U Y2 C:List α)(af:X1.length+Y1.length<=f)(ag:U.length+Y2.length<=f)(oX:Ord (iI K) (X1++U))(oY:Ord (iI K) (Y1++Y2))
  (h1:∀ p q,X1.getLast?=some p->Y2.head?=some q->(iI K) q p=false) (h2:∀ p q,Y1.getLast?=some p->U.head?=some q->(iI K) q p=false) (h:bm)
  (hl:(A++(X1++U)++(Y1++Y2)++C).length=n) (hg:h.get (.im 0)=some (gR K (A++(X1++U)++(Y1++Y2)++C))) (aa m b st nn:Nat) (ab:aa=A.length+X1.length+Y1.length) (hm:m=A.length+X1.length+U.length) (hb:b=m+(Y1.length+Y2.length)) (ah:st=A.length+X1.length) (ai:nn=aa+m) :
  ∃ Z,wx (iI K) (X1++U) (Y1++Y2) Z/\ca tab.get S K.fM 1 13 [sK K n,kI (A.length:Int),kI (m:Int),kI (b:Int),(fF K),kI (aa:Int),kI (nn:Int),kI (st:Int)] h=some (.dq [],[gR K (A++Z++C)]):=by
 have ad:=iQ.1 oX;have ae:=iQ.1 oY;have aj:A.length+(X1.length+U.length)+(Y1.length+Y2.length)+C.length=n:=by rw[<- hl]; simp only[bV]
 have es:IntKind.i64.wrap ((nn:Int) - (st:Int))=((aa+U.length:Nat):Int):=by rw[Ca nn st bn bn]; congr 1; omega
 have go:∀ h':bm,h'.get (.im 0)=some (gR K (A++X1++Y1++U++Y2++C))->∃ Z,wx (iI K) (X1++U) (Y1++Y2) Z/\ca tab.get S K.fM 1 14 [sK K n,kI (A.length:Int),kI (b:Int),(fF K),kI (aa:Int),kI (st:Int),kI ((aa+U.length:Nat):Int)] h'=some (.dq [],[gR K (A++Z++C)]):=by
  intro h' g';obtain⟨Z1,Z2,M1,M2,e⟩:=qX1 n f hn ih A X1 Y1 U Y2 C af ag ad.1 ae.1 ad.2.1 ae.2.1 h' (by rw[<- hl]; simp only[bV]; omega) g' aa (aa+U.length) b ab rfl bn;refine⟨Z1++Z2,qXv (iI K) (FV K) (qMa K) X1 U Y1 Y2 Z1 Z2 oX oY h1 h2 M1 M2,?_⟩;rw[ah,e,eH A Z1 Z2]
 by_cases hx:1<=U.length
 ·have t1:(st:Int)<(m:Int):=bn
  by_cases hy:1<=Y1.length
  ·have t2:(m:Int)<((aa+U.length:Nat):Int):=bn
   have ea:A++(X1++U)++(Y1++Y2)++C=(A++X1)++U++Y1++(Y2++C):=bR
   rw[ea] at hl hg;have e:=qQp n hn U Y1 (A++X1) (Y2++C) hx hy hl;have a1:(A++X1).length=st:=by rw[bV]; omega
   have a2:st+U.length=m:=bn
   have a3:m+Y1.length=aa+U.length:=bn
   rw[a1,a2,a3] at e;have c:=λ{β:Type} {k:KO β} {d:Nat}=>qaa (k:=k) (d:=d) n st m (aa+U.length) _ _ e hg
   obtain⟨Z,M,e'⟩:=go (h.put (.im 0) (gR K ((A++X1)++Y1++U++(Y2++C)))) (by
    have e2:(A++X1)++Y1++U++(Y2++C)=A++X1++Y1++U++Y2++C:=bR
    rw[<- e2]
    exact bm.bX hg cb)
   refine⟨Z,M,?_⟩;rw[<- e',K.v7,nO];simp only[bW,es,t1,t2,c]
  ·have ey:Y1=[]:=ku.1 bn;have t2:¬ (m:Int)<((aa+U.length:Nat):Int):=bn
   obtain⟨Z,M,e'⟩:=go h (by rw[hg,ey]; simp);refine⟨Z,M,?_⟩;rw[<- e',K.v7,nO];simp only[bW,es,t1,t2]
 ·have ex:U=[]:=ku.1 bn;have t1:¬ (st:Int)<(m:Int):=bn
  obtain⟨Z,M,e'⟩:=go h (by rw[hg,ex]; simp);refine⟨Z,M,?_⟩;rw[<- e',K.v7,nO];simp only[bW,es,t1]
def qTd(A X R:List α)(i:Nat)(hi:i<X.length):(A++X++R)[A.length+i]?=X[i]?:=by
 rw[eH,kz bn,Ln,j5 hi]
def qJP(X:List α)(k:Nat)(p:α)(h:(X.take k).getLast?=some p):1<=(X.take k).length/\X[(X.take k).length - 1]?=some p:=by
 have A:X.take k≠[]:=λe=>by rw[e] at h; cases h
 have hl:=xK.2 A;refine⟨hl,?_⟩;rw[List.getLast?_eq_getElem?,Fc (by rw[ji] at hl ⊢; omega)] at h;exact h
def qJY(X:List α)(k:Nat)(p:α)(h:(X.drop k).head?=some p):X[k]?=some p/\k<X.length:=by
 rw[List.head?_drop] at h;exact⟨h,(cQ.1 h).1⟩
def qXc(n f:Nat)(hn:n<=1000)(ih:y0 K n f)(A X Y C:List α)(hX:2<=X.length)(hY:2<=Y.length)(hf:X.length+Y.length<=f+1)(oX:Ord (iI K) X)(oY:Ord (iI K) Y)(h:bm)(hl:(A++X++Y++C).length=n)(hg:h.get (.im 0)=some (gR K (A++X++Y++C))) :
  ∃ Z,wx (iI K) X Y Z/\ca tab.get S K.fM 1 10 [sK K n,kI (A.length:Int),kI ((A.length+X.length:Nat):Int),kI ((A.length+X.length+Y.length:Nat):Int),(fF K)] h=some (.dq [],[gR K (A++Z++C)]):=by
 have al:A.length+X.length+Y.length+C.length=n:=by rw[<- hl]; simp only[bV]
 obtain⟨m,hm⟩:∃ m,m=A.length+X.length:=⟨_,rfl⟩;obtain⟨b,hb⟩:∃ b,b=A.length+X.length+Y.length:=⟨_,rfl⟩;obtain⟨U,ae⟩:∃ U,U=(A.length+b) / 2:=⟨_,rfl⟩;obtain⟨lo,aa⟩:∃ lo,lo=if U<m then U+m - b else A.length:=⟨_,rfl⟩
 obtain⟨hi,ab⟩:∃ hi,hi=if U<m then U else m:=⟨_,rfl⟩
 have ak:A.length<=lo/\lo<=hi/\hi<=m/\hi<=U/\(lo=A.length\/U+m - lo=b)/\U+m<=lo+b/\(hi=m\/hi=U):=by
  rw[aa,ab]; split <;> omega
 obtain⟨l1,l2,l3,l4,l5,l6,l7⟩:=ak;have gx:∀ i,i<X.length->(A++X++Y++C)[A.length+i]?=X[i]?:=λi hi=>by rw[eH (A++X)]; exact qTd A X (Y++C) i hi
 have gy:∀ i,i<Y.length->(A++X++Y++C)[m+i]?=Y[i]?:=λi hi=>by
  have:=qTd (A++X) Y C i hi;rw[bV,<- hm] at this;exact this
 have step:∃ t,lo<=t/\t<=hi/\(t=lo\/vD K (A++X++Y++C) (U+m - 1) (t - 1)=false)/\(t=hi\/vD K (A++X++Y++C) (U+m - 1) t=true) /\
   ca tab.get S K.fM 1 10 [sK K n,kI (A.length:Int),kI (m:Int),kI (b:Int),(fF K)] h=ca tab.get S K.fM 1 13 [sK K n,kI (A.length:Int),kI (m:Int),kI (b:Int),(fF K),kI (U:Int),kI ((U+m:Nat):Int),kI (t:Int)] h:=by
  obtain⟨t,r1,r2,r3,r4,r5⟩:=bs3 n hn (A++X++Y++C) hl A.length m b U (U+m) lo hi (U+m - 1) bn (λc c1 c2=>bn) bn h hg (hi - lo) lo hi (cB _) (cB _) l2 (cB _) (.inl rfl) (.inl rfl);refine⟨t,r1,r2,r3,r4,?_⟩;have hf:=λ{β:Type} {h:bm} {k:KO β}=>Xl (β:=β) (h:=h) (k:=k) A.length b bn bn
  rw[<- ae] at hf;have ea:IntKind.i64.wrap ((U:Int)+(m:Int))=((U+m:Nat):Int):=JC U m bn bn;have ep:IntKind.i64.wrap (((U+m:Nat):Int) - 1)=((U+m - 1:Nat):Int):=UL _ bn bn;rw[<- r5,K.AM,pz,hf];by_cases af:U<m
  ·have t1:(U:Int)<(m:Int):=bn
   rw[bF af] at aa ab;have eb:IntKind.i64.wrap (((U+m:Nat):Int) - (b:Int))=(lo:Int):=by rw[Ca _ _ bn bn,aa]
   subst ab;simp only[bW,ea,t1,eb];rw[K.yj,oR];simp only[bW,ep]
  ·have t1:¬ (U:Int)<(m:Int):=bn
   rw[bA af] at aa ab;subst ab;subst aa;simp only[bW,ea,t1];rw[K.yj,oR];simp only[bW,ep]
 obtain⟨t,t1,t2,t3,t4,t5⟩:=step;rw[<- hm,show m+Y.length=b by omega,t5];have sX:=mI (t - A.length) X;have sY:=mI (U - t) Y;have x1:(X.take (t - A.length)).length=t - A.length:=by rw[ji]; omega
 have x2:(X.drop (t - A.length)).length=m - t:=by rw[j0]; omega
 have y1:(Y.take (U - t)).length=U - t:=by rw[ji]; omega
 have y2:(Y.drop (U - t)).length=b - m - (U - t):=by rw[j0]; omega
 have c1:∀ p q,(X.take (t - A.length)).getLast?=some p->(Y.drop (U - t)).head?=some q->(iI K) q p=false:=by
  intro p q hp hq;obtain⟨p1,p2⟩:=qJP _ _ _ hp;obtain⟨q1,q2⟩:=qJY _ _ _ hq;rw[x1] at p1 p2;have ad:t≠lo:=by
   intro e
   rcases l5 with l5|l5 <;> omega
  rcases t3 with t3|t3
  ·exact absurd t3 ad
  ·have g1:=gx (t - A.length - 1) bn;have g2:=gy (U - t) q2;rw[p2,show A.length+(t - A.length - 1)=t - 1 by omega] at g1;rw[q1,show m+(U - t)=U+m - 1 - (t - 1) by omega] at g2;unfold vD at t3;rw[g1,g2] at t3;exact t3
 have c2:∀ p q,(Y.take (U - t)).getLast?=some p->(X.drop (t - A.length)).head?=some q->(iI K) q p=false:=by
  intro p q hp hq;obtain⟨p1,p2⟩:=qJP _ _ _ hp;obtain⟨q1,q2⟩:=qJY _ _ _ hq;rw[y1] at p1 p2;have ad:t≠hi:=by
   intro e
   rcases l7 with l7|l7 <;> omega
  rcases t4 with t4|t4
  ·exact absurd t4 ad
  ·have g1:=gx (t - A.length) q2;have g2:=gy (U - t - 1) bn;rw[q1,show A.length+(t - A.length)=t by omega] at g1;rw[p2,show m+(U - t - 1)=U+m - 1 - t by omega] at g2;unfold vD at t4;rw[g1,g2] at t4;exact(UZ K) _ _ t4
 have ag:=oX;have ah:=oY;rw[<- sX] at ag;rw[<- sY] at ah;have ai:=hl;have aj:=hg;rw[<- sX,<- sY] at ai aj;obtain⟨Z,M,e⟩:=qXE n f hn ih A (X.take (t - A.length)) (Y.take (U - t)) (X.drop (t - A.length)) (Y.drop (U - t)) C bn bn ag ah c1 c2 h ai aj U m b t (U+m) bn bn bn bn rfl;rw[sX,sY] at M;exact⟨Z,M,e⟩
def ZW(n:Nat)(hn:n<=1000):∀ f,y0 K n f
 |0=>λX Y A C hf hx hy _ _ _=>bn
 |f+1=>λX Y A C hf hx hy oX oY hl=>by
  have ih:=ZW n hn f;have ad:A.length+X.length+Y.length+C.length=n:=by rw[<- hl]; simp only[bV]
  have e0:Om K.fM [sK K n,kI (A.length:Int),kI ((A.length+X.length:Nat):Int),kI ((A.length+X.length+Y.length:Nat):Int),(fF K)] [gR K (A++X++Y++C)]=ca tab.get S K.fM 1 0 [sK K n,kI (A.length:Int),kI ((A.length+X.length:Nat):Int),kI ((A.length+X.length+Y.length:Nat):Int),(fF K)] (Cn K (A++X++Y++C)):=gD (K.nM _ _);have aa:IntKind.i64.wrap (((A.length+X.length:Nat):Int) - (A.length:Int))=(X.length:Int):=by rw[Ca _ _ bn bn]; congr 1; omega
  have ab:IntKind.i64.wrap (((A.length+X.length+Y.length:Nat):Int) - ((A.length+X.length:Nat):Int))=(Y.length:Int):=by rw[Ca _ _ bn bn]; congr 1; omega
  rw[e0];have hg:(Cn K (A++X++Y++C)).get (.im 0)=some (gR K (A++X++Y++C)):=rfl;generalize Cn K (A++X++Y++C)=h at hg ⊢;by_cases h1:X.length=1
  ·obtain⟨x,rfl⟩:=Fm.1 h1;have ea:A++[x]++Y++C=A++x::([]++Y++[])++C:=bR
   rw[ea] at hl hg;obtain⟨U,V2,q1,q2,q3,q4⟩:=bs1 n hn A C x Y.length [] Y [] h (cB _) hl (by simpa using oY) (λy hy=>by cases hy) (λy hy=>by cases hy) hg;rw[kK,fa] at q1;subst q1;refine⟨U++x::V2,qXd (iI K) (UZ K) (FV K) x U V2 oY q2 q3,?_⟩;have t:((1:Nat):Int)=1:=rfl;have eg:A++x::([]++(U++V2)++[])++C=A++x::(U++(V2++C)):=bR
   rw[eg] at hg hl;have sh:=UC n hn x (V2++C) U A h hl hg;have er:A++U++x::(V2++C)=A++(U++x::V2)++C:=bR
   rw[er] at sh;rw[<- sh,K.BW,sq,FP,aa];rw[show A.length+U.length+1=A.length+1+U.length by omega];rw[gM] at *;simp only[bW,t];rw[fm,gH] at q4;refine q4.trans ?_;rw[K.Gn,uG]
  ·have t:¬ (X.length:Int)=1:=bn
   by_cases h2:Y.length=1
   ·obtain⟨y,rfl⟩:=Fm.1 h2;have ea:A++X++[y]++C=A++([]++X++[])++y::C:=bR
    rw[ea] at hl hg;obtain⟨U,V2,q1,q2,q3,q4⟩:=bs2 n hn A C y X.length [] X [] h (cB _) hl (by simpa using oX) (λy hy=>by cases hy) (λy hy=>by cases hy) hg;rw[kK,fa] at q1 q4;subst q1;refine⟨U++y::V2,qTu (iI K) (UZ K) (FV K) y U V2 oX q2 q3,?_⟩;have t2:((1:Nat):Int)=1:=rfl;have eg:A++([]++(U++V2)++[])++y::C=(A++U)++V2++y::C:=bR
    rw[eg] at hg hl;have sh:=UB n hn y (A++U) V2.length V2 C h rfl hl hg;have er:A++U++y::(V2++C)=A++(U++y::V2)++C:=bR
    rw[er,bV] at sh;rw[<- sh,K.BW,sq,FP,aa];simp only[bW,t];rw[gM] at ab;rw[K.CY,tB,FP,ab];simp only[bW,t2];rw[fm,gH] at q4;refine q4.trans ?_;rw[K.Gl,uD,bV,n5]
   ·have t2:¬ (Y.length:Int)=1:=bn
    obtain⟨Z,M,e⟩:=qXc n f hn ih A X Y C bn bn hf oX oY h hl hg;refine⟨Z,M,?_⟩;rw[<- e,K.BW,sq,FP,aa];simp only[bW,t];rw[K.CY,tB,FP,ab];simp only[bW,t2]
end
def XH{α:Type}(s:Nat):∀ (Bs:List (List α)),(∀ B∈Bs,B.length=s)->Bs.flatten.length=s*Bs.length
 |[],_=>rfl
 |B::Bs,h=>by
  rw[vb,bV,h B bR,XH s Bs (λX A=>h X (by simp[A])),di,xJ]; omega
section
variable {α:Type} [K:SK α]
structure RN (K:SK α) (s:Nat) (Bs:List (List α)) (T:List α):Prop where
 all:∀ B∈Bs,B.length=s/\Ord (iI K) B
 len:T.length<s
 ord:Ord (iI K) T
def Uz(n:Nat)(hn:n<=1000):∀ (m:Nat) (Bs:List (List α)) (R:List α) (h:bm),R.length<=m->(∀ B∈Bs,B.length=20/\Ord (iI K) B)->(Bs.flatten++R).length=n->h.get (.im 0)=some (gR K (Bs.flatten++R)) ->
  ∃ h' A T,RN K 20 A T/\(A.flatten++T).Perm (Bs.flatten++R)/\h'.get (.im 0)=some (gR K (A.flatten++T))/\ca tab.get S K.fT 1 1 [sK K n,kI (n:Int),(fF K),kI 20,kI (Bs.flatten.length:Int),kI ((Bs.flatten.length+20:Nat):Int)] h=ca tab.get S K.fT 1 3 [sK K n,kI (n:Int),(fF K),kI 20] h'
 |m,Bs,R,h,hm,hB,hl,M=>by
  have aa:Bs.flatten.length+R.length=n:=by rw[<- hl,bV]
  by_cases hR:20<=R.length
  ·cases m with
   |zero=>omega
   |succ m =>
    have sR:=mI 20 R;have r1:(R.take 20).length=20:=by rw[ji]; omega
    have r2:(R.drop 20).length=R.length - 20:=j0;have U:Bs.flatten++R=Bs.flatten++R.take 20++R.drop 20:=by rw[eH,sR]
    rw[U] at hl M;obtain⟨Z,o,p,e⟩:=qPV n hn Bs.flatten (R.take 20) (R.drop 20) hl;rw[r1] at e;have c:=λ{β:Type} {k:KO β} {d:Nat}=>Vt (k:=k) (d:=d) n _ _ _ _ e M
    have lZ:Z.length=20:=by rw[p.length_eq,r1]
    have ef:(Bs++[Z]).flatten=Bs.flatten++Z:=bR
    obtain⟨h',A,T,b,p',g',e'⟩:=Uz n hn m (Bs++[Z]) (R.drop 20) (h.put (.im 0) (gR K (Bs.flatten++Z++R.drop 20))) bn (λB hb=>by
     rcases fb.1 hb with hb|hb
     ·exact hB B hb
     ·rw[fY.1 hb]; exact⟨lZ,o⟩) (by rw[ef,<- hl]; simp only[bV,lZ,r1]) (by rw[ef]; exact bm.bX M cb)
    refine⟨h',A,T,b,p'.trans ?_,g',?_⟩
    ·rw[ef,U];exact(p.append_left Bs.flatten).append_right _
    ·rw[ef,bV,lZ] at e';rw[<- e',K.CU,tv];have t:¬ (n:Int)<((Bs.flatten.length+20:Nat):Int):=bn
     have ew:IntKind.i64.wrap (((Bs.flatten.length+20:Nat):Int)+20)=((Bs.flatten.length+20+20:Nat):Int):=by rw[jZ _ bn bn]; omega
     simp only[bW,t,c,ew]
  ·have U:Bs.flatten++R=Bs.flatten++R++[]:=by rw[fa]
   rw[U] at hl M;obtain⟨Z,o,p,e⟩:=qPV n hn Bs.flatten R [] hl;rw[aa] at e;have c:=λ{β:Type} {k:KO β} {d:Nat}=>Vt (k:=k) (d:=d) n _ _ _ _ e M
   refine⟨h.put (.im 0) (gR K (Bs.flatten++Z++[])),Bs,Z,⟨hB,by rw[p.length_eq]; omega,o⟩,p.append_left _,?_,?_⟩
   ·rw[fa]; exact bm.bX M cb
   ·have t:(n:Int)<((Bs.flatten.length+20:Nat):Int):=bn
    rw[K.CU,tv];simp only[bW,t];rw[K.Ge,uw];simp only[c]
def Ux(n:Nat)(hn:n<=1000)(s:Nat)(hs:1<=s)(ad:s<=1000)(T:List α)(hT:T.length<s)(oT:Ord (iI K) T):∀ (m:Nat) (A Bs:List (List α)) (h:bm),Bs.length<=m->(∀ B∈A,B.length=2*s/\Ord (iI K) B)->(∀ B∈Bs,B.length=s/\Ord (iI K) B)->(A.flatten++Bs.flatten++T).length=n->h.get (.im 0)=some (gR K (A.flatten++Bs.flatten++T)) ->
  ∃ h' aa T',RN K (2*s) aa T'/\(aa.flatten++T').Perm (A.flatten++Bs.flatten++T)/\h'.get (.im 0)=some (gR K (aa.flatten++T'))/\ca tab.get S K.fT 1 4 [sK K n,kI (n:Int),(fF K),kI (s:Int),kI (A.flatten.length:Int),kI ((A.flatten.length+2*s:Nat):Int)] h=ca tab.get S K.fT 1 6 [sK K n,kI (n:Int),(fF K),kI (s:Int)] h'
 |m,A,B1::B2::Bs,h,hm,hD,hB,hl,U=>by
  cases m with
  |zero=>simp at hm
  |succ m =>
   obtain⟨l1,o1⟩:=hB B1 bR;obtain⟨l2,o2⟩:=hB B2 bR;have ab:A.flatten.length+(s+(s+Bs.flatten.length))+T.length=n:=by rw[<- hl]; simp only[bV,vb,l1,l2]
   have ea:A.flatten++(B1::B2::Bs).flatten++T=A.flatten++B1++B2++(Bs.flatten++T):=bR
   rw[ea] at hl U;obtain⟨Z,M,e⟩:=ZW n hn (s+s) B1 B2 A.flatten (Bs.flatten++T) bn bn bn o1 o2 hl;rw[l1,l2] at e;have c:=λ{β:Type} {k:KO β} {d:Nat}=>W8 (k:=k) (d:=d) n _ _ _ _ _ e U
   have lZ:Z.length=2*s:=by rw[M.len]; omega
   have ef:(A++[Z]).flatten=A.flatten++Z:=bR
   obtain⟨h',aa,T',b,p',g',e'⟩:=Ux n hn s hs ad T hT oT m (A++[Z]) Bs (h.put (.im 0) (gR K (A.flatten++Z++(Bs.flatten++T)))) (by simp at hm; omega) (λB hb=>by
    rcases fb.1 hb with hb|hb
    ·exact hD B hb
    ·rw[fY.1 hb]; exact⟨lZ,M.ord⟩) (λB hb=>hB B (by simp[hb])) (by rw[ef,<- hl]; simp only[bV,lZ,l1,l2]; omega) (by rw[ef,eH (A.flatten++Z)]; exact bm.bX U cb)
   refine⟨h',aa,T',b,p'.trans ?_,g',?_⟩
   ·rw[ef,ea,eH A.flatten B1 B2,eH (A.flatten++Z)];exact(M.JX.append_left A.flatten).append_right _
   ·rw[ef,bV,lZ] at e';rw[<- e',K.ze,rz];have t:¬ (n:Int)<((A.flatten.length+2*s:Nat):Int):=bn
    have e1:IntKind.i64.wrap ((A.flatten.length:Int)+(s:Int))=((A.flatten.length+s:Nat):Int):=JC _ _ bn bn;have e2:=qTb s bn;have e3:IntKind.i64.wrap (((A.flatten.length+2*s:Nat):Int)+((2*s:Nat):Int))=((A.flatten.length+2*s+2*s:Nat):Int):=JC _ _ bn bn;have e4:A.flatten.length+s+s=A.flatten.length+2*s:=bn
    rw[e4] at c;simp only[bW,t,c,e1,e2,e3]
 |m,A,[B],h,hm,hD,hB,hl,U=>by
  obtain⟨l1,o1⟩:=hB B bR;have eb:[B].flatten=B:=bR
  rw[eb] at hl U ⊢;have ab:A.flatten.length+s+T.length=n:=by rw[<- hl]; simp only[bV,l1]
  have t:(n:Int)<((A.flatten.length+2*s:Nat):Int):=bn
  have e1:IntKind.i64.wrap ((A.flatten.length:Int)+(s:Int))=((A.flatten.length+s:Nat):Int):=JC _ _ bn bn;by_cases hx:1<=T.length
  ·have ea:A.flatten++B++T=A.flatten++B++T++[]:=by rw[fa]
   rw[ea] at hl U;obtain⟨Z,M,e⟩:=ZW n hn (s+s) B T A.flatten [] bn bn hx o1 oT hl;rw[l1,ab] at e;have c:=λ{β:Type} {k:KO β} {d:Nat}=>W8 (k:=k) (d:=d) n _ _ _ _ _ e U
   refine⟨h.put (.im 0) (gR K (A.flatten++Z++[])),A,Z,⟨hD,by rw[M.len]; omega,M.ord⟩,?_,?_,?_⟩
   ·rw[eH A.flatten B T]; exact M.JX.append_left _
   ·rw[fa]; exact bm.bX U cb
   ·have t2:((A.flatten.length+s:Nat):Int)<(n:Int):=bn
    rw[K.ze,rz];simp only[bW,t];rw[K.BU,sk];simp only[bW,e1,t2,c]
  ·have et:T=[]:=ku.1 bn;refine⟨h,A,B,⟨hD,bn,o1⟩,by rw[et,fa],by rw[U,et,fa],?_⟩;have t2:¬ ((A.flatten.length+s:Nat):Int)<(n:Int):=bn
   rw[K.ze,rz];simp only[bW,t];rw[K.BU,sk];simp only[bW,e1,t2]
 |m,A,[],h,hm,hD,hB,hl,U=>by
  have eb:([]:List (List α)).flatten=[]:=rfl;rw[eb,fa] at hl U;have ab:A.flatten.length+T.length=n:=by rw[<- hl]; simp only[bV]
  have t:(n:Int)<((A.flatten.length+2*s:Nat):Int):=bn
  have e1:IntKind.i64.wrap ((A.flatten.length:Int)+(s:Int))=((A.flatten.length+s:Nat):Int):=JC _ _ bn bn;refine⟨h,A,T,⟨hD,bn,oT⟩,by rw[eb,fa],U,?_⟩;have t2:¬ ((A.flatten.length+s:Nat):Int)<(n:Int):=bn
  rw[K.ze,rz];simp only[bW,t];rw[K.BU,sk];simp only[bW,e1,t2]
def Uy(n:Nat)(hn:n<=1000):∀ (m s:Nat) (Bs:List (List α)) (T:List α) (h:bm),n - s<=m->1<=s->RN K s Bs T->(Bs.flatten++T).length=n->h.get (.im 0)=some (gR K (Bs.flatten++T))->s<=2000 ->
  ∃ Z,Ord (iI K) Z/\Z.Perm (Bs.flatten++T)/\ca tab.get S K.fT 1 3 [sK K n,kI (n:Int),(fF K),kI (s:Int)] h=some (.dq [],[gR K Z])
 |m,s,Bs,T,h,hm,hs,b,hl,hg,aa=>by
  have fl:=XH s Bs (λB hB=>(b.all B hB).1);have A:s*Bs.length+T.length=n:=by rw[<- hl,bV,fl]
  by_cases hc:s<n
  ·cases m with
   |zero=>omega
   |succ m =>
    obtain⟨h',M,T',b',p',g',e'⟩:=Ux n hn s hs bn T b.len b.ord Bs.length [] Bs h (cB _) (λB hB=>by cases hB) b.all (by simpa using hl) (by simpa using hg);have U:(M.flatten++T').Perm (Bs.flatten++T):=by simpa using p'
    obtain⟨Z,o,p,e⟩:=Uy n hn m (2*s) M T' h' bn bn b' (by rw[U.length_eq,hl]) g' bn;refine⟨Z,o,p.trans U,?_⟩;have t:(s:Int)<(n:Int):=bn
    have e2:=qTb s bn;have e3:=qWm s bn;rw[<- e];rw[K.Gd,uv,XW,e3] at e';have z:(([]:List (List α)).flatten.length:Int)=0:=rfl;have z2:((([]:List (List α)).flatten.length+2*s:Nat):Int)=((2*s:Nat):Int):=by rw[List.flatten_nil,fm,nY]
    rw[z,z2] at e';rw[K.CT,tu];simp only[bW,t,e2];exact e'
  ·have t:¬ (s:Int)<(n:Int):=bn
   have fin:=sP true [] _ rfl hg (nH _ 0);refine⟨Bs.flatten++T,?_,.refl _,?_⟩
   ·match Bs,b,A,hl,fl with
    |[],b,_,_,_=>simpa using b.ord
    |[B],b,A,_,_ =>
     have:T=[]:=ku.1 (by rw[gM,BJ] at A; omega);rw[this]
     simpa using (b.all B bR).2
    |B::B2::Bs,b,A,_,_ =>
     rw[di,di,xJ,xJ] at A;omega
   ·rw[K.CT,tu];simp only[bW,t,fin,oneOf]
def qNi(n:Nat)(hn:n<=1000)(l:List α)(hl:l.length=n):∃ Z,Ord (iI K) Z/\Z.Perm l/\Om K.fT [sK K n,kI (n:Int),(fF K)] [gR K l]=some (.dq [],[gR K Z]):=by
 obtain⟨h',A,T,b,U,g',e'⟩:=Uz n hn l.length [] l (Cn K l) (cB _) (λB hB=>by cases hB) (by simpa using hl) rfl;have M:(A.flatten++T).Perm l:=by simpa using U
 obtain⟨Z,o,p,e⟩:=Uy n hn n 20 A T h' bn bn b (by rw[M.length_eq,hl]) g' bn;refine⟨Z,o,p.trans M,(gD (K.nT _ _)).trans ?_⟩;show ca tab.get S K.fT 1 0 [sK K n,kI (n:Int),(fF K)] (Cn K l)=_;rw[K.Gf,ux];exact e'.trans e
def qM9(n:Nat)(hn:n<=1000)(l:List α)(hl:l.length=n):∃ Z,Ord (iI K) Z/\Z.Perm l/\Om K.fE [sK K n,(fF K)] [gR K l]=some (.dq [],[gR K Z]):=by
 obtain⟨Z,o,p,e⟩:=qNi n hn l hl;refine⟨Z,o,p,(gD (K.nE _ _)).trans ?_⟩;show ca tab.get S K.fE 1 0 [sK K n,(fF K)] (Cn K l)=_;have A:(Cn K l).get (.im 0)=some (gR K l):=rfl;have fin:=sP true [] _ rfl (bm.bX (o:=gR K Z) A cb) (nH _ 0);have c:=λ{β:Type} {k:KO β} {d:Nat}=>JJ (O:=Om) (k:=k) (d:=d) K.fT (.im 0) [sK K n,kI (n:Int),(fF K)] _ _ _ (.dq []) rfl rfl rfl A (nH _ 0) (nH _ 0) (λ_=>rfl) e
 rw[K.Gq,uI,qFA];refine c.trans ?_;exact fin
end
section
variable {α:Type}
noncomputable def wE(K:SK α)(l:List α):List α:=if h:l.length<=1000 then Classical.choose (qM9 l.length h l rfl) else l
def XR(K:SK α)(l:List α)(h:l.length<=1000):Ord (iI K) (wE K l)/\(wE K l).Perm l/\Om K.fE [sK K l.length,(fF K)] [gR K l]=some (.dq [],[gR K (wE K l)]):=by
 unfold wE;rw[dif_pos h];exact Classical.choose_spec (qM9 l.length h l rfl)
def qG3(K:SK α)(l:List α):(wE K l).Perm l:=by
 by_cases h:l.length<=1000
 ·exact(XR K l h).2.1
 ·unfold wE; rw[dif_neg h]
end
abbrev SKE:SK (LB×TT) where
 z:=5
 row:=λp=>eh p.1 p.2
 gY:=λp=>DD p.1 p.2
 key:=λp=>p.1
 F:=179
 fI:=273
 fM:=274
 fR:=300
 fS:=306
 fT:=242
 fE:=178
 cmp:=qWZ
 nI:=λ_ _=>rfl
 nM:=λ_ _=>rfl
 nR:=λ_ _=>rfl
 nS:=λ_ _=>rfl
 nT:=λ_ _=>rfl
 nE:=λ_ _=>rfl
 C3:=by intros;exact Ma ..
 BY:=by intros;exact L9 ..
 BX:=by intros;exact L8 ..
 Gp:=by intros;exact L7 ..
 BW:=by intros;exact L6 ..
 C0:=by intros;exact L5 ..
 Gn:=by intros;exact L3 ..
 CZ:=by intros;exact L2 ..
 Gm:=by intros;exact LZ ..
 CY:=by intros;exact LW ..
 CX:=by intros;exact LV ..
 Gl:=by intros;exact LU ..
 CW:=by intros;exact LS ..
 Gk:=by intros;exact LQ ..
 AM:=by intros;exact Gx ..
 yj:=by intros;exact Gw ..
 v8:=by intros;exact Gv ..
 v7:=by intros;exact Gu ..
 vZ:=by intros;exact Gt ..
 vY:=by intros;exact Gr ..
 Gi:=by intros;exact LG ..
 BV:=by intros;exact LC ..
 Gh:=by intros;exact LA ..
 Gg:=by intros;exact Lz ..
 CV:=by intros;exact Ly ..
 Gf:=by intros;exact Ms ..
 CU:=by intros;exact Mr ..
 Ge:=by intros;exact Mq ..
 CT:=by intros;exact Mp ..
 ze:=by intros;exact Mo ..
 BU:=by intros;exact Mn ..
 Gd:=by intros;exact Mm ..
 Gq:=by intros;exact Nd ..
def pP(p q:LB×TT):Bool:=cX p.1 q.1
def qNB(p q:LB×TT)(h:pP p q=true):pP q p=false:=qEt _ _ h
def qMc(p q r:LB×TT)(h1:pP q p=false)(A:pP r q=false):pP r p=false:=qF8 p.1 q.1 r.1 h1 A
noncomputable def dB(l:Es):Es:=wE SKE l
def qFV(l:Es)(h:l.length<=1000):Ord pP (dB l)/\(dB l).Perm l/\Om 178 [W6 l.length,SQ] [.cells (bp (dW l)) 0]=some (.dq [],[.cells (bp (dW (dB l))) 0]):=XR SKE l h
def Sm(l:Es):(dB l).Perm l:=qG3 SKE l
def qEz(l:Es):(dB l).length=l.length:=(Sm l).length_eq
end Go.Proofs.YtnlmlcfipbnpgaaGreatDoor.Ab
namespace Go.AI
def ZS{h:bm}(vs:List cN)(o:bG)(hv:vs.all wU=true)(U:h.get (.im 0)=some o)(ho:kO o):bS true 1 vs h=some (oneOf (vs.map cN.strip),[o]):=by
 letI:Sym:=⟨λ_=>0⟩
 rw[JI];obtain⟨A,M⟩:=qGi h vs hv;have ef:iF h (oneOf vs)=some (oneOf (vs.map cN.strip),[]):=by
  match vs,hv,A,M with
  |[],_,_,_=>rfl
  |[x],hv,_,_ =>
   rw[oI,fj] at hv;show(fJ h x).map _=_;rw[(qFF h x hv.1).1]; rfl
  |x::y::vs,_,A,_ =>
   show((x::y::vs).mapM (fJ h)).map _=_;rw[A];show some (bt.dq (((x::y::vs).map λx=>(x.strip,([]:List Ref))).map (·.1)),((x::y::vs).map λx=>(x.strip,([]:List Ref))).flatMap (·.2))=_
   congr 2
   ·rw[fU]; rfl
   ·generalize (x::y::vs)=l
    induction l with
    |nil=>rfl
    |cons a l ih=>rw[dr,eJ,ih]; rfl
 obtain⟨q1,q2,q3,q4⟩:=zq (XJ M);unfold qH;rw[show bY 1=[Ref.im 0] from rfl];simp[ef,settle,U,ho.1,q1,q3,reach,cw,ho.2]
end Go.AI
namespace Go.Proofs.YtnlmlcfipbnpgaaGreatDoor.Ab
open Go Go.AI
def oj(p:LB×TT):List bL:=dg p.1
def qX(p:LB×TT):List bL:=p.2.row
abbrev q3:bt:=.v (.c (.ptr (.own 3 1) 0))
abbrev q6:bt:=.v (.c (.ptr (.own 6 1) 0))
abbrev q7:bt:=.v (.c (.ptr (.own 7 1) 0))
abbrev q8:bt:=.v (.c (.ptr (.own 8 1) 0))
abbrev W5(n:Nat):bt:=.v (.c (.cf (.im 1) 0 n none 5))
structure TS (h:bm) (L:List Tok) (s:RS) (kd:Int) (l:Es) (i:Nat):Prop where
 g0:h.get (.im 0)=some (rO L s)
 g1:h.get (.im 1)=some (.cells (bp (dW l)) 0)
 o3:h.get (.own 3 1)=some (dH 0)
 o6:h.get (.own 6 1)=some (.cells z4 0)
 o7:h.get (.own 7 1)=some (.cells [.cf (.im 1) 0 l.length none 5] 0)
 o8:∃ K E,h.get (.own 8 1)=some (.cells [.p (.int .i64 kd),.p (.str []),K,E] 0)/\(GS [56] 1 K ((l.take i).map oj) h/\fh 1 K ((l.take i).map oj))/\GS [62] 4 E ((l.take i).map qX) h/\fh 4 E ((l.take i).map qX)
def qFL{α β:Type}(f:α->β)(l:List α)(i:Nat)(a:α)(h:l[i]?=some a):(l.take (i+1)).map f=(l.take i).map f++[f a]:=by
 rw[qM,h,gG]; rfl
def qQ(l:Es):Nat->Bool
 |0=>false
 |j+1=>match l[j]?,l[j+1]? with
  |some q,some p=>decide (q.1=p.1)
  |_,_=>false
def qSr{h:bm}{L:List Tok}{s:RS}{kd:Int}{l:Es}{i:Nat}(A:TS h L s kd l i)(p:LB×TT)(hp:l[i]?=some p)(hl:l.length<=1000) :
  ∃ h',TS h' L { s with tw:=s.tw||qQ l i } kd l (i+1)/\ca tab.get S 109 1 1 [q3,q6,q7,q8,W5 l.length,kI (l.length:Int),kI (i:Int)] h=ca tab.get S 109 1 1 [q3,q6,q7,q8,W5 l.length,kI (l.length:Int),kI ((i+1:Nat):Int)] h':=by
 obtain⟨K,E,o8,⟨GK,BK⟩,GE,BE⟩:=A.o8;have hi:i<l.length:=(cQ.1 hp).1;have lt:(i:Int)<(l.length:Int):=bn
 have tl:(l.take i).length<=1000:=cM
 have gp:=qFh l i p hp;have pp:(bp (eh p.1 p.2)).length=5:=by rw[qV,DD]
 have PA:dm z5 0 (bp (eh p.1 p.2))=bp (eh p.1 p.2):=yf _ _ (by rw[pp]; rfl);generalize hb:(s.tw||qQ l i)=b;generalize M:(h.own 10 (h.gen 10+1) (.cells z5 0)).own 10 (h.gen 10+1) (.cells (bp (eh p.1 p.2)) 0)=H1;have k1:∀ (d:Nat) (o:bG),d≠10->h.get (.own d 1)=some o->H1.get (.own d 1)=some o:=λd o hd ho=>by rw[<- M,bm.bN _ _ _ _ _ _ (oC hd),bm.bN _ _ _ _ _ _ (oC hd),ho]
 have ag:∀ j,H1.get (.im j)=h.get (.im j):=λj=>by rw[<- M]; rfl
 have a0:H1.get (.im 0)=some (rO L s):=(ag 0).trans A.g0;have a1:H1.get (.im 1)=some (.cells (bp (dW l)) 0):=(ag 1).trans A.g1;have a3:=k1 3 _ bu A.o3;have a7:=k1 7 _ bu A.o7;have a8:=k1 8 _ bu o8;have aa:H1.get (.own 10 (h.gen 10+1))=some (.cells (bp (eh p.1 p.2)) 0):=by rw[<- M]; exact bm.cC _ _ _ _ bu cb
 generalize U:H1.put (.im 0) (rO L { s with tw:=b })=H2;have b0:H2.get (.im 0)=some (rO L { s with tw:=b }):=by rw[<- U]; exact bm.bX a0 cb
 have b1:H2.get (.im 1)=some (.cells (bp (dW l)) 0):=by rw[<- U]; exact(bm.cz a0 bu).trans a1
 have ko:∀ d g,H2.get (.own d g)=H1.get (.own d g):=λd g=>by rw[<- U]; rfl
 have b8:H2.get (.own 8 1)=some (.cells [.p (.int .i64 kd),.p (.str []),K,E] 0):=(ko 8 1).trans (k1 8 _ bu o8);have ad:H2.get (.own 10 (h.gen 10+1))=some (.cells (bp (eh p.1 p.2)) 0):=(ko 10 _).trans aa;have ak:GS [56] 1 K ((l.take i).map oj) H2:=by
  rw[<- U,<- M]; exact((GK.own _ _ bu).own _ _ bu).dY λ_ _ _ hh=>hh
 have al:GS [62] 4 E ((l.take i).map qX) H2:=by
  rw[<- U,<- M]; exact((GE.own _ _ bu).own _ _ bu).dY λ_ _ _ hh=>hh
 obtain⟨c1,h1,t1,G1,e1,T1,K1,ah,X1⟩:=sS (h:=H2) (d:=56) (D:=[56]) (sz:=1) (by':=16) (new:=[[.str p.1]]) (b:=.slice 1 true [[.str p.1]]) (.inr ⟨true,rfl⟩) ak bu (λr hr=>by simp at hr; rw[hr]; rfl) cM bu;have an:GS [62] 4 E ((l.take i).map qX) h1:=al.dY λe he g hh=>K1 e g _ (by revert he; simp; omega) hh
 obtain⟨c2,h2,t2,G2,e2,T2,K2,ai,X2⟩:=sS (h:=h1) (d:=62) (D:=[62]) (sz:=4) (by':=72) (new:=[p.2.row]) (b:=.slice 4 true [p.2.row]) (.inr ⟨true,rfl⟩) an bu (λr hr=>by simp at hr; rw[hr]; exact TT.ct _) cM bu;have ao:=G1.dY (h':=h2) λe he g hh=>K2 e g _ (by revert he; simp; omega) hh
 have k8:=K1 8 1 _ bu b8;have ae:=K1 10 _ _ bu ad;have af:=K2 8 1 _ bu k8;have B1:∀ {β:Type}{O:bD}{h:bm}{d:Nat}{kt:KT β},br O (.cm 1 1 [.p (.str [])] [(0,.k (kS p.1))] false) h d kt=kt (j7 1 true [[.str p.1]]) h cj:=Yn _ _ rfl;have B2:∀ {β:Type}{O:bD}{h:bm}{d:Nat}{kt:KT β},br O (.cm 4 1 z4 [(0,.k (.v (.agg (bp p.2.row))))] false) h d kt=kt (j7 4 true [p.2.row]) h cj:=Hk 4 _ _ rfl (TT.ct p.2);have A1:AI.Touch.apart t1 ⟨[(Ref.own 8 1).site],[],false⟩=true:=AS T1 8 bu;have A2:AI.Touch.apart t1 ⟨[(Ref.own 10 (h.gen 10+1)).site],[],false⟩=true:=AS T1 10 bu;have R1:(bp (eh p.1 p.2))[0]?=some (.p (.str p.1)):=rfl;have R2:((bp (eh p.1 p.2)).drop 1).take 4=bp p.2.row:=by
  show(bp p.2.row).take 4=_;exact gz (yU (by rw[qV,TT.ct]))
 have R3:(bp p.2.row).length=4:=by rw[qV,TT.ct]
 have P1:∀ a b d:Cell,dm [a,b,K,d] 2 [c1]=[a,b,c1,d]:=λ_ _ _=>rfl
 have P2:∀ a b:Cell,dm [a,b,c1,E] 3 [c2]=[a,b,c1,c2]:=λ_ _=>rfl
 have P3:∀ a b c d x:Cell,dm [a,b,c,d] 3 [x]=[a,b,c,x]:=λ_ _ _ _ _=>rfl
 refine⟨(h2.own 8 1 (.cells [.p (.int .i64 kd),.p (.str []),c1,E] 0)).own 8 1 (.cells [.p (.int .i64 kd),.p (.str []),c1,c2] 0),?_,?_⟩
 ·have mk:=qFL oj l i p hp;have mv:=qFL qX l i p hp;obtain⟨r1,aq⟩:=X1 (.inl bR);obtain⟨r2,ar⟩:=X2 (.inl bR);have ab:∀ (d:Nat) (o x y:bG),d≠8->d∉[56]->d∉[62]->d≠10->h.get (.own d 1)=some o->((h2.own 8 1 x).own 8 1 y).get (.own d 1)=some o:=λd o x y hd au aw ax ho=>by
   rw[bm.bN _ _ _ _ _ _ (oC hd),bm.bN _ _ _ _ _ _ (oC hd)];exact K2 d 1 _ aw (K1 d 1 _ au ((ko d 1).trans (k1 d _ ax ho)))
  refine⟨?_,?_,ab 3 _ _ _ bu bu bu bu A.o3,ab 6 _ _ _ bu bu bu bu A.o6,ab 7 _ _ _ bu bu bu bu A.o7,c1,c2,bm.cC _ 8 1 _ bu cb,?_,?_⟩
  ·exact(ai 0).trans ((ah 0).trans b0)
  ·exact(ai 1).trans ((ah 1).trans b1)
  ·rw[mk];exact⟨(ao.own 1 _ bu).own 1 _ bu,.inr ⟨bR,r1,aq⟩⟩
  ·rw[mv];exact⟨(G2.own 1 _ bu).own 1 _ bu,.inr ⟨bR,r2,ar⟩⟩
 ·have AB:∀ (T:AI.Touch),AI.Touch.apart cj cj=true:=λ_=>rfl
  rw[zh,sF];cases ht:s.tw with
  |true =>
   rw[ht,oH] at hb;subst hb;simp only[bW,rA,rC,rD,rE,lt,hi,A.g1,gp,pp,PA,M,U,a0,A.o3,a8,aa,ht,k8,ae,af,e1,e2,rY,B1,B2,A1,A2,R1,R2,R3,P1,P2,P3,sT i bn,cB]
  |false =>
   rw[ht,lP] at hb;cases i with
   |zero =>
    have ay:b=false:=hb.symm;subst ay;have z:¬ (0:Int)<((0:Nat):Int):=bu
    rw[s9,eI] at gp;have w0:IntKind.i64.wrap (((0:Nat):Int)+1)=((0+1:Nat):Int):=bu
    simp only[bW,rA,rC,rD,rE,lt,hi,A.g1,gp,pp,PA,M,U,a0,A.o3,a7,aa,ht,b8,ad,k8,ae,af,e1,e2,rY,B1,B2,A1,A2,R1,R2,R3,P1,P2,P3,z,w0,s9,cB]
   |succ j =>
    obtain⟨q,hq⟩:∃ q,l[j]?=some q:=⟨l[j]'bn,bR⟩;have gq:=qFh l j q hq;have aj:(bp (dW l))[j*5]?=some (.p (.str q.1)):=by
     have:(((bp (dW l)).drop (j*5)).take 5)[0]?=(bp (dW l))[j*5]?:=by
      rw[nZ,bF bu,n6,gH]
     rw[<- this,gq]; rfl
    have z:(0:Int)<((j+1:Nat):Int):=bn
    have ew:IntKind.i64.wrap (((j+1:Nat):Int) - 1)=((j:Nat):Int):=by rw[jZ _ bn bn]; omega
    have t3:(0:Int)<=((j:Nat):Int):=bn
    have t5:j<l.length:=bn
    have ha:qQ l (j+1)=decide (q.1=p.1):=by
     show(match l[j]?,l[j+1]? with|some q,some p=>decide (q.1=p.1)|_,_=>false)=_;rw[hq,hp]
    rw[ha] at hb;by_cases hk:q.1=p.1
    ·rw[cI hk] at hb;subst hb;simp only[bW,rA,rC,rD,rE,lt,hi,A.g1,gp,pp,PA,M,U,a0,A.o3,a7,a1,aa,ht,b8,ad,k8,ae,af,e1,e2,rY,B1,B2,A1,A2,R1,R2,R3,P1,P2,P3,z,ew,t3,t5,aj,hk,sT (j+1) bn,cB]
    ·rw[de hk] at hb;subst hb;simp only[bW,rA,rC,rD,rE,lt,hi,A.g1,gp,pp,PA,M,U,a0,A.o3,a7,a1,aa,ht,b8,ad,k8,ae,af,e1,e2,rY,B1,B2,A1,A2,R1,R2,R3,P1,P2,P3,z,ew,t3,t5,aj,hk,sT (j+1) bn,cB]
def qb(l:Es)(b:Bool):Nat->Bool
 |0=>b
 |i+1=>qb l b i||qQ l i
def qJw{L:List Tok}{s:RS}{kd:Int}{l:Es}(hl:l.length<=1000):∀ (m i:Nat) (h:bm),i+m=l.length->TS h L { s with tw:=qb l s.tw i } kd l i ->
  ∃ h',TS h' L { s with tw:=qb l s.tw l.length } kd l l.length/\ca tab.get S 109 1 1 [q3,q6,q7,q8,W5 l.length,kI (l.length:Int),kI (i:Int)] h=ca tab.get S 109 1 2 [q6,q8] h'
 |0,i,h,hi,A=>by
  have hi:i=l.length:=bn
  subst hi;refine⟨h,A,?_⟩;have lt:¬ (l.length:Int)<(l.length:Int):=bn
  rw[zh,sF];simp only[bW,rA,rC,rD,rE,lt]
 |m+1,i,h,hi,A=>by
  obtain⟨p,hp⟩:∃ p,l[i]?=some p:=⟨l[i]'bn,bR⟩;obtain⟨h1,M,U⟩:=qSr A p hp hl;obtain⟨h2,A2,e2⟩:=qJw (L:=L) (s:=s) (kd:=kd) hl m (i+1) h1 bn M;exact⟨h2,A2,U.trans e2⟩
def fe(kd:Int)(l:Es):TT:=.mk kd [] (grown (l.map (·.1))) (grown (l.map (·.2)))
def qK3(kd:Int)(l:Es):(fe kd l).row=[.int .i64 kd,.str [],iq 1 (l.map oj),iq 4 (l.map qX)]:=by
 have A:iq 1 (l.map oj)=dI 1 dg (grown (l.map (·.1))):=by
  rw[<- XN,fU]; rfl
 have M:iq 4 (l.map qX)=dI 4 TT.row (grown (l.map (·.2))):=by
  rw[<- XN,fU]; rfl
 rw[A,M];unfold fe;rw[TT.fD];rfl
def qUD{h:bm}{L:List Tok}{s:RS}{kd:Int}{l:Es}(A:TS h L s kd l l.length):ca tab.get S 109 1 2 [q6,q8] h=some (kA (fe kd l).row,[rO L s]):=by
 obtain⟨K,E,o8,⟨GK,M⟩,GE,U⟩:=A.o8;rw[tb] at M U;have P:∀ a b c d:Cell,dm z4 0 [a,b,c,d]=[a,b,c,d]:=λ_ _ _ _=>yf _ _ rfl
 have fin:∀ h:bm,h.get (.im 0)=some (rO L s)->bS true 1 [.agg [.p (.int .i64 kd),.p (.str []),K,E]] h=some (kA (fe kd l).row,[rO L s]):=by
  intro h hg;rw[ZS _ (rO L s) (by show([Cell.p (.int .i64 kd),.p (.str []),K,E].all ru&&true)=true; simp only[oI,sI,M.pt,U.pt]; rfl) hg (dS L s)];show some (bt.v (.agg [.p (.int .i64 kd),.p (.str []),K.strip,E.strip]),_)=_;rw[M.strip,U.strip,qK3];rfl
 rw[Dr,va];simp only[bW,rA,rC,o8,A.o6,P,cB];exact fin _ A.g0
def iC(L:List Tok)(s:RS):RS:=cU (bZ 4 L s [123]) (dU 4 L s [123])
def UK{L:List Tok}{s:RS}(h:s.p<=L.length):(iC L s).p<=L.length:=by
 unfold iC;rw[Cc];unfold bZ;split
 ·rename_i hi;have:=(zo bu hi).2;show s.p+1<=_; omega
 ·exact h
def qOE:dB []=[]:=vf.1 (Sm [])
noncomputable def jz(sub:RS->TT×RS)(L:List Tok)(kd:Int)(s:RS):TT×RS :=
 (fe kd (dB (ic sub L [125] (iC L s)).1),{ (ic sub L [125] (iC L s)).2 with tw:=qb (dB (ic sub L [125] (iC L s)).1) (ic sub L [125] (iC L s)).2.tw (dB (ic sub L [125] (iC L s)).1).length })
def qUw{β:Type}{O:bD}{k:KO β}{h:bm}{d:Nat}(f:FuncId)(a b c:Ref):bQ O (.qD f [.k (.v (.c (.ptr a 0))),.k (.v (.c (.ptr b 0))),.k (.v (.c (.ptr c 0)))]) h d k=k (.v (.c (.func f [a,b,c]))) h:=qg _ _ rfl
def qVn:Om 178 [.v (.c (.p .bq)),SQ] []=some (.dq [],[]):=(gD rfl).trans (Oy jv 300 178 0 0 _ _ _ bT)
def qbe{β:Type}{k:KO β}{h:bm}{e:Nat}:bE Om (F_ 178) [.v (.c (.p .bq)),SQ] h e k=k (.dq []) h:=by
 have A:reach h cw ([bt.v (.c (.p .bq)),SQ].flatMap bt.refs) []=[]:=yu _ _;rw[U5 178 _ _ _ [] [] [] [] (.dq []) rfl A rfl rfl rfl qVn (cB _)];rfl
def qXX{d:Int}{L:List Tok}{sub:RS->TT×RS}{okP:RS->Prop}(ok:n8 d L sub okP)(hd:0<=d/\d<=100)(hL:L.length<=1000)(kd:Int)(s:RS)(hs:s.p<=L.length)(ro:yp sub okP L [125] (iC L s))(hn:(ic sub L [125] (iC L s)).1.length<=1000) :
  Om 109 [P0,kI kd,kI d] [rO L s]=some (kA (jz sub L kd s).1.row,[rO L (jz sub L kd s).2]):=by
 refine(gD rfl).trans ?_;show ca tab.get S 109 1 0 [P0,kI kd,kI d] (bm.mk [rO L s] .nil)=_;have aa:=UK hs;have yi:∀ {β:Type}{h:bm}{e:Nat}{kt:KT β},h.get (.im 0)=some (rO L s)->br Om (.call (.k (F_ 46)) [.k (.v (.c (.ptr (.im 0) 0))),.k (kS [123])]) h e kt=kt (kB (dU 4 L s [123])) (h.put (.im 0) (rO L (bZ 4 L s [123]))) ⟨[(Ref.im 0).site,(Ref.im 0).site],[(Ref.im 0).site],false⟩:=λ{β h e kt} hg =>
  AR 46 (.im 0) (kS [123]) _ _ _ rfl rfl hg (dS L _) (dS L _) (Oh L _ bn [123])
 have sD:∀ {β:Type}{h:bm}{e:Nat}{kt:KT β},h.get (.im 0)=some (rO L (bZ 4 L s [123]))->br Om (.call (.k (F_ 43)) [.k (.v (.c (.ptr (.im 0) 0))),.k (kB (dU 4 L s [123]))]) h e kt=kt (.dq []) (h.put (.im 0) (rO L (iC L s))) ⟨[(Ref.im 0).site,(Ref.im 0).site],[(Ref.im 0).site],false⟩:=λ{β h e kt} hg =>
  AR 43 (.im 0) (kB (dU 4 L s [123])) _ _ _ rfl rfl hg (dS L _) (dS L _) (FJ L _ _)
 unfold jz;have ab:=qRT ok hd hL [125] (iC L s) aa ro;have ad:=qTH (d:=d) (sub:=sub) hL [125] (iC L s) aa;have ae:dU 4 L (iC L s) [125]=true->(ic sub L [125] (iC L s)).1=[]:=λe=>by unfold ic; rw[bF e]
 have af:dU 4 L (iC L s) [125]=false->(ic sub L [125] (iC L s)).1≠[]:=λe=>by
  unfold ic;rw[bA (by rw[e]; decide)];have:∀ (f:Nat) (s:RS) (acc:Es),acc≠[]->(gu sub L [125] f s acc).1≠[]:=by
   intro f
   induction f with
   |zero=>intro s acc h; exact h
   |succ f ih =>
    intro s acc h;unfold gu;split
    ·exact ih _ _ bR
    ·exact h
  exact this _ _ _ bR
 generalize hr:ic sub L [125] (iC L s)=r at *;generalize ai:iC L s=s0 at *;generalize aj:dU 4 L s [123]=bc at *;generalize ak:bZ 4 L s [123]=s2 at *;have T:AI.Touch.apart ⟨[(Ref.own 3 1).site],[],false⟩ ⟨[(Ref.im 0).site,(Ref.im 0).site],[(Ref.im 0).site],false⟩=true:=rfl;rw[NJ,xw];simp only[bW,rA,rC,rD,rE,qUw,yi,sD,T];generalize hh:((((((bm.mk [rO L s] .nil).own 3 1 (.cells [.ptr (.im 0) 0] 0)).own 5 1 (.cells [.p (.int .i64 d)] 0)).own 6 1 (.cells z4 0)).own 7 1 (.cells [.p .bq] 0)).put (.im 0) (rO L s2)).put (.im 0) (rO L s0)=h;have F0:h.get (.im 0)=some (rO L s0):=by rw[<- hh]; rfl
 have F3:h.get (.own 3 1)=some (dH 0):=by rw[<- hh]; rfl
 have F5:h.get (.own 5 1)=some (jI d):=by rw[<- hh]; rfl
 have F6:h.get (.own 6 1)=some (.cells z4 0):=by rw[<- hh]; rfl
 have F7:h.get (.own 7 1)=some (.cells [.p .bq] 0):=by rw[<- hh]; rfl
 have Fl:h.bY.length=1:=by rw[<- hh]; rfl
 have F8:h.gen 8=0:=by rw[<- hh]; rfl
 clear hh;have M:reach h cw ([P0,kS [125],.v (.c (.func 177 [.own 3 1,.own 5 1,.own 7 1]))].flatMap bt.refs) []=[.im 0,.own 3 1,.own 5 1,.own 7 1]:=by
  show reach h (394+1+1+1+1+1+1) [.im 0,.own 3 1,.own 5 1,.own 7 1] []=_;rw[qi _ (.im 0) _ _ _ bu F0,(dS L s0).1];show reach h (394+1+1+1+1+1) [.own 3 1,.own 5 1,.own 7 1] [.im 0]=_;rw[qi _ (.own 3 1) _ _ _ bu F3];show reach h (394+1+1+1+1) [.im 0,.own 5 1,.own 7 1] [.im 0,.own 3 1]=_;rw[Hj _ _ _ _ bu,qi _ (.own 5 1) _ _ _ bu F5];show reach h (394+1+1) [.own 7 1] [.im 0,.own 3 1,.own 5 1]=_;rw[qi _ (.own 7 1) _ _ _ bu F7];exact yu _ _
 have hm:([.im 0,.own 3 1,.own 5 1,.own 7 1]:List Ref).mapM h.get=some [rO L s0,dH 0,jI d,.cells [.p .bq] 0]:=by
  simp only[ek,gg,F0,F3,F5,F7,gC,rL,eG]
 have e5:([rO L s0,dH 0,jI d,.cells [.p .bq] 0]:List bG).map (bG.eB (iU [.im 0,.own 3 1,.own 5 1,.own 7 1]))=[rO L s0,dH 0,jI d,.cells [.p .bq] 0]:=by
  rw[dr,(dS L s0).2]; rfl
 cases hx:dU 4 L s0 [125] with
 |true =>
  have U:=ad hx;have ag:=ae hx
  obtain⟨h1,hc,B⟩:=Hf (O:=Om) (h:=h) 111 [P0,kS [125],.v (.c (.func 177 [.own 3 1,.own 5 1,.own 7 1]))] _ [P0,kS [125],II] _ _ _ _ _ (.dq []) rfl M hm rfl e5 U (cB 4) bu rfl;have G0:h1.get (.im 0)=some (rO L r.2):=B.own 0 (.im 0) _ rfl (by show some ((rO L r.2).eB _)=_; rw[(dS L r.2).2]) cb;have G3:h1.get (.own 3 1)=some (dH 0):=B.own 1 (.own 3 1) _ rfl rfl cb;have G6:h1.get (.own 6 1)=some (.cells z4 0):=B.rk (.own 6 1) _ bu F6;have G7:h1.get (.own 7 1)=some (.cells [.p .bq] 0):=B.own 3 (.own 7 1) _ rfl rfl cb;have G8:h1.gen 8=0:=(B.gen 8).trans F8;rw[hc];have z:¬ (0:Int)<(0:Int):=bu
  have P:∀ a b c d:Cell,dm z4 0 [a,b,c,d]=[a,b,c,d]:=λ_ _ _ _=>yf _ _ rfl
  rw[ag,qOE];simp only[bW,G7,qbe,G8];rw[zh,sF];simp only[bW,z];rw[Dr,va];simp only[bW,rA,rC,rE,G6,P,cB];exact sP true [.agg (bp (fe kd []).row)] _ (by simp only[jr]) G0 (dS L r.2)
 |false =>
  have U:=ab hx;have al:=af hx;have pl:=nH (dW r.1) 0;have so:=qEz r.1;obtain⟨h1,hc,B⟩:=Hf (O:=Om) (h:=h) 111 [P0,kS [125],.v (.c (.func 177 [.own 3 1,.own 5 1,.own 7 1]))] _ [P0,kS [125],II] _ _ _ _ _ (.dq []) rfl M hm rfl e5 U (show(4:Nat)<=5 by decide) bu rfl;have G0:h1.get (.im 0)=some (rO L r.2):=B.own 0 (.im 0) _ rfl (by show some ((rO L r.2).eB _)=_; rw[(dS L r.2).2]) cb;have G3:h1.get (.own 3 1)=some (dH 0):=B.own 1 (.own 3 1) _ rfl rfl cb;have G6:h1.get (.own 6 1)=some (.cells z4 0):=B.rk (.own 6 1) _ bu F6;have G7:h1.get (.own 7 1)=some (.cells [.cf (.im (h.bY.length+0)) 0 r.1.length none 5] 0):=B.own 3 (.own 7 1) _ rfl rfl cb;have G1:h1.get (.im (h.bY.length+0))=some (.cells (bp (dW r.1)) 0):=B.new 0 _ (dh some (pl.2 _)) cb;have G8:h1.gen 8=0:=(B.gen 8).trans F8;rw[Fl] at G7 G1;rw[hc];have ah:=λ{β:Type} {k:KO β} {e:Nat}=>JJ (O:=Om) (k:=k) (d:=e) 178 (.im 1) [W5 r.1.length,SQ] [W6 r.1.length,SQ] _ _ (.dq []) rfl rfl rfl G1 (nH _ 0) (nH (dW (dB r.1)) 0) (λ_=>rfl) (qFV r.1 hn).2.2
  simp only[bW,G7];refine(ah).trans ?_;show _=some (kA (fe kd (dB r.1)).row,[rO L { r.2 with tw:=qb (dB r.1) r.2.tw (dB r.1).length }]);have K0:(h1.put (.im 1) (.cells (bp (dW (dB r.1))) 0)).get (.im 0)=some (rO L r.2):=(bm.cz G1 bu).trans G0;have K1:(h1.put (.im 1) (.cells (bp (dW (dB r.1))) 0)).get (.im 1)=some (.cells (bp (dW (dB r.1))) 0):=bm.bX G1 cb;have K3:(h1.put (.im 1) (.cells (bp (dW (dB r.1))) 0)).get (.own 3 1)=some (dH 0):=G3;have K6:(h1.put (.im 1) (.cells (bp (dW (dB r.1))) 0)).get (.own 6 1)=some (.cells z4 0):=G6;have K7:(h1.put (.im 1) (.cells (bp (dW (dB r.1))) 0)).get (.own 7 1)=some (.cells [.cf (.im 1) 0 r.1.length none 5] 0):=G7;have K8:(h1.put (.im 1) (.cells (bp (dW (dB r.1))) 0)).gen 8=0:=G8;rw[<- so] at K7;rw[<- so] at hn;generalize dB r.1=Y at *;generalize h1.put (.im 1) (.cells (bp (dW Y)) 0)=h2 at K0 K1 K3 K6 K7 K8;simp only[bW,K7,K8];have A:TS ((h2.own 8 1 (.cells z4 0)).own 8 1 (.cells [.p (.int .i64 kd),.p (.str []),.p .bq,.p .bq] 0)) L { r.2 with tw:=qb Y r.2.tw 0 } kd Y 0:=by
   have k:∀ (d:Nat) (o x y:bG),d≠8->h2.get (.own d 1)=some o->((h2.own 8 1 x).own 8 1 y).get (.own d 1)=some o:=λd o x y hd ho=>by rw[bm.bN _ _ _ _ _ _ (oC hd),bm.bN _ _ _ _ _ _ (oC hd),ho]
   exact⟨K0,K1,k 3 _ _ _ bu K3,k 6 _ _ _ bu K6,k 7 _ _ _ bu K7,.p .bq,.p .bq,bm.cC _ 8 1 _ bu cb,⟨.inl ⟨rfl,rfl⟩,.inl ⟨rfl,rfl⟩⟩,.inl ⟨rfl,rfl⟩,.inl ⟨rfl,rfl⟩⟩
  obtain⟨h3,A3,e3⟩:=qJw (L:=L) (s:=r.2) (kd:=kd) (l:=Y) bn Y.length 0 _ bn A;exact e3.trans (qUD A3)
def U4{L:List Tok}{s:RS}(he:s.e=0){t:Tok}(ht:L[s.p]?=some t):cq L s=t:=by unfold cq; rw[bF he,ht]; rfl
def zr{L:List Tok}{s:RS}(h:¬ (s.e=0/\s.p<L.length)):cq L s=Tok.zero:=by
 unfold cq;by_cases he:s.e=0
 ·rw[bF he,ky (by have:=λhp=>h ⟨he,hp⟩; omega)]; rfl
 ·rw[bA he]
def eS(L:List Tok)(s:RS)(x:LB):Bool:=decide ((cq L s).text=x) && !decide ((cq L s).kind=2)
def qTq(L:List Tok)(s:RS)(x:LB)(hx:x≠[]):Om 59 [P0,kS x] [rO L s]=some (kB (eS L s x),[rO L s]):=by
 refine(gD rfl).trans ?_;show ca tab.get S 59 1 0 [P0,kS x] { bY:=[rO L s],cW:=.nil }=_;have g0:(bm.mk [rO L s] .nil).get (.im 0)=some (rO L s):=rfl;have fin:∀ b:Bool,bS true 1 [.c (.p (.bool b))] (bm.mk [rO L s] .nil)=some (kB b,[rO L s]):=λb=>sP true [.c (.p (.bool b))] _ rfl rfl (dS L _)
 have A:=λ{β:Type} {O:bD} {h:bm} {d:Nat} {k:KO β}=>wH (O:=O) (h:=h) (d:=d) (k:=k) L
 have nx:¬ ([]:LB)=x:=λe=>hx e.symm
 rw[Td,Kn];unfold eS;by_cases he:s.e=0
 ·by_cases hp:s.p<L.length
  ·have ht:L[s.p]?=some L[s.p]:=fQ hp;have M:=λ{β:Type} {k:KO β} {h:bm}=>UW (h:=h) (k:=k) L s.p L[s.p] ht
   have q1:(s.p:Int)<(L.length:Int):=bn
   have pk:=U4 he ht;have U:∀ t:Tok,t.row[0]?=some (.int .i64 t.kind):=λ_=>rfl
   have r1:∀ t:Tok,t.row[1]?=some (.str t.text):=λ_=>rfl
   rw[pk];generalize L[s.p]=t at *;by_cases h1:t.text=x
   ·by_cases h2:t.kind=2
    ·simp only[bW,g0,he,q1,A,M,U,r1,h1,h2,fin]
    ·simp only[bW,g0,he,q1,A,M,U,r1,h1,h2,fin]
   ·simp only[bW,g0,he,q1,A,M,U,r1,h1,fin]
  ·have q1:¬ (s.p:Int)<(L.length:Int):=bn
   rw[zr (λh=>hp h.2)];have e1:Tok.zero.text=[]:=rfl;rw[e1,de nx,fH];simp only[bW,g0,he,q1,A,fin]
 ·rw[zr (λh=>he h.1)];have e1:Tok.zero.text=[]:=rfl;rw[e1,de nx,fH];simp only[bW,g0,he,A,fin]
def FF{β:Type}{k:KO β}{h:bm}{d:Nat}{L:List Tok}{s:RS}(x:LB)(hx:x≠[])(A:h.get (.im 0)=some (rO L s)):bE Om (F_ 59) [P0,kS x] h d k=k (kB (eS L s x)) h :=
 (ny 59 (.im 0) 0 [] [kS x] _ _ _ rfl rfl A (dS L s) (dS L s) rfl (qTq L s x hx)).trans (by show k _ (h.put (.im 0) (rO L s))=k _ h; rw[qJS 0 _ A])
def qWM(L:List Tok)(s:RS)(e:Int):Om 118 [P0,kI e] [rO L s]=some (.dq [],[rO L (b9 s e)]):=by
 refine(gD rfl).trans ?_;show ca tab.get S 118 1 0 [P0,kI e] { bY:=[rO L s],cW:=.nil }=_;have g0:(bm.mk [rO L s] .nil).get (.im 0)=some (rO L s):=rfl;have P:∀ (a b c d x:Cell),dm [a,b,c,d] 2 [x]=[a,b,x,d]:=λ_ _ _ _ _=>rfl
 rw[Nl,EI];unfold b9;by_cases he:s.e=0
 ·rw[bF he];have fin:bS true 1 [] ((bm.mk [rO L s] .nil).put (.im 0) (rO L { s with e:=e }))=some (.dq [],[rO L { s with e:=e }]):=sP true [] _ rfl rfl (dS L _);simp only[bW,rA,rD,g0,he,P]
 ·rw[bA he];simp only[bW,rA,g0,he]
def GX{β:Type}{k:KO β}{h:bm}{d:Nat}{L:List Tok}{s:RS}(e:Int)(A:h.get (.im 0)=some (rO L s)):bE Om (F_ 118) [P0,kI e] h d k=k (.dq []) (h.put (.im 0) (rO L (b9 s e))) :=
 ny 118 (.im 0) 0 [] [kI e] _ _ _ rfl rfl A (dS L s) (dS L _) rfl (qWM L s e)
def bH(L:List Tok)(s:RS)(x:LB):RS:=if eS L s x=true then bJ s else b9 s 12
def qRN(L:List Tok)(s:RS)(hp:s.p<=1000000)(x:LB)(hx:x≠[]):Om 57 [P0,kS x] [rO L s]=some (.dq [],[rO L (bH L s x)]):=by
 refine(gD rfl).trans ?_;show ca tab.get S 57 1 0 [P0,kS x] { bY:=[rO L s],cW:=.nil }=_;have g0:(bm.mk [rO L s] .nil).get (.im 0)=some (rO L s):=rfl;have U:=λ{β:Type} {k:KO β} {d:Nat}=>FF (k:=k) (d:=d) x hx g0
 have V:=λ{β:Type} {k:KO β} {d:Nat}=>GX (k:=k) (d:=d) 12 g0
 have A:∀ (a b c d y:Cell),dm [a,b,c,d] 1 [y]=[a,y,c,d]:=λ_ _ _ _ _=>rfl
 have M:IntKind.i64.wrap ((s.p:Int)+1)=((s.p+1:Nat):Int):=by rw[jZ _ bn bn]; omega
 unfold bH;rw[Te,Ko];cases h1:eS L s x with
 |true =>
  have fin:bS true 1 [] ((bm.mk [rO L s] .nil).put (.im 0) (rO L (bJ s)))=some (.dq [],[rO L (bJ s)]):=sP true [] _ rfl rfl (dS L _);simp only[bW,rA,rD,g0,U,h1,A,M,fx];exact fin
 |false =>
  simp only[bW,g0,U,V,h1,fC,gh]
def Ds{β:Type}{k:KO β}{h:bm}{d:Nat}{L:List Tok}{s:RS}(hp:s.p<=1000000)(x:LB)(hx:x≠[])(A:h.get (.im 0)=some (rO L s)):bE Om (F_ 57) [P0,kS x] h d k=k (.dq []) (h.put (.im 0) (rO L (bH L s x))) :=
 ny 57 (.im 0) 0 [] [kS x] _ _ _ rfl rfl A (dS L s) (dS L _) rfl (qRN L s hp x hx)
def dN(L:List Tok)(s:RS):LB×RS:=if (cq L s).kind=1 then ((cq L s).text,bJ s) else ([],b9 s 12)
def qTv(L:List Tok)(s:RS)(hp:s.p<=1000000):Om 61 [P0] [rO L s]=some (kS (dN L s).1,[rO L (dN L s).2]):=by
 refine(gD rfl).trans ?_;show ca tab.get S 61 1 0 [P0] { bY:=[rO L s],cW:=.nil }=_;have g0:(bm.mk [rO L s] .nil).get (.im 0)=some (rO L s):=rfl;have V:=λ{β:Type} {k:KO β} {d:Nat}=>GX (k:=k) (d:=d) 12 g0
 have P1:∀ (a b c d y:Cell),dm [a,b,c,d] 1 [y]=[a,y,c,d]:=λ_ _ _ _ _=>rfl
 have w1:IntKind.i64.wrap ((s.p:Int)+1)=((s.p+1:Nat):Int):=by rw[jZ _ bn bn]; omega
 have w2:IntKind.i64.wrap (((s.p+1:Nat):Int) - 1)=(s.p:Int):=by rw[jZ _ bn bn]; omega
 have A:=λ{β:Type} {O:bD} {h:bm} {d:Nat} {k:KO β}=>wH (O:=O) (h:=h) (d:=d) (k:=k) L
 rw[Tb,Kl];unfold dN;by_cases he:s.e=0
 ·by_cases M:s.p<L.length
  ·have ht:L[s.p]?=some L[s.p]:=fQ M;have U:=λ{β:Type} {k:KO β} {h:bm}=>UW (h:=h) (k:=k) L s.p L[s.p] ht
   have q1:(s.p:Int)<(L.length:Int):=bn
   have pk:=U4 he ht;have r0:∀ t:Tok,t.row[0]?=some (.int .i64 t.kind):=λ_=>rfl
   have r1:∀ t:Tok,t.row[1]?=some (.str t.text):=λ_=>rfl
   rw[pk];generalize L[s.p]=t at *;by_cases h1:t.kind=1
   ·have fin:bS true 1 [.c (.p (.str t.text))] ((bm.mk [rO L s] .nil).put (.im 0) (rO L (bJ s)))=some (kS t.text,[rO L (bJ s)]):=sP true [.c (.p (.str t.text))] _ rfl rfl (dS L _);have g2:((bm.mk [rO L s] .nil).put (.im 0) (.cells [.p (qY L),.p (.int .i64 ((s.p+1:Nat):Int)),.p (.int .i64 s.e),.p (.bool s.tw)] 0)).get (.im 0)=some (.cells [.p (qY L),.p (.int .i64 ((s.p+1:Nat):Int)),.p (.int .i64 s.e),.p (.bool s.tw)] 0):=rfl;rw[he] at g2;rw[bF h1];simp only[bW,rA,rD,g0,he,q1,A,U,r0,r1,h1,P1,w1,w2,g2];have e:rO L (bJ s) = .cells [.p (qY L),.p (.int .i64 ((s.p+1:Nat):Int)),.p (.int .i64 0),.p (.bool s.tw)] 0:=by unfold bJ; rw[he]
    rw[e] at fin ⊢
   ·rw[bA h1];simp only[bW,g0,he,q1,A,U,r0,h1,V]
  ·have q1:¬ (s.p:Int)<(L.length:Int):=bn
   rw[zr (λh=>M h.2),bA bu];simp only[bW,g0,he,q1,A,V]
 ·rw[zr (λh=>he h.1),bA bu];simp only[bW,g0,he,A,V]
def Zk{β:Type}{k:KO β}{h:bm}{d:Nat}{L:List Tok}{s:RS}(hp:s.p<=1000000)(A:h.get (.im 0)=some (rO L s)):bE Om (F_ 61) [P0] h d k=k (kS (dN L s).1) (h.put (.im 0) (rO L (dN L s).2)) :=
 ny 61 (.im 0) 0 [] [] _ _ _ rfl rfl A (dS L s) (dS L _) rfl (qTv L s hp)
def qy(L:List Tok)(s:RS):RS:=if s.tw=true then b9 (if s.p<L.length then b9 s 12 else s) 6 else (if s.p<L.length then b9 s 12 else s)
def R9(s:RS)(e:Int):(b9 s e).tw=s.tw:=by unfold b9; split <;> rfl
def qXR(L:List Tok)(s:RS):Om 62 [P0] [rO L s]=some (kI (qy L s).e,[rO L (qy L s)]):=by
 refine(gD rfl).trans ?_;show ca tab.get S 62 1 0 [P0] { bY:=[rO L s],cW:=.nil }=_;have g0:(bm.mk [rO L s] .nil).get (.im 0)=some (rO L s):=rfl;have V:=λ{β:Type} {k:KO β} {d:Nat}=>GX (k:=k) (d:=d) 12 g0
 have M:=λ{β:Type} {O:bD} {h:bm} {d:Nat} {k:KO β}=>wH (O:=O) (h:=h) (d:=d) (k:=k) L
 have two:∀ (h:bm) (t:RS),h.get (.im 0)=some (rO L t)->ca tab.get S 62 1 2 [P0] h=some (kI t.e,[rO L t]):=λh t A=>by
  rw[SY,Ki];simp only[bW,A]
 have one:∀ (h:bm) (t:RS),h.get (.im 0)=some (rO L t)->ca tab.get S 62 1 1 [P0] h=some (kI (if t.tw=true then b9 t 6 else t).e,[rO L (if t.tw=true then b9 t 6 else t)]):=λh t A=>by
  have V6:=λ{β:Type} {k:KO β} {d:Nat}=>GX (k:=k) (d:=d) 6 A
  rw[SZ,Kj];cases ht:t.tw with
  |true =>
   have:=two (h.put (.im 0) (rO L (b9 t 6))) (b9 t 6) (bm.bX A cb);simp only[bW,A,ht,V6,fx];exact this
  |false =>
   have:=two h t A;simp only[bW,A,ht,fC,gh];exact this
 rw[Ta,Kk];unfold qy;by_cases U:s.p<L.length
 ·have q1:(s.p:Int)<(L.length:Int):=bn
  have:=one ((bm.mk [rO L s] .nil).put (.im 0) (rO L (b9 s 12))) (b9 s 12) rfl;rw[R9] at this;rw[bF U];simp only[bW,g0,q1,M,V];exact this
 ·have q1:¬ (s.p:Int)<(L.length:Int):=bn
  have:=one (bm.mk [rO L s] .nil) s g0;rw[bA U];simp only[bW,g0,q1,M];exact this
def qUZ{β:Type}{O:bD}{h:bm}{d:Nat}{kt:KT β}(sz by':Nat)(x:bt)(rows:List (List bL))(r:Ref) :
  br O (.append sz by' false (.k x) (.k (.v (.c (.gm sz rows r))))) h d kt=br O (.append sz by' false (.k x) (.k (.v (.c (.p (.slice sz false rows)))))) h d kt:=by
 have e:cH .nil (.append sz by' false (.k x) (.k (.v (.c (.gm sz rows r)))))=cH .nil (.append sz by' false (.k x) (.k (.v (.c (.p (.slice sz false rows)))))):=by
  show some (cA.go (kX (hU x) none) _)=some (cA.go (kX (hU x) none) _)
  congr 2
  funext os
  have h1:∀ A,gf sz (.v (.c (.gm sz rows r))) A=gf sz (.v (.c (.p (.slice sz false rows)))) A:=λA=>by cases A <;> rfl
  show(dw (hU x) none os).bind (λp=>(gf sz (.v (.c (.gm sz rows r))) p.2).bind λq=>_)=(dw (hU x) none os).bind (λp=>(gf sz (.v (.c (.p (.slice sz false rows)))) p.2).bind λq=>_);simp only[h1]
 show dO (mB (.append sz by' false (.k x) (.k (.v (.c (.gm sz rows r))))) .nil) (λp=>dO (p.exec O d h) λx=>kt x.1 x.2.1 x.2.2)=dO (mB (.append sz by' false (.k x) (.k (.v (.c (.p (.slice sz false rows)))))) .nil) (λp=>dO (p.exec O d h) λx=>kt x.1 x.2.1 x.2.2);rw[zt,zt,e]
def xZ(sz:Nat)(c:Cell)(rows:List (List bL)):Prop:=∃ b,CA sz b rows/\∀ {β:Type}{O:bD}{h:bm}{d:Nat}{kt:KT β}(by':Nat)(x:bt),br O (.append sz by' false (.k x) (.k (.v (.c c)))) h d kt=br O (.append sz by' false (.k x) (.k (.v (.c (.p b))))) h d kt
def qKW(sz:Nat)(rows:List (List bL))(r:Ref):xZ sz (.gm sz rows r) rows:=⟨.slice sz false rows,.inr ⟨_,rfl⟩,λby' x=>qUZ sz by' x rows r⟩
def qMm(sz:Nat)(t:Bool)(rows:List (List bL)):xZ sz (.p (.slice sz t rows)) rows:=⟨.slice sz t rows,.inr ⟨_,rfl⟩,λby' x=>rfl⟩
def qLC(sz:Nat):xZ sz (.p .bq) []:=⟨.bq,.inl ⟨rfl,rfl⟩,λby' x=>rfl⟩
def Yf{sz:Nat}{c:Cell}{rows:List (List bL)}(B:fh sz c rows)(k:Nat)(A:k<=rows.length):∃ c',(∀ {β:Type}{O:bD}{h:bm}{d:Nat}{kt:KO β},bQ O (.slice sz false (.k (.v (.c c))) none (some (.k (kI (k:Int)))) none) h d kt=kt (.v (.c c')) h)/\xZ sz c' (rows.take k):=by
 rcases B with ⟨rfl,rfl⟩|⟨M,r,rfl⟩
 ·have:k=0:=by simpa using A
  subst this;exact⟨.p .bq,λ{β O h d kt}=>qg _ _ rfl,qLC sz⟩
 ·have e:∃ c',fW sz false (.gm sz rows r) none (some ((k:Int).toNat)) none=some c'/\xZ sz c' (rows.take k):=by
   rw[oJ];show ∃ c',(if sz=sz/\0<=k/\k<=rows.length/\rows.length<=rows.length then (if (none:Option Nat).isNone=true/\k=rows.length/\0<k then some (Cell.gm sz (rows.drop 0) r) else some (.p (.slice sz (jm false k none) ((rows.take k).drop 0)))) else none)=some c'/\xZ sz c' (rows.take k);rw[bF ⟨rfl,bn,A,bn⟩];by_cases h1:k=rows.length/\0<k
   ·rw[bF ⟨rfl,h1.1,h1.2⟩];refine⟨_,rfl,?_⟩;rw[h1.1,tb];exact qKW sz rows r
   ·rw[bA (λU=>h1 U.2)];exact⟨_,rfl,qMm sz _ _⟩
  obtain⟨c',e1,e2⟩:=e;refine⟨c',λ{β O h d kt}=>qg _ _ ?_,e2⟩;show((fW sz false (.gm sz rows r) none (some ((k:Int).toNat)) none).map λc=>cA.pure (.v (.c c)))=_;rw[e1]; rfl
def XZ{sz:Nat}{c:Cell}{rows:List (List bL)}(B:fh sz c rows)(k:Nat)(A:k<=rows.length):∃ c',(∀ {β:Type}{O:bD}{h:bm}{d:Nat}{kt:KT β},br O (.slice sz false (.k (.v (.c c))) (some (.k (kI (k:Int)))) none none) h d kt=kt (.v (.c c')) h cj)/\xZ sz c' (rows.drop k):=by
 rcases B with ⟨rfl,rfl⟩|⟨M,r,rfl⟩
 ·have:k=0:=by simpa using A
  subst this;exact⟨.p .bq,λ{β O h d kt}=>tQ _ _ rfl,qLC sz⟩
 ·have e:∃ c',fW sz false (.gm sz rows r) (some ((k:Int).toNat)) none none=some c'/\xZ sz c' (rows.drop k):=by
   rw[oJ];show ∃ c',(if sz=sz/\k<=rows.length/\rows.length<=rows.length/\rows.length<=rows.length then (if (none:Option Nat).isNone=true/\rows.length=rows.length/\k<rows.length then some (Cell.gm sz (rows.drop k) r) else some (.p (.slice sz (jm false rows.length none) ((rows.take rows.length).drop k)))) else none)=some c'/\xZ sz c' (rows.drop k);rw[bF ⟨rfl,A,bn,bn⟩];by_cases h1:k<rows.length
   ·rw[bF ⟨rfl,rfl,h1⟩];exact⟨_,rfl,qKW sz _ r⟩
   ·rw[bA (λU=>h1 U.2.2),tb];exact⟨_,rfl,qMm sz _ _⟩
  obtain⟨c',e1,e2⟩:=e;refine⟨c',λ{β O h d kt}=>tQ _ _ ?_,e2⟩;show((fW sz false (.gm sz rows r) (some ((k:Int).toNat)) none none).map λc=>cA.pure (.v (.c c)))=_;rw[e1]; rfl
def cu(key:LB):Es->Nat
 |[]=>0
 |p::l=>if cX p.1 key=true then cu key l+1 else 0
def JM(key:LB):∀ l:Es,cu key l<=l.length
 |[]=>cB _
 |p::l=>by
  unfold cu;split
  ·have:=JM key l; rw[di]; omega
  ·exact eV _
def Sq(key:LB):∀ (l:Es) (i:Nat) (p:LB×TT),i<cu key l->l[i]?=some p->cX p.1 key=true
 |[],i,p,h,_=>by simp[cu] at h
 |q::l,i,p,h,hp=>by
  unfold cu at h;split at h
  ·rename_i hb;cases i with
   |zero=>cases hp; exact hb
   |succ i=>exact Sq key l i p bn (by simpa using hp)
  ·omega
def Sc(key:LB):∀ (l:Es) (p:LB×TT),l[cu key l]?=some p->cX p.1 key=false
 |[],p,h=>by simp at h
 |q::l,p,h=>by
  unfold cu at h;split at h
  ·exact Sc key l p (by simpa using h)
  ·rename_i hb;cases h;exact Bool.not_eq_true _▸hb
def iX(l:Es)(p:LB×TT):Es:=l.take (cu p.1 l)++p::l.drop (cu p.1 l)
def qKb(l:Es)(p:LB×TT):(iX l p).length=l.length+1:=by
 have:=JM p.1 l;unfold iX;rw[bV,di,ji,j0]; omega
def iY(l:Es)(key:LB):Bool:=match l[cu key l]? with
 |some q=>decide (q.1=key)
 |none=>false
structure RH (h:bm) (L:List Tok) (s:RS) (kd:Int) (l:Es):Prop where
 a0:h.get (.im 0)=some (rO L s)
 a6:h.get (.own 6 1)=some (.cells z4 0)
 a7:∃ K E,h.get (.own 7 1)=some (.cells [.p (.int .i64 kd),.p (.str []),K,E] 0)/\fh 1 K (l.map oj)/\fh 4 E (l.map qX)
def qTa{h:bm}{L:List Tok}{s:RS}{kd d:Int}{l:Es}(A:RH h L s kd l)(hl:l.length<=1000)(n:LB)(x9:bt):∀ (m k:Nat),k+m=cu n l ->
  ca tab.get S 119 1 2 [P0,kI d,q6,q7,kS n,x9,kI (k:Int)] h=ca tab.get S 119 1 3 [P0,kI d,q6,q7,kS n,x9,kI (cu n l:Int)] h
 |0,k,hk=>by
  have hk:k=cu n l:=bn
  obtain⟨K,E,a7,M,BE⟩:=A.a7;have U:=λ{β:Type} {O:bD} {h:bm} {d:Nat} {k:KO β}=>M.len (O:=O) (h:=h) (d:=d) (k:=k)
  have AT:=λ{β:Type} {h:bm} {k:KO β} (i:Int)=>M.at (h:=h) (k:=k) i
  have ml:(l.map oj).length=l.length:=dj _;subst hk;by_cases h1:cu n l<l.length
  ·obtain⟨p,hp⟩:∃ p,l[cu n l]?=some p:=⟨l[cu n l],bR⟩;have hb:=Sc n l p hp;have q:(cu n l:Int)<(l.length:Int):=bn
   have q0:(0:Int)<=(cu n l:Int):=bn
   have r:(l.map oj)[cu n l]?=some (dg p.1):=by rw[dP,hp]; rfl
   rw[zg,xp];simp only[bW,a7,U,AT,ml,q,q0,r,hb]
  ·have q:¬ (cu n l:Int)<(l.length:Int):=bn
   rw[zg,xp];simp only[bW,a7,U,ml,q]
 |m+1,k,hk=>by
  obtain⟨K,E,a7,M,BE⟩:=A.a7;have U:=λ{β:Type} {O:bD} {h:bm} {d:Nat} {k:KO β}=>M.len (O:=O) (h:=h) (d:=d) (k:=k)
  have AT:=λ{β:Type} {h:bm} {k:KO β} (i:Int)=>M.at (h:=h) (k:=k) i
  have ml:(l.map oj).length=l.length:=dj _;have hle:=JM n l;obtain⟨p,hp⟩:∃ p,l[k]?=some p:=⟨l[k]'bn,bR⟩;have hb:=Sq n l k p bn hp;have q:(k:Int)<(l.length:Int):=bn
  have q0:(0:Int)<=(k:Int):=bn
  have r:(l.map oj)[k]?=some (dg p.1):=by rw[dP,hp]; rfl
  have w:IntKind.i64.wrap ((k:Int)+1)=((k+1:Nat):Int):=by rw[jZ _ bn bn]; omega
  rw[<- qTa A hl n x9 m (k+1) bn,zg,xp];simp only[bW,a7,U,AT,ml,q,q0,r,hb,w]
def Zr{h:bm}{L:List Tok}{s:RS}{kd d:Int}{l:Es}(A:RH h L s kd l)(hl:l.length<=1000)(hs:s.p<=900000)(n:LB)(x:TT)(g:Nat)(a9:h.get (.own 9 g)=some (.cells (bp x.row) 0)) :
  ∃ h',RH h' L { s with tw:=s.tw||iY l n } kd (iX l (n,x))/\(ca tab.get S 119 1 3 [P0,kI d,q6,q7,kS n,.v (.c (.ptr (.own 9 g) 0)),kI (cu n l:Int)] h =
   if eS L { s with tw:=s.tw||iY l n } [44]=true then ca tab.get S 119 1 1 [P0,kI d,q6,q7] (h'.put (.im 0) (rO L (bH L { s with tw:=s.tw||iY l n } [44]))) else ca tab.get S 119 1 4 [P0,q6,q7] h'):=by
 obtain⟨ck,cl,a7,B3,B4⟩:=A.a7;have hle:=JM n l;have m1:(l.map qX).length=l.length:=dj _;have m2:(l.map oj).length=l.length:=dj _;have r1:∀ l:Es,∀ r∈l.map oj,r.length=1:=λl r hr=>by obtain⟨_,_,rfl⟩:=fk.1 hr; rfl
 have r4:∀ l:Es,∀ r∈l.map qX,r.length=4:=λl r hr=>by obtain⟨a,_,rfl⟩:=fk.1 hr; exact TT.ct _
 obtain⟨s3,t3,b3,q3,p3⟩:=Yf B3 (cu n l) (by rw[m2]; exact hle);obtain⟨s4,t4,b4,q4,p4⟩:=Yf B4 (cu n l) (by rw[m1]; exact hle);obtain⟨s5,t5,b5,q5,p5⟩:=XZ B3 (cu n l) (by rw[m2]; exact hle);obtain⟨s6,t6,b6,ag,p6⟩:=XZ B4 (cu n l) (by rw[m1]; exact hle);rw[<- mK] at q3 q4;rw[<- mJ] at q5 ag;generalize hb:(s.tw||iY l n)=b
 -- aI stood ai is told
 obtain⟨hA,af⟩:∃ hA,hA=h.put (.im 0) (rO L { s with tw:=b }):=⟨_,rfl⟩;have iA:hA.get (.im 0)=some (rO L { s with tw:=b }):=by rw[af]; exact bm.bX A.a0 cb
 have oA:∀ d g,hA.get (.own d g)=h.get (.own d g):=λd g=>by rw[af]; rfl
 have ah:∀ (k:bt->bm->dA),(bz false 1 (.v (.c (.ptr (.im 0) 3))) h λab h =>
   bo ab false (λM=>M (kI (cu n l:Int)) h) h λaj h =>
   bo ab false (λM=>bC 2 q7 h M) h λak h =>
   bo ab false (λM=>bz false 1 ak h M) h λal h =>
   bo ab false (λM=>cP Om 2 al h 66 M) h λan h =>
   bo ab false (λM=>bw .lss 0 aj an h M) h λao h =>
   bo ab false (λM=>M ao h) h λad h =>
   bo ad true (λM=>bC 2 q7 h M) h λaq h =>
   bo ad true (λM=>bz false 1 aq h M) h λar h =>
   bo ad true (λM=>M (kI (cu n l:Int)) h) h λau h =>
   bo ad true (λM=>bU 1 ar au h M) h λaw h =>
   bo ad true (λM=>bz false 1 aw h M) h λax h =>
   bo ad true (λM=>M (kS n) h) h λay h =>
   bo ad true (λM=>bw .eql 0 ax ay h M) h λaz h =>
   bo ab false (λM=>bQ Om (.pick (.k ad) (.k az) (.k (kB false))) h 76 M) h λaA h =>
   bQ Om (.pick (.k ab) (.k (kB true)) (.k aA)) h 77 k)=k (kB b) h:=λk=>by
  have LN:=λ{β:Type} {O:bD} {h:bm} {d:Nat} {k:KO β}=>B3.len (O:=O) (h:=h) (d:=d) (k:=k)
  have AT:=λ{β:Type} {h:bm} {k:KO β} (i:Int)=>B3.at (h:=h) (k:=k) i
  cases ht:s.tw with
  |true =>
   rw[ht,oH] at hb;subst hb;simp only[bW,A.a0,ht]
  |false =>
   rw[ht,lP] at hb;by_cases h1:cu n l<l.length
   ·obtain⟨p,hp⟩:∃ p,l[cu n l]?=some p:=⟨l[cu n l],bR⟩;have q:(cu n l:Int)<(l.length:Int):=bn
    have q0:(0:Int)<=(cu n l:Int):=bn
    have r:(l.map oj)[cu n l]?=some (dg p.1):=by rw[dP,hp]; rfl
    have hd:iY l n=decide (p.1=n):=by unfold iY; rw[hp]
    rw[hd] at hb;subst hb;by_cases hk:p.1=n
    ·simp only[bW,A.a0,a7,LN,AT,m2,q,q0,r,ht,hk]
    ·simp only[bW,A.a0,a7,LN,AT,m2,q,q0,r,ht,hk]
   ·have q:¬ (cu n l:Int)<(l.length:Int):=bn
    have hd:iY l n=false:=by unfold iY; rw[ky bn]
    rw[hd] at hb;subst hb;simp only[bW,A.a0,a7,LN,m2,q,ht]
 obtain⟨c1,h1,u1,G1,e1,T1,K1,aB,X1⟩:=sS (h:=hA) (d:=85) (D:=[85,95,100]) (sz:=1) (by':=16) (v:=.p (.slice 1 true [])) (rows:=[]) q3 (.inr (.inl rfl)) bu (r1 _) cM bu;obtain⟨c2,h2,u2,G2,e2,T2,K2,I2,X2⟩:=sS (h:=h1) (d:=91) (D:=[91,104,109]) (sz:=4) (by':=72) (v:=.p (.slice 4 true [])) (rows:=[]) q4 (.inr (.inl rfl)) bu (r4 _) cM bu;have aC:AI.GS [85,95,100] 1 c1 ([]++(l.take (cu n l)).map oj) h2:=G1.dY λe aa g hh=>K2 e g _ (by revert aa; simp; omega) hh
 obtain⟨c3,h3,u3,G3,e3,T3,K3,I3,X3⟩:=sS (h:=h2) (d:=95) (sz:=1) (by':=16) (new:=[[.str n]]) (b:=.slice 1 true [[.str n]]) (.inr ⟨_,rfl⟩) aC bu (λr hr=>by simp at hr; rw[hr]; rfl) cM bu;obtain⟨c4,h4,u4,G4,e4,T4,K4,I4,X4⟩:=sS (d:=100) (by':=16) q5 G3 bu (r1 _) cM bu;have aD:AI.GS [91,104,109] 4 c2 ([]++(l.take (cu n l)).map qX) h4:=G2.dY λe aa g hh=>K4 e g _ (by revert aa; simp; omega) (K3 e g _ (by revert aa; simp; omega) hh)
 obtain⟨c5,h5,u5,G5,e5,T5,K5,I5,X5⟩:=sS (d:=104) (by':=72) (new:=[x.row]) (b:=.slice 4 true [x.row]) (.inr ⟨_,rfl⟩) aD bu (λr hr=>by simp at hr; rw[hr]; exact TT.ct x) cM bu;obtain⟨c6,h6,u6,G6,e6,T6,K6,I6,X6⟩:=sS (d:=109) (by':=72) ag G5 bu (r4 _) cM bu;obtain⟨ra,ea⟩:=X4 (.inr (X3 (.inl bR)));obtain⟨rb,eb⟩:=X6 (.inr (X5 (.inl bR)));have dY:∀ e g o,e∉[85,95,100,91,104,109]->h.get (.own e g)=some o->(h1.get (.own e g)=some o/\h2.get (.own e g)=some o)/\(h3.get (.own e g)=some o/\h4.get (.own e g)=some o)/\h5.get (.own e g)=some o/\h6.get (.own e g)=some o:=by
  intro e g o aa ho;have a1:=K1 e g o (by revert aa; simp <;> omega) ((oA e g).trans ho);have a2:=K2 e g o (by revert aa; simp <;> omega) a1;have a3:=K3 e g o (by revert aa; simp <;> omega) a2;have a4:=K4 e g o (by revert aa; simp <;> omega) a3;have a5:=K5 e g o (by revert aa; simp <;> omega) a4;exact⟨⟨a1,a2⟩,⟨a3,a4⟩,a5,K6 e g o (by revert aa; simp <;> omega) a5⟩
 have v0:hA.get (.own 7 1)=some (.cells [.p (.int .i64 kd),.p (.str []),ck,cl] 0):=(oA 7 1).trans a7;obtain⟨⟨v1,v2⟩,⟨v3,v4⟩,v5,v6⟩:=dY 7 1 _ bu a7;obtain⟨⟨x1,x2⟩,⟨x3,x4⟩,x5,x6⟩:=dY 9 g _ bu a9;obtain⟨⟨y1,y2⟩,⟨y3,y4⟩,y5,y6⟩:=dY 6 1 _ bu A.a6;have i6:h6.get (.im 0)=some (rO L { s with tw:=b }):=by rw[I6,I5,I4,I3,I2,aB]; exact iA
 have A1:AI.Touch.apart u3 ⟨[(Ref.own 9 g).site],[],false⟩=true:=AS T3 9 bu;have A2:AI.Touch.apart u4 ⟨[(Ref.own 9 g).site],[],false⟩=true:=AS T4 9 bu;have A3:AI.Touch.apart u3 ⟨[(Ref.own 7 1).site],[],false⟩=true:=AS T3 7 bu;have A4:AI.Touch.apart u4 ⟨[(Ref.own 7 1).site],[],false⟩=true:=AS T4 7 bu;have A5:AI.Touch.apart u5 ⟨[(Ref.own 7 1).site],[],false⟩=true:=AS T5 7 bu;have P1:∀ a b c d:Cell,dm [a,b,c,d] 2 [c4]=[a,b,c4,d]:=λ_ _ _ _=>rfl
 have P2:∀ a b c d:Cell,dm [a,b,c,d] 3 [c6]=[a,b,c,c6]:=λ_ _ _ _=>rfl
 have P3:∀ a b c d y:Cell,dm [a,b,c,d] 3 [y]=[a,b,c,y]:=λ_ _ _ _ _=>rfl
 have B1:∀ {β:Type}{O:bD}{h:bm}{d:Nat}{kt:KT β},br O (.cm 1 1 [.p (.str [])] [(0,.k (kS n))] false) h d kt=kt (j7 1 true [[.str n]]) h cj:=Yn _ _ rfl;have B2:∀ {β:Type}{O:bD}{h:bm}{d:Nat}{kt:KT β},br O (.cm 4 1 z4 [(0,.k (.v (.agg (bp x.row))))] false) h d kt=kt (j7 4 true [x.row]) h cj:=Hk 4 _ _ rfl (TT.ct x);have E1:∀ {β:Type}{O:bD}{k:KO β},bQ O (.append 1 16 false (.k (j7 1 true [])) (.k (.v (.c s3)))) hA 85 k=k (.v (.c c1)) h1:=λ{β O k}=>by rw[Ch,p3]; exact e1 β O _
 have E2:∀ {β:Type}{O:bD}{k:KO β},bQ O (.append 4 72 false (.k (j7 4 true [])) (.k (.v (.c s4)))) h1 91 k=k (.v (.c c2)) h2:=λ{β O k}=>by rw[Ch,p4]; exact e2 β O _
 have E4:∀ {β:Type}{O:bD}{kt:KT β},br O (.append 1 16 false (.k (.v (.c c3))) (.k (.v (.c s5)))) h3 100 kt=kt (.v (.c c4)) h4 u4:=λ{β O kt}=>by rw[p5]; exact e4 β O _
 have E6:∀ {β:Type}{O:bD}{kt:KT β},br O (.append 4 72 false (.k (.v (.c c5))) (.k (.v (.c s6)))) h5 109 kt=kt (.v (.c c6)) h6 u6:=λ{β O kt}=>by rw[p6]; exact e6 β O _
 have Z1:∀ {β:Type}{O:bD}{h:bm}{d:Nat}{k:KO β},bQ O (.cm 1 0 [.p (.str [])] [] false) h d k=k (j7 1 true []) h:=λ{β O h d k}=>qg _ _ rfl
 have Z2:∀ {β:Type}{O:bD}{h:bm}{d:Nat}{k:KO β},bQ O (.cm 4 0 z4 [] false) h d k=k (j7 4 true []) h:=λ{β O h d k}=>qg _ _ rfl
 have LD:∀ {β:Type}{h:bm}{k:KO β},h.get (.own 9 g)=some (.cells (bp x.row) 0)->bz true 4 (.v (.c (.ptr (.own 9 g) 0))) h k=k (.v (.agg (bp x.row))) h:=λ{β h k} hg=>by
  have e:(bp x.row).take 4=bp x.row:=gz (by rw[qV,TT.ct]; omega);have e2:(bp x.row).length=4:=by rw[qV,TT.ct]
  simp only[bW,hg,e,e2]
 have xl:(bp x.row).length=4:=by rw[qV,TT.ct]
 have xt:(bp x.row).take 4=bp x.row:=gz (by rw[xl]; exact cB _);obtain⟨hB,ae⟩:∃ hB,hB=(h6.own 7 1 (.cells [.p (.int .i64 kd),.p (.str []),c4,cl] 0)).own 7 1 (.cells [.p (.int .i64 kd),.p (.str []),c4,c6] 0):=⟨_,rfl⟩;have iB:hB.get (.im 0)=some (rO L { s with tw:=b }):=by rw[ae]; exact i6
 have aE:hB.get (.own 6 1)=some (.cells z4 0):=by rw[ae,bm.bN _ _ _ _ _ _ bu,bm.bN _ _ _ _ _ _ bu]; exact y6
 have aF:hB.get (.own 7 1)=some (.cells [.p (.int .i64 kd),.p (.str []),c4,c6] 0):=by rw[ae]; exact bm.cC _ 7 1 _ bu cb
 have aG:(iX l (n,x)).map oj=[]++(l.take (cu n l)).map oj++[[.str n]]++(l.drop (cu n l)).map oj:=by unfold iX; simp; rfl
 have aH:(iX l (n,x)).map qX=[]++(l.take (cu n l)).map qX++[x.row]++(l.drop (cu n l)).map qX:=by unfold iX; simp; rfl
 have ne:∀ {α:Type}(f:LB×TT->α),(iX l (n,x)).map f≠[]:=λf=>by unfold iX; simp
 have U:=λ{β:Type} {k:KO β} {d:Nat}=>FF (k:=k) (d:=d) [44] bu iB
 have V:=λ{β:Type} {k:KO β} {d:Nat}=>Ds (k:=k) (d:=d) (s:={ s with tw:=b }) (by show s.p<=1000000; omega) [44] bu iB
 refine⟨hB,⟨iB,aE,c4,c6,aF,.inr ⟨ne _,ra,by rw[aG]; exact ea⟩,.inr ⟨ne _,rb,by rw[aH]; exact eb⟩⟩,?_⟩;have NK:∀ {β:Type}{h:bm}{d:Nat}{k:KO β},bQ Om (.cO (.k P0)) h d k=k P0 h:=λ{β h d k}=>by simp only[bW]
 have FA:∀ {β:Type}{h:bm}{k:KO β},bC 3 P0 h k=k (.v (.c (.ptr (.im 0) 3))) h:=λ{β h k}=>by simp only[bW]
 have ST:∀ {k:bt->bm->dA},bK 1 (.v (.c (.ptr (.im 0) 3))) (kB b) h k=k .undef hA:=λ{k}=>by
  rw[af];simp only[bW,rA,rD,A.a0,P3]
 rw[Nj,EG];rw[NK,FA];refine(ah _).trans ?_;rw[NK,FA,ST];cases hr:eS L { s with tw:=b } [44] with
 |true =>
  rw[hr] at U;simp only[bW,rA,rC,rD,qI,v0,t3,t4,t5,t6,Z1,Z2,E1,E2,e3,E4,e5,E6,v1,v3,v5,v6,x4,xl,xt,B1,B2,rY,A1,A2,A3,A4,A5,P1,P2,<- ae,U,V,fx]
 |false =>
  rw[hr] at U;simp only[bW,rA,rC,rD,qI,v0,t3,t4,t5,t6,Z1,Z2,E1,E2,e3,E4,e5,E6,v1,v3,v5,v6,x4,xl,xt,B1,B2,rY,A1,A2,A3,A4,A5,P1,P2,<- ae,U,fC,gh]
def pC(x:Tok):Bool:=decide (x.kind=1)||(decide (x.kind=4)&&decide (x.text=[123]))
def j8(d:Int)(L:List Tok)(s:RS):RS:=if (pC (cq L s)&&decide (12<d))=true then b9 (cU s (pC (cq L s))) 13 else cU s (pC (cq L s))
def gw(k:Int):TT:=.mk k [] .nil .nil
def eQ:TT:=gw 0
def kR(L:List Tok)(s:RS):RS:=cU (bZ 4 L s [60]) (dU 4 L s [60])
def zJ(L:List Tok)(s:RS):RS:=cU (bZ 4 L s [62]) (dU 4 L s [62])
def ofM(sub:RS->TT×RS)(L:List Tok)(k:Int)(s:RS):TT×RS:=(.mk k [] .nil (.mk true [(sub (kR L s)).1]),zJ L (sub (kR L s)).2)
noncomputable def pR(sub:RS->TT×RS)(L:List Tok)(w:LB)(s:RS):TT×RS :=
 if w=cr 1 then (gw 1,s) else if w=cr 2 then (gw 2,s) else if w=cr 3 then (gw 3,s) else if w=cr 8 then jz sub L 8 s
 else if w=cr 4 then ofM sub L 4 s else if w=cr 5 then ofM sub L 5 s else if w=cr 6 then ofM sub L 6 s else (.mk 9 w .nil .nil,s)
noncomputable def nh(sub:RS->TT×RS)(d:Int)(L:List Tok)(s:RS):TT×RS :=
 if (j8 d L s).e≠0 then (eQ,j8 d L s) else if (cq L s).kind=4 then jz sub L 7 (j8 d L s) else pR sub L (cq L s).text (bJ (j8 d L s))
def sO(sub:RS->TT×RS)(ok:RS->Prop)(L:List Tok)(s:RS):Prop:=yp sub ok L [125] (iC L s)/\(ic sub L [125] (iC L s)).1.length<=1000
def CS(sub:RS->TT×RS)(ok:RS->Prop)(L:List Tok)(w:LB)(s:RS):Prop:=(w=cr 8->sO sub ok L s)/\((w=cr 4\/w=cr 5\/w=cr 6)->ok (kR L s))
def yB(sub:RS->TT×RS)(ok:RS->Prop)(d:Int)(L:List Tok)(s:RS):Prop :=
 (j8 d L s).e=0->((cq L s).kind=4->sO sub ok L (j8 d L s))/\((cq L s).kind≠4->CS sub ok L (cq L s).text (bJ (j8 d L s)))
structure OH (h:bm) (L:List Tok) (s:RS) (x:Tok):Prop where
 g0:h.get (.im 0)=some (rO L s)
 o4:h.get (.own 4 1)=some (.cells z4 0)
 o5:h.get (.own 5 1)=some (.cells x.cells 0)
 g8:h.gen 8=0
abbrev Hw:bt:=.v (.c (.ptr (.own 4 1) 0))
abbrev Hv:bt:=.v (.c (.ptr (.own 5 1) 0))
def qWs(s:RS)(e:Int):(b9 s e).p=s.p:=by unfold b9; split <;> rfl
def W9(d:Int)(L:List Tok)(s:RS):(j8 d L s).p=s.p:=by
 unfold j8;split
 ·rw[qWs,Cc]
 ·rw[Cc]
def qaf(d:Int)(L:List Tok)(s:RS):∃ h,OH h L (j8 d L s) (cq L s)/\ca tab.get S 45 1 0 [P0,kI d] { bY:=[rO L s],cW:=.nil }=ca tab.get S 45 1 1 [P0,kI d,Hw,Hv] h:=by
 have g0:∀ x:bG,((bm.mk [rO L s] .nil).own 4 1 x).get (.im 0)=some (rO L s):=λ_=>rfl
 have U:=λ(x:bG) (β:Type) (k:KO β) (d:Nat)=>W3 (k:=k) (d:=d) (g0 x)
 have gn:(bm.mk [rO L s] .nil).gen 4=0:=rfl;have A:(bm.mk [rO L s] .nil).gen 5=0:=rfl;have P4:∀ a b c d:Cell,dm zT 0 [a,b,c,d]=[a,b,c,d]:=λ_ _ _ _=>rfl
 unfold j8 pC;rw[Xb] at U;generalize hx:cq L s=x at *;generalize M:(((bm.mk [rO L s] .nil).own 4 1 (.cells z4 0)).own 5 1 (.cells zT 0)).own 5 1 (.cells [.p (.int .i64 x.kind),.p (.str x.text),.p (.int .i64 x.n),.p (.int .i64 x.pos)] 0)=H;have H0:H.get (.im 0)=some (rO L s):=by rw[<- M]; rfl
 have aa:=λ(b:Bool) (β:Type) (k:KO β) (d:Nat)=>Jv (k:=k) (d:=d) b H0
 have ab:∀ s',OH (H.put (.im 0) (rO L s')) L s' x:=λs'=>by rw[<- M]; exact⟨rfl,rfl,rfl,rfl⟩
 have ae:∀ s' ad,OH ((H.put (.im 0) (rO L s')).put (.im 0) (rO L ad)) L ad x:=λs' ad=>by rw[<- M]; exact⟨rfl,rfl,rfl,rfl⟩
 have g5:H.get (.own 5 1)=some (.cells [.p (.int .i64 x.kind),.p (.str x.text),.p (.int .i64 x.n),.p (.int .i64 x.pos)] 0):=by rw[<- M]; rfl
 generalize hb:(decide (x.kind=1)||(decide (x.kind=4)&&decide (x.text=[123])))=b;have af:=λ(s':RS) (β:Type) (k:KO β) (d:Nat)=>u56 (k:=k) (d:=d) 13 (ab s').g0
 have GO:ca tab.get S 45 1 0 [P0,kI d] { bY:=[rO L s],cW:=.nil }=(bE Om (F_ 43) [P0,kB b] H 26 λaj h=>bo (kB b) true (λkk=>kk (kI d) h) h λag h=>bo (kB b) true (λkk=>bw .gtr 0 ag (kI 12) h kk) h λah h=>bQ Om (.pick (.k (kB b)) (.k ah) (.k (kB false))) h 31 λai h=>cY ai (bE Om (F_ 107) [P0,kI 13] h 33 λak h=>ca tab.get S 45 1 1 [P0,kI d,Hw,Hv] h) (ca tab.get S 45 1 1 [P0,kI d,Hw,Hv] h)):=by
  rw[Ty,Bu];cases h1:decide (x.kind=1) with
  |true =>
   rw[h1,oH] at hb;subst hb;simp only[bW,rA,rC,rD,rE,U,gn,A,P4,h1,M,g5]
  |false =>
   rw[h1,lP] at hb;cases h4:decide (x.kind=4) with
   |true =>
    rw[h4,gS] at hb;cases ht:decide (x.text=[123]) with
    |true =>
     rw[ht] at hb;subst hb;simp only[bW,rA,rC,rD,rE,U,gn,A,P4,h1,h4,ht,M,g5]
    |false =>
     rw[ht] at hb;subst hb;simp only[bW,rA,rC,rD,rE,U,gn,A,P4,h1,h4,ht,M,g5]
   |false =>
    rw[h4,fH] at hb;subst hb;simp only[bW,rA,rC,rD,rE,U,gn,A,P4,h1,h4,M,g5]
 cases b with
 |false =>
  refine⟨_,ab (cU s false),GO.trans ?_⟩;simp only[bW,aa]
 |true =>
  by_cases hd:12<d
  ·rw[gS,bF (cI hd)];refine⟨_,ae (cU s true) _,GO.trans ?_⟩;simp only[bW,aa,hd,af]
  ·rw[gS,bA (by rw[de hd]; decide)];refine⟨_,ab (cU s true),GO.trans ?_⟩;simp only[bW,aa,hd]
def Ow(t:TT):dm z4 0 (bp t.row)=bp t.row:=yf _ _ (by rw[qV,TT.ct]; rfl)
def R6{h:bm}{L:List Tok}{s:RS}(t:TT)(o:bG)(A:h.get (.im 0)=some (rO L s)):bS true 1 [.agg (bp t.row)] (h.own 4 1 o)=some (kA t.row,[rO L s]) :=
 sP true [.agg (bp t.row)] _ (by simp only[jr]) A (dS L s)
def ZI{d:Int}{L:List Tok}{sub:RS->TT×RS}{okP:RS->Prop}(ok:n8 d L sub okP)(hd:0<=d/\d<=100)(hL:L.length<=1000)(k:Int)(hk:k=4\/k=5\/k=6){h:bm}{s:RS}{x:Tok}(hs:s.p<=L.length)(A:OH h L s x)(hw:x.text=cr k)(ho:okP (kR L s)) :
  ca tab.get S 45 1 2 [P0,kI d,Hw,Hv,kI k] h=some (kA (ofM sub L k s).1.row,[rO L (ofM sub L k s).2]):=by
 have I0:I1 L s:=⟨λ_=>hs,bn⟩;have Ia:I1 L (kR L s):=UO _ (UM bu I0).1;have al:=ok.one _ Ia ho;obtain⟨Ib,_⟩:=ok.inv _ Ia;unfold ofM;have ai:=λ(β:Type) (M:KO β) (d:Nat)=>Dt (k:=M) (d:=d) (by omega:s.p<=1000000) [60] A.g0
 generalize aa:h.put (.im 0) (rO L (bZ 4 L s [60]))=h1 at ai;have G1:h1.get (.im 0)=some (rO L (bZ 4 L s [60])):=by rw[<- aa]; exact bm.bX A.g0 cb
 have ab:=λ(β:Type) (M:KO β) (d:Nat)=>Jv (k:=M) (d:=d) (dU 4 L s [60]) G1
 rw[show cU (bZ 4 L s [60]) (dU 4 L s [60])=kR L s from rfl] at ab;generalize ad:h1.put (.im 0) (rO L (kR L s))=h2 at ab;have G2:h2.get (.im 0)=some (rO L (kR L s)):=by rw[<- ad]; exact bm.bX G1 cb
 have ed:IntKind.i64.wrap (d+1)=d+1:=jZ _ bn bn;generalize hr:sub (kR L s)=r at *;have aj:∀ (β:Type) (M:KO β) (e:Nat),bE Om (F_ 45) [P0,kI (d+1)] h2 e M=M (kA r.1.row) (h2.put (.im 0) (rO L r.2)):=λβ M e =>
  ny 45 (.im 0) 0 [] [kI (d+1)] _ _ _ rfl rfl G2 (dS L _) (dS L _) (by simp only[jr]) al
 generalize ae:h2.put (.im 0) (rO L r.2)=h3 at aj;have G3:h3.get (.im 0)=some (rO L r.2):=by rw[<- ae]; exact bm.bX G2 cb
 have Z3:∀ dd g,h3.get (.own dd g)=h.get (.own dd g):=λdd g=>by rw[<- ae,<- ad,<- aa]; rfl
 have an:h3.gen 8=0:=by rw[<- ae,<- ad,<- aa]; exact A.g8
 obtain⟨a1,a2,a3,a4,gY⟩:∃ a1 a2 a3 a4,r.1.row=[a1,a2,a3,a4]:=by cases r.1; exact⟨_,_,_,_,rfl⟩
 have pr:bp r.1.row=[.p a1,.p a2,.p a3,.p a4]:=by rw[gY]; rfl
 generalize U:(h3.own 8 1 (.cells z4 0)).own 8 1 (.cells (bp r.1.row) 0)=h4;have G4:h4.get (.im 0)=some (rO L r.2):=by rw[<- U]; exact G3
 have o8:h4.get (.own 8 1)=some (.cells (bp r.1.row) 0):=by rw[<- U]; exact bm.cC _ _ _ _ bu cb
 have ao:h4.get (.own 4 1)=some (.cells z4 0):=by rw[<- U]; exact(bm.bN _ 8 _ _ 4 1 bu).trans ((bm.bN _ 8 _ _ 4 1 bu).trans ((Z3 4 1).trans A.o4))
 have aq:r.2.p<=1000000:=by have:=Ib.2; omega
 have ak:=λ(β:Type) (M:KO β) (d:Nat)=>Dt (k:=M) (d:=d) aq [62] G4
 generalize af:h4.put (.im 0) (rO L (bZ 4 L r.2 [62]))=h5 at ak;have G5:h5.get (.im 0)=some (rO L (bZ 4 L r.2 [62])):=by rw[<- af]; exact bm.bX G4 cb
 have ag:=λ(β:Type) (M:KO β) (d:Nat)=>Jv (k:=M) (d:=d) (dU 4 L r.2 [62]) G5
 rw[show cU (bZ 4 L r.2 [62]) (dU 4 L r.2 [62])=zJ L r.2 from rfl] at ag;generalize ah:h5.put (.im 0) (rO L (zJ L r.2))=h6 at ag;have G6:h6.get (.im 0)=some (rO L (zJ L r.2)):=by rw[<- ah]; exact bm.bX G5 cb
 have ar:h6.get (.own 8 1)=some (.cells (bp r.1.row) 0):=by rw[<- ah,<- af]; exact o8
 have o46:h6.get (.own 4 1)=some (.cells z4 0):=by rw[<- ah,<- af]; exact ao
 have au:h.get (.own 5 1)=some (.cells [.p (.int .i64 x.kind),.p (.str x.text),.p (.int .i64 x.n),.p (.int .i64 x.pos)] 0):=A.o5;have k6:¬ (6:Int)<k:=bn
 have B1:∀ (β:Type) (M:KO β) (hh:bm),bQ Om (.cm 4 1 z4 [(0,.k (kA r.1.row))] false) hh 96 M=M (j7 4 true [r.1.row]) hh:=λβ M hh=>by rw[gY]; exact qg _ _ rfl
 have B2:∀ (β:Type) (M:KO β) (hh:bm),bQ Om (.build z4 [(0,1,.k (kI k)),(3,1,.k (j7 4 true [r.1.row]))]) hh 97 M=M (kA (TT.mk k [] .nil (.mk true [r.1])).row) hh:=λ_ _ _=>rfl
 have L4:(bp r.1.row).length=4:=by rw[qV,TT.ct]
 have T4:(bp r.1.row).take 4=bp r.1.row:=gz bn;have Pz:=Ow r.1;have Pk:=Ow (TT.mk k [] .nil (.mk true [r.1]));have Lk:(bp (TT.mk k [] .nil (.mk true [r.1])).row).length=4:=by rw[qV,TT.ct]
 have Tk:(bp (TT.mk k [] .nil (.mk true [r.1])).row).take 4=bp (TT.mk k [] .nil (.mk true [r.1])).row:=gz bn;have fin:=R6 (TT.mk k [] .nil (.mk true [r.1])) (.cells (bp (TT.mk k [] .nil (.mk true [r.1])).row) 0) G6;rw[C5,wo];simp only[bW,rA,rC,rD,k6,au,YS,hw,ai,ab,ed,aj,an,U,ak,ag,ar,o46,B1,B2,L4,T4,Pz,Pk,Lk,Tk,fin]
def qGp{d:Int}{L:List Tok}(k:Int)(hk:k=4\/k=5\/k=6){h:bm}{s:RS}{x:Tok}(A:OH h L s x)(hw:x.text≠cr k) :
  ca tab.get S 45 1 2 [P0,kI d,Hw,Hv,kI k] h=ca tab.get S 45 1 2 [P0,kI d,Hw,Hv,kI (k+1)] h:=by
 have M:h.get (.own 5 1)=some (.cells [.p (.int .i64 x.kind),.p (.str x.text),.p (.int .i64 x.n),.p (.int .i64 x.pos)] 0):=A.o5;have U:¬ (6:Int)<k:=bn
 have ew:IntKind.i64.wrap (k+1)=k+1:=jZ _ bn bn
 conv=>lhs; rw[C5,wo]
 simp only[bW,U,M,YS,hw,ew]
def qSD{d:Int}{L:List Tok}{h:bm}{s:RS}{x:Tok}(A:OH h L s x) :
  ca tab.get S 45 1 2 [P0,kI d,Hw,Hv,kI 7] h=some (kA (TT.mk 9 x.text .nil .nil).row,[rO L s]):=by
 have M:h.get (.own 5 1)=some (.cells [.p (.int .i64 x.kind),.p (.str x.text),.p (.int .i64 x.n),.p (.int .i64 x.pos)] 0):=A.o5;have B2:∀ (β:Type) (U:KO β) (hh:bm),bQ Om (.build z4 [(0,1,.k (kI 9)),(1,1,.k (kS x.text))]) hh 100 U=U (kA (TT.mk 9 x.text .nil .nil).row) hh:=λ_ _ _=>rfl
 have Pk:=Ow (TT.mk 9 x.text .nil .nil);have Lk:(bp (TT.mk 9 x.text .nil .nil).row).length=4:=by rw[qV,TT.ct]
 have Tk:(bp (TT.mk 9 x.text .nil .nil).row).take 4=bp (TT.mk 9 x.text .nil .nil).row:=gz bn;have fin:=R6 (TT.mk 9 x.text .nil .nil) (.cells (bp (TT.mk 9 x.text .nil .nil).row) 0) A.g0;rw[C5,wo];simp only[bW,rF];rw[Tx,Bt];simp only[bW,rA,rC,rD,M,A.o4,B2,Pk,Lk,Tk,fin]
def qVE{d:Int}{L:List Tok}{sub:RS->TT×RS}{okP:RS->Prop}(ok:n8 d L sub okP)(hd:0<=d/\d<=100)(hL:L.length<=1000){h:bm}{s:RS}{x:Tok}(hs:s.p<=L.length)(A:OH h L s x)(ho:(x.text=cr 4\/x.text=cr 5\/x.text=cr 6)->okP (kR L s)) :
  ca tab.get S 45 1 2 [P0,kI d,Hw,Hv,kI 4] h=some (kA (if x.text=cr 4 then ofM sub L 4 s else if x.text=cr 5 then ofM sub L 5 s else if x.text=cr 6 then ofM sub L 6 s else (.mk 9 x.text .nil .nil,s)).1.row,[rO L (if x.text=cr 4 then ofM sub L 4 s else if x.text=cr 5 then ofM sub L 5 s else if x.text=cr 6 then ofM sub L 6 s else (.mk 9 x.text .nil .nil,s)).2]):=by
 by_cases M:x.text=cr 4
 ·rw[bF M]; exact ZI ok hd hL 4 (.inl rfl) hs A M (ho (.inl M))
 ·rw[bA M,qGp 4 (.inl rfl) A M];by_cases U:x.text=cr 5
  ·rw[bF U]; exact ZI ok hd hL 5 (.inr (.inl rfl)) hs A U (ho (.inr (.inl U)))
  ·rw[bA U];refine(qGp 5 (.inr (.inl rfl)) A U).trans ?_;by_cases h6:x.text=cr 6
   ·rw[bF h6]; exact ZI ok hd hL 6 (.inr (.inr rfl)) hs A h6 (ho (.inr (.inr h6)))
   ·rw[bA h6];refine(qGp 6 (.inr (.inr rfl)) A h6).trans ?_;exact qSD A
def qae{d:Int}{L:List Tok}{sub:RS->TT×RS}{okP:RS->Prop}(ok:n8 d L sub okP)(hd:0<=d/\d<=100)(hL:L.length<=1000){h:bm}{s:RS}{x:Tok}(A:OH h L s x)(he:s.e=0)(hs:s.p<=L.length)(aj:x.kind≠4->s.p+1<=L.length)(o4:x.kind=4->sO sub okP L s)(ow:x.kind≠4->CS sub okP L x.text (bJ s)) :
  ca tab.get S 45 1 1 [P0,kI d,Hw,Hv] h=some (kA (if x.kind=4 then jz sub L 7 s else pR sub L x.text (bJ s)).1.row,[rO L (if x.kind=4 then jz sub L 7 s else pR sub L x.text (bJ s)).2]):=by
 have ab:h.get (.own 5 1)=some (.cells [.p (.int .i64 x.kind),.p (.str x.text),.p (.int .i64 x.n),.p (.int .i64 x.pos)] 0):=A.o5;have ae:∀ t:TT,(bp t.row).length=4:=λt=>by rw[qV,TT.ct]
 have Tz:∀ t:TT,(bp t.row).take 4=bp t.row:=λt=>gz (by rw[ae]; exact cB _)
 have af:∀ (kd:Int) (s':RS) (h':bm),h'.get (.im 0)=some (rO L s')->s'.p<=L.length->sO sub okP L s'->∀ (β:Type) (kk:KO β) (e:Nat),bE Om (F_ 109) [P0,kI kd,kI d] h' e kk=kk (kA (jz sub L kd s').1.row) (h'.put (.im 0) (rO L (jz sub L kd s').2)):=λkd s' h' hg hp ro β kk e =>
  ny 109 (.im 0) 0 [] [kI kd,kI d] _ _ _ rfl rfl hg (dS L _) (dS L _) (by simp only[jr]) (qXX ok hd hL kd s' hp ro.1 ro.2)
 rw[IW,yR];cases M:decide (x.kind=4) with
 |true =>
  have h4:=gL M;rw[bF h4];have U:=af 7 s h A.g0 hs (o4 h4);generalize jz sub L 7 s=r at *;have G1:(h.put (.im 0) (rO L r.2)).get (.im 0)=some (rO L r.2):=bm.bX A.g0 cb;have fin:=R6 r.1 (.cells (bp r.1.row) 0) G1;have Pk:=Ow r.1;have Lk:=ae r.1;have Tk:=Tz r.1;simp only[bW,rA,rC,rD,A.g0,he,ab,M,U,A.o4,Pk,Lk,Tk,fin]
 |false =>
  have h4:=sH M;rw[bA h4];have ag:=aj h4;have w1:IntKind.i64.wrap ((s.p:Int)+1)=((s.p+1:Nat):Int):=by rw[jZ _ bn bn]; omega
  have P1:∀ (a b c e y:Cell),dm [a,b,c,e] 1 [y]=[a,y,c,e]:=λ_ _ _ _ _=>rfl
  generalize ah:h.put (.im 0) (rO L (bJ s))=h1;have aa:h.put (.im 0) (.cells [.p (qY L),.p (.int .i64 ((s.p+1:Nat):Int)),.p (.int .i64 0),.p (.bool s.tw)] 0)=h1:=by rw[<- he]; exact ah
  have B:OH h1 L (bJ s) x:=by
   rw[<- ah];exact⟨bm.bX A.g0 cb,A.o4,A.o5,A.g8⟩
  have ad:h1.get (.own 5 1)=some (.cells [.p (.int .i64 x.kind),.p (.str x.text),.p (.int .i64 x.n),.p (.int .i64 x.pos)] 0):=B.o5;obtain⟨ak,al⟩:=ow h4;have LF:∀ k:Int,∀ (β:Type) (kk:KO β) (hh:bm) (dd:Nat),bQ Om (.build z4 [(0,1,.k (kI k))]) hh dd kk=kk (kA (gw k).row) hh:=λ_ _ _ _ _=>rfl
  have fin:=λk=>R6 (gw k) (.cells (bp (gw k).row) 0) B.g0
  have Pl:=λk=>Ow (gw k)
  have Ll:=λk=>ae (gw k)
  have Tl:=λk=>Tz (gw k)
  unfold pR;cases q1:decide (x.text=cr 1) with
  |true =>
   rw[bF (gL q1)];simp only[bW,rA,rC,rD,A.g0,he,ab,M,w1,P1,aa,ad,u32,q1,LF,B.o4,Pl,Ll,Tl,fin]
  |false =>
   rw[bA (sH q1)];cases q2:decide (x.text=cr 2) with
   |true =>
    rw[bF (gL q2)];simp only[bW,rA,rC,rD,A.g0,he,ab,M,w1,P1,aa,ad,u32,q1,q2,LF,B.o4,Pl,Ll,Tl,fin]
   |false =>
    rw[bA (sH q2)];cases q3:decide (x.text=cr 3) with
    |true =>
     rw[bF (gL q3)];simp only[bW,rA,rC,rD,A.g0,he,ab,M,w1,P1,aa,ad,u32,q1,q2,q3,LF,B.o4,Pl,Ll,Tl,fin]
    |false =>
     rw[bA (sH q3)];cases q8:decide (x.text=cr 8) with
     |true =>
      rw[bF (gL q8)];have U:=af 8 (bJ s) h1 B.g0 ag (ak (gL q8));generalize jz sub L 8 (bJ s)=r at *;have G1:(h1.put (.im 0) (rO L r.2)).get (.im 0)=some (rO L r.2):=bm.bX B.g0 cb;have ai:=R6 r.1 (.cells (bp r.1.row) 0) G1;have Pk:=Ow r.1;have Lk:=ae r.1;have Tk:=Tz r.1;simp only[bW,rA,rC,rD,A.g0,he,ab,M,w1,P1,aa,ad,u32,q1,q2,q3,q8,LF,B.o4,Ll,U,Pk,Lk,Tk,ai]
     |false =>
      rw[bA (sH q8)];refine jD ?_ (qVE ok hd hL ag B al);simp only[bW,rA,rC,rD,A.g0,he,ab,M,w1,P1,aa,ad,u32,q1,q2,q3,q8,LF,Ll]
def CJ{s:RS}{e:Int}(he:e≠0)(h:(b9 s e).e=0):False:=UN s e he h
def UY{s:RS}{b:Bool}(h:(cU s b).e=0):b=true/\s.e=0:=by
 unfold cU at h;split at h
 ·rename_i hb; exact⟨hb,h⟩
 ·exact absurd h (UN _ _ bu)
def US{d:Int}{L:List Tok}{s:RS}(h:(j8 d L s).e=0):j8 d L s=s/\pC (cq L s)=true/\s.e=0/\d<=12:=by
 unfold j8 at h ⊢;split at h
 ·exact absurd h (UN _ _ bu)
 ·rename_i hb;obtain⟨h1,A⟩:=UY h;rw[bA hb];refine⟨by rw[h1]; rfl,h1,A,?_⟩;rw[h1,gS,dF] at hb;omega
def qXD{d:Int}{L:List Tok}{sub:RS->TT×RS}{okP:RS->Prop}(ok:n8 d L sub okP)(hd:0<=d/\d<=100)(hL:L.length<=1000)(s:RS)(I:I1 L s)(o:yB sub okP d L s) :
  Om 45 [P0,kI d] [rO L s]=some (kA (nh sub d L s).1.row,[rO L (nh sub d L s).2]):=by
 refine(gD rfl).trans ?_;show ca tab.get S 45 1 0 [P0,kI d] { bY:=[rO L s],cW:=.nil }=_;obtain⟨h,A,e⟩:=qaf d L s;rw[e];unfold nh;by_cases he:(j8 d L s).e=0
 ·obtain⟨h1,M,h3,h4⟩:=US he;obtain⟨o1,o2⟩:=o he;rw[bA (λh=>h he)];have hp:=I.1 h3;have U:(cq L s).kind≠4->(j8 d L s).p+1<=L.length:=λhk=>by
   rw[W9];unfold pC at M;rw[de hk,fH,oE,dF] at M;exact(Ox (by rw[M]; decide)).2
  exact qae ok hd hL A he (by rw[W9]; exact hp) U o1 o2
 ·rw[bF he];have LF:∀ (β:Type) (kk:KO β) (hh:bm),bQ Om (.build z4 []) hh 39 kk=kk (kA eQ.row) hh:=λ_ _ _=>rfl
  have fin:=R6 eQ (.cells (bp eQ.row) 0) A.g0;have Pl:=Ow eQ;have Ll:(bp eQ.row).length=4:=rfl;have Tl:(bp eQ.row).take 4=bp eQ.row:=rfl;have A0:=A.g0;generalize j8 d L s=s2 at *;rw[IW,yR];simp only[bW,rA,rC,rD,A0,he,LF,A.o4,Pl,Ll,Tl,fin]
def Inv(L:List Tok)(sub:RS->TT×RS):Prop:=∀ s,I1 L s->I1 L (sub s).2/\s.p<=(sub s).2.p
def JQ{L:List Tok}{sub:RS->TT×RS}(inv:Inv L sub){s:RS}(h:s.p<=L.length):I1 L (dz sub L s).2/\s.p<=(dz sub L s).2.p:=by
 obtain⟨h1,M⟩:=JE h;obtain⟨A,U⟩:=inv _ h1;exact⟨A,by show s.p<=(sub (jh L s)).2.p; omega⟩
def sQ{L:List Tok}{s:RS}(x:LB)(h:I1 L s):I1 L (cU (bZ 4 L s x) (dU 4 L s x))/\s.p<=(cU (bZ 4 L s x) (dU 4 L s x)).p:=by
 obtain⟨h1,A⟩:=UM (k:=4) (x:=x) bu h;exact⟨UO _ h1,by rw[Cc]; exact A⟩
def qLO{L:List Tok}{sub:RS->TT×RS}(inv:Inv L sub)(x:LB):∀ (f:Nat) (s:RS) (acc:Es),I1 L s->I1 L (gu sub L x f s acc).2/\s.p<=(gu sub L x f s acc).2.p
 |0,s,acc,h=>⟨h,cB _⟩
 |f+1,s,acc,h=>by
  unfold gu;split
  ·rename_i hi;have hl:=(zo bu hi).2;have hn:(bJ s).p<=L.length:=hl;obtain⟨h1,M⟩:=JQ inv hn;obtain⟨A,U⟩:=qLO inv x f _ (acc++[(dz sub L (bJ s)).1]) h1;refine⟨A,?_⟩;have:(bJ s).p=s.p+1:=rfl;omega
  ·exact sQ x h
def qU9{L:List Tok}{sub:RS->TT×RS}(inv:Inv L sub)(x:LB){s:RS}(h:s.p<=L.length):I1 L (ic sub L x s).2/\s.p<=(ic sub L x s).2.p:=by
 unfold ic;split
 ·rename_i hi;have hl:=(zo bu hi).2;exact⟨⟨λ_=>hl,by show s.p+1<=_; omega⟩,by show s.p<=s.p+1; omega⟩
 ·obtain⟨h1,M⟩:=JQ inv h;obtain⟨A,U⟩:=qLO inv x (L.length+2) _ [(dz sub L s).1] h1;exact⟨A,bn⟩
def qWE{L:List Tok}{s:RS}:s.p<=(iC L s).p:=by
 unfold iC;rw[Cc];unfold bZ;split
 ·show s.p<=s.p+1; omega
 ·exact cB _
def qNM{L:List Tok}{sub:RS->TT×RS}(inv:Inv L sub)(kd:Int){s:RS}(h:s.p<=L.length):I1 L (jz sub L kd s).2/\s.p<=(jz sub L kd s).2.p:=by
 obtain⟨h1,A⟩:=qU9 inv [125] (UK h);have M:=qWE (L:=L) (s:=s);exact⟨⟨h1.1,h1.2⟩,by show s.p<=(ic sub L [125] (iC L s)).2.p; omega⟩
def ZH{L:List Tok}{sub:RS->TT×RS}(inv:Inv L sub)(k:Int){s:RS}(h:s.p<=L.length):I1 L (ofM sub L k s).2/\s.p<=(ofM sub L k s).2.p:=by
 obtain⟨h1,A⟩:=sQ (L:=L) (s:=s) [60] ⟨λ_=>h,bn⟩;obtain⟨M,U⟩:=inv _ h1;obtain⟨h5,h6⟩:=sQ [62] M
 exact⟨h5,by
  show s.p<=(cU (bZ 4 L (sub (kR L s)).2 [62]) (dU 4 L (sub (kR L s)).2 [62])).p;have aa:s.p<=(kR L s).p:=A;have ab:(kR L s).p<=(sub (kR L s)).2.p:=U;have ad:(sub (kR L s)).2.p<=(cU (bZ 4 L (sub (kR L s)).2 [62]) (dU 4 L (sub (kR L s)).2 [62])).p:=h6
  omega⟩
def qUf{L:List Tok}{sub:RS->TT×RS}(inv:Inv L sub)(w:LB){s:RS}(h:s.p<=L.length):I1 L (pR sub L w s).2/\s.p<=(pR sub L w s).2.p:=by
 have A:I1 L s/\s.p<=s.p:=⟨⟨λ_=>h,bn⟩,cB _⟩;unfold pR;split
 ·exact A
 split
 ·exact A
 split
 ·exact A
 split
 ·exact qNM inv 8 h
 split
 ·exact ZH inv 4 h
 split
 ·exact ZH inv 5 h
 split
 ·exact ZH inv 6 h
 ·exact A
def qUL{L:List Tok}{sub:RS->TT×RS}(inv:Inv L sub)(d:Int):Inv L (nh sub d L):=by
 intro s I;unfold nh;by_cases he:(j8 d L s).e=0
 ·obtain⟨h1,A,U,h4⟩:=US he;rw[bA (λh=>h he),h1];have hp:=I.1 U;by_cases M:(cq L s).kind=4
  ·rw[bF M]; exact qNM inv 7 hp
  ·rw[bA M];unfold pC at A;rw[de M,fH,oE,dF] at A;have hl:=(Ox (L:=L) (s:=s) (by rw[A]; decide)).2;obtain⟨h5,h6⟩:=qUf inv (cq L s).text (s:=bJ s) (by show s.p+1<=_; omega);have:(bJ s).p=s.p+1:=rfl;exact⟨h5,bn⟩
 ·rw[bF he];refine⟨⟨λh=>absurd h he,by rw[W9]; exact I.2⟩,by rw[W9]; exact cB _⟩
noncomputable def gi(L:List Tok):Nat->Int->RS->TT×RS
 |0,_=>λs=>(eQ,s)
 |n+1,d=>nh (gi L n (d+1)) d L
def okF(L:List Tok):Nat->Int->RS->Prop
 |0,_=>λ_=>False
 |n+1,d=>yB (gi L n (d+1)) (okF L n (d+1)) d L
def CL(L:List Tok):∀ (n:Nat) (d:Int),Inv L (gi L n d)
 |0,d=>λs I=>⟨I,cB _⟩
 |n+1,d=>qUL (CL L n (d+1)) d
def qMX{L:List Tok}(A:L.length<=1000):∀ (n:Nat) (d:Int),0<=d->d+n<=100->∀ s,I1 L s->okF L n d s->Om 45 [P0,kI d] [rO L s]=some (kA (gi L n d s).1.row,[rO L (gi L n d s).2])
 |0,d,_,_,s,I,o=>o.elim
 |n+1,d,h0,h1,s,I,o =>
  qXD (sub:=gi L n (d+1)) (okP:=okF L n (d+1)) ⟨λs I o=>qMX A n (d+1) bn bn s I o,CL L n (d+1)⟩ ⟨h0,bn⟩ A s I o
structure n7 (d:Int) (L:List Tok) (sub:RS->TT×RS):Prop where
 one:∀ s,I1 L s->Om 58 [P0,kI (d+1)] [rO L s]=some (kA (sub s).1.row,[rO L (sub s).2])
 inv:∀ s,I1 L s->I1 L (sub s).2/\s.p<=(sub s).2.p
def zu{L:List Tok}{s:RS}{x:LB}(hx:x≠[])(h:eS L s x=true):s.e=0/\s.p<L.length:=by
 by_cases A:s.e=0/\s.p<L.length
 ·exact A
 ·unfold eS at h;rw[zr A] at h;have M:Tok.zero.text=[]:=rfl;rw[M,de (λe=>hx e.symm)] at h;cases h
def JA{L:List Tok}{s:RS}{e:Int}(he:e≠0)(h:s.p<=L.length+1):I1 L (b9 s e)/\s.p=(b9 s e).p:=by
 have hp:(b9 s e).p=s.p:=by unfold b9; split <;> rfl
 refine⟨⟨λh0=>?_,by rw[hp]; exact h⟩,hp.symm⟩;unfold b9 at h0;split at h0
 ·exact absurd h0 he
 ·rename_i A; exact absurd h0 A
def rX{L:List Tok}{s:RS}{x:LB}(hx:x≠[])(I:I1 L s):I1 L (bH L s x)/\s.p<=(bH L s x).p:=by
 unfold bH;split
 ·rename_i h;obtain⟨h1,A⟩:=zu hx h;exact⟨⟨λ_=>by show s.p+1<=_; omega,by show s.p+1<=_; omega⟩,by show s.p<=s.p+1; omega⟩
 ·obtain⟨a,b⟩:=JA (L:=L) (s:=s) (e:=12) bu I.2;exact⟨a,bn⟩
def Oc{L:List Tok}{s:RS}(I:I1 L s):I1 L (dN L s).2/\s.p<=(dN L s).2.p:=by
 unfold dN;split
 ·rename_i h;have M:s.e=0/\s.p<L.length:=by
   by_cases A:s.e=0/\s.p<L.length
   ·exact A
   ·rw[zr A] at h; cases h
  exact⟨⟨λ_=>by show s.p+1<=_; omega,by show s.p+1<=_; omega⟩,by show s.p<=s.p+1; omega⟩
 ·obtain⟨a,b⟩:=JA (L:=L) (s:=s) (e:=12) bu I.2;exact⟨a,by show s.p<=(b9 s 12).p; omega⟩
def zl(L:List Tok)(s:RS)(l:Es):Bool:=decide (s.e=0) && !(l.isEmpty&&eS L s [125])
def fG(sub:RS->TT×RS)(L:List Tok)(s:RS):(LB×TT)×RS:=(((dN L s).1,(sub (bH L (dN L s).2 [58])).1),(sub (bH L (dN L s).2 [58])).2)
def lW(l:Es)(n:LB)(s:RS):RS:={ s with tw:=s.tw||iY l n }
def gF(sub:RS->TT×RS)(L:List Tok):Nat->RS->Es->Es×RS
 |0,s,l=>(l,s)
 |f+1,s,l=>if zl L s l=true then
   (if eS L (lW l (fG sub L s).1.1 (fG sub L s).2) [44]=true then gF sub L f (bH L (lW l (fG sub L s).1.1 (fG sub L s).2) [44]) (iX l (fG sub L s).1)
   else (iX l (fG sub L s).1,lW l (fG sub L s).1.1 (fG sub L s).2))
  else (l,s)
def kG(sub:RS->TT×RS)(L:List Tok)(kd:Int)(s:RS):TT×RS :=
 (fe kd (gF sub L (L.length+2) (bH L s [123]) []).1,bH L (gF sub L (L.length+2) (bH L s [123]) []).2 [125])
def RH.put{h:bm}{L:List Tok}{s t:RS}{kd:Int}{l:Es}(A:RH h L s kd l):RH (h.put (.im 0) (rO L t)) L t kd l :=
 ⟨bm.bX A.a0 cb,A.a6,A.a7⟩
def RH.Vy{h:bm}{L:List Tok}{s:RS}{kd:Int}{l:Es}(A:RH h L s kd l)(g:Nat)(o:bG):RH (h.own 9 g o) L s kd l:=by
 obtain⟨K,E,a,b,c⟩:=A.a7;exact⟨A.a0,by rw[bm.bN _ _ _ _ _ _ bu]; exact A.a6,K,E,by rw[bm.bN _ _ _ _ _ _ bu]; exact a,b,c⟩
def qPD{L:List Tok}{sub:RS->TT×RS}(inv:Inv L sub){s:RS}(I:I1 L s):I1 L (fG sub L s).2/\s.p<=(fG sub L s).2.p:=by
 obtain⟨a,b⟩:=Oc I;obtain⟨c,d⟩:=rX (x:=[58]) bu a;obtain⟨e,f⟩:=inv _ c;exact⟨e,by show s.p<=(sub (bH L (dN L s).2 [58])).2.p; omega⟩
def qRK{d:Int}{L:List Tok}{sub:RS->TT×RS}(ok:n7 d L sub)(hd:0<=d/\d<=100)(hL:L.length<=1000){h:bm}{s:RS}{kd:Int}{l:Es}(A:RH h L s kd l)(I:I1 L s)(hl:l.length<=1000)(M:zl L s l=true) :
  ∃ h' g,RH h' L (fG sub L s).2 kd l/\h'.get (.own 9 g)=some (.cells (bp (fG sub L s).1.2.row) 0)/\ca tab.get S 119 1 1 [P0,kI d,q6,q7] h=ca tab.get S 119 1 2 [P0,kI d,q6,q7,kS (fG sub L s).1.1,.v (.c (.ptr (.own 9 g) 0)),kI 0] h':=by
 have hp:=I.2;obtain⟨ad,p1⟩:=Oc I;obtain⟨I2,p2⟩:=rX (x:=[58]) bu ad;have A1:=A.put (t:=(dN L s).2);have A2:=A1.put (t:=bH L (dN L s).2 [58]);have A3:=A2.put (t:=(fG sub L s).2);have ab:=λ{β:Type} {k:KO β} {d:Nat}=>Zk (k:=k) (d:=d) (L:=L) (s:=s) bn A.a0
 have ae:=λ{β:Type} {k:KO β} {d:Nat}=>Ds (k:=k) (d:=d) (L:=L) (s:=(dN L s).2) (by have:=ad.2; omega) [58] bu A1.a0
 have HW:∀ {β:Type}{k:KO β}{e:Nat},bE Om (F_ 58) [P0,kI (d+1)] ((h.put (.im 0) (rO L (dN L s).2)).put (.im 0) (rO L (bH L (dN L s).2 [58]))) e k=k (kA (fG sub L s).1.2.row) (((h.put (.im 0) (rO L (dN L s).2)).put (.im 0) (rO L (bH L (dN L s).2 [58]))).put (.im 0) (rO L (fG sub L s).2)):=λ{β k e} =>
  ny 58 (.im 0) 0 [] [kI (d+1)] _ _ _ rfl rfl A2.a0 (dS L _) (dS L _) (by simp only[jr]) (ok.one _ I2)
 have wd:IntKind.i64.wrap (d+1)=d+1:=jZ _ bn bn;obtain⟨K,E,a7,BK,BE⟩:=A.a7;have LN:=λ{β:Type} {O:bD} {h:bm} {d:Nat} {k:KO β}=>BK.len (O:=O) (h:=h) (d:=d) (k:=k)
 have ml:(l.map oj).length=l.length:=dj _;have U:=λ{β:Type} {k:KO β} {d:Nat}=>FF (k:=k) (d:=d) [125] bu A.a0
 generalize hE:fG sub L s=e at *;have en:e.1.1=(dN L s).1:=by rw[<- hE]; rfl
 rw[<- en] at ab;generalize dN L s=n at *;generalize hH:((h.put (.im 0) (rO L n.2)).put (.im 0) (rO L (bH L n.2 [58]))).put (.im 0) (rO L e.2)=h3 at *;have PT:dm z4 0 (bp e.1.2.row)=bp e.1.2.row:=yf _ _ (by rw[qV,TT.ct]; rfl);have xl:(bp e.1.2.row).length=4:=by rw[qV,TT.ct]
 obtain⟨g,hg⟩:∃ g,g=h3.gen 9+1:=⟨_,rfl⟩;refine⟨(h3.own 9 g (.cells z4 0)).own 9 g (.cells (bp e.1.2.row) 0),g,(A3.Vy _ _).Vy _ _,bm.cC _ 9 g _ bu cb,?_⟩;have af:s.e=0:=by
  unfold zl at M;rw[fj,dF] at M;exact M.1
 have A0:=A.a0;rw[Dj,Ad];by_cases aa:l=[]
 ·subst aa;have hr:eS L s [125]=false:=by
   unfold zl at M;rw[fj] at M
   simpa using M.2
  rw[hr] at U;simp (maxSteps:=9^7) +contextual only[bW,rA,rC,A0,af,a7,LN,kL,U,ab,ae,wd,HW,<- hg,PT,xl,cB]
 ·have q:¬ (l.length:Int)=0:=by have:=xK.2 aa; omega
  simp (maxSteps:=9^7) +contextual only[bW,rA,rC,A0,af,a7,LN,ml,q,U,ab,ae,wd,HW,<- hg,PT,xl,cB]
def qK4{d:Int}{L:List Tok}{sub:RS->TT×RS}(ok:n7 d L sub)(hd:0<=d/\d<=100)(hL:L.length<=900){kd:Int}:∀ (f:Nat) (s:RS) (l:Es) (h:bm),RH h L s kd l->I1 L s->L.length+1 - s.p<f->l.length+(L.length+1 - s.p)<=L.length+1 ->
  ∃ h',RH h' L (gF sub L f s l).2 kd (gF sub L f s l).1/\I1 L (gF sub L f s l).2/\ca tab.get S 119 1 1 [P0,kI d,q6,q7] h=ca tab.get S 119 1 4 [P0,q6,q7] h'
 |0,s,l,h,A,I,hf,hn=>bn
 |f+1,s,l,h,A,I,hf,hn=>by
  unfold gF;cases M:zl L s l with
  |false =>
   rw[bA bu];refine⟨h,A,I,?_⟩;have A0:=A.a0;obtain⟨K,E,a7,BK,BE⟩:=A.a7;have LN:=λ{β:Type} {O:bD} {h:bm} {d:Nat} {k:KO β}=>BK.len (O:=O) (h:=h) (d:=d) (k:=k)
   have U:=λ{β:Type} {k:KO β} {d:Nat}=>FF (k:=k) (d:=d) [125] bu A.a0
   rw[Dj,Ad];by_cases he:s.e=0
   ·have h2:l.isEmpty=true/\eS L s [125]=true:=by
     unfold zl at M;rw[cI he,gS] at M
     simpa using M
    have aa:l=[]:=List.isEmpty_iff.1 h2.1;subst aa;rw[h2.2] at U;have ab:((0:Nat):Int)=0:=rfl;simp only[bW,A0,he,a7,LN,kL,U,ab]
   ·simp only[bW,A0,he]
  |true =>
   rw[bF rfl];obtain⟨h1,g,A1,a9,e1⟩:=qRK ok hd bn A I bn M;obtain⟨Ie,pe⟩:=qPD ok.inv I;have e2:=qTa A1 bn (d:=d) (fG sub L s).1.1 (.v (.c (.ptr (.own 9 g) 0))) (cu (fG sub L s).1.1 l) 0 bn;obtain⟨h2,A2,e3⟩:=Zr A1 bn (by have:=Ie.2; omega) (d:=d) (fG sub L s).1.1 (fG sub L s).1.2 g a9;have hz:kI ((0:Nat):Int)=kI 0:=rfl;rw[hz] at e2;have e4:=e1.trans (e2.trans e3);change RH h2 L (lW l (fG sub L s).1.1 (fG sub L s).2) kd (iX l (fG sub L s).1) at A2;change ca tab.get S 119 1 1 [P0,kI d,q6,q7] h=(if eS L (lW l (fG sub L s).1.1 (fG sub L s).2) [44]=true then ca tab.get S 119 1 1 [P0,kI d,q6,q7] (h2.put (.im 0) (rO L (bH L (lW l (fG sub L s).1.1 (fG sub L s).2) [44]))) else ca tab.get S 119 1 4 [P0,q6,q7] h2) at e4;have It:I1 L (lW l (fG sub L s).1.1 (fG sub L s).2):=Ie;cases hr:eS L (lW l (fG sub L s).1.1 (fG sub L s).2) [44] with
   |false =>
    rw[hr,bA bu] at e4;rw[bA bu];exact⟨h2,A2,It,e4⟩
   |true =>
    rw[hr,bF rfl] at e4;rw[bF rfl];obtain⟨g1,g2⟩:=zu bu hr;have g2:(fG sub L s).2.p<L.length:=g2;have ad:(bH L (lW l (fG sub L s).1.1 (fG sub L s).2) [44]).p=(fG sub L s).2.p+1:=by unfold bH; rw[bF hr]; rfl
    obtain⟨h3,A3,I3,e5⟩:=qK4 ok hd hL f _ (iX l (fG sub L s).1) _ A2.put (rX (x:=[44]) bu It).1 bn (by rw[qKb]; omega);exact⟨h3,A3,I3,e4.trans e5⟩
def qWi{d:Int}{L:List Tok}{sub:RS->TT×RS}(ok:n7 d L sub)(hd:0<=d/\d<=100)(hL:L.length<=900)(kd:Int)(s:RS)(I:I1 L s) :
  Om 119 [P0,kI kd,kI d] [rO L s]=some (kA (kG sub L kd s).1.row,[rO L (kG sub L kd s).2]):=by
 refine(gD rfl).trans ?_;show ca tab.get S 119 1 0 [P0,kI kd,kI d] (bm.mk [rO L s] .nil)=_;obtain⟨I2,_⟩:=rX (x:=[123]) bu I;have A:RH (((((bm.mk [rO L s] .nil).own 6 1 (.cells z4 0)).own 7 1 (.cells z4 0)).own 7 1 (.cells [.p (.int .i64 kd),.p (.str []),.p .bq,.p .bq] 0)).put (.im 0) (rO L (bH L s [123]))) L (bH L s [123]) kd [] :=
  ⟨rfl,rfl,.p .bq,.p .bq,rfl,.inl ⟨rfl,rfl⟩,.inl ⟨rfl,rfl⟩⟩
 obtain⟨h1,M,I3,e1⟩:=qK4 ok hd hL (L.length+2) _ [] _ A I2 bn (by show 0+_<=_; omega);have hR:kG sub L kd s=(fe kd (gF sub L (L.length+2) (bH L s [123]) []).1,bH L (gF sub L (L.length+2) (bH L s [123]) []).2 [125]):=rfl;rw[hR];generalize gF sub L (L.length+2) (bH L s [123]) []=r at *;have c0:=λ{β:Type} {k:KO β} {d:Nat}=>Ds (k:=k) (d:=d) (L:=L) (s:=s) (by have:=I.2; omega) [123] bu (show((((bm.mk [rO L s] .nil).own 6 1 (.cells z4 0)).own 7 1 (.cells z4 0)).own 7 1 (.cells [.p (.int .i64 kd),.p (.str []),.p .bq,.p .bq] 0)).get (.im 0)=some (rO L s) from rfl)
 have P:∀ a b c d:Cell,dm z4 0 [a,b,c,d]=[a,b,c,d]:=λ_ _ _ _=>yf _ _ rfl
 have BB:∀ {β:Type}{k:KO β}{h:bm},bQ Om (.build z4 [(0,1,.k (kI kd))]) h 14 k=k (.v (.agg [.p (.int .i64 kd),.p (.str []),.p .bq,.p .bq])) h:=λ{β k h}=>rfl
 have st:ca tab.get S 119 1 0 [P0,kI kd,kI d] (bm.mk [rO L s] .nil)=ca tab.get S 119 1 1 [P0,kI d,q6,q7] (((((bm.mk [rO L s] .nil).own 6 1 (.cells z4 0)).own 7 1 (.cells z4 0)).own 7 1 (.cells [.p (.int .i64 kd),.p (.str []),.p .bq,.p .bq] 0)).put (.im 0) (rO L (bH L s [123]))):=by
  have z1:(bm.mk [rO L s] .nil).gen 6=0:=rfl;have z2:(bm.mk [rO L s] .nil).gen 7=0:=rfl;rw[Nk,EH];simp only[bW,rA,rC,rE,z1,z2,BB,P,c0,cB]
 refine st.trans (e1.trans ?_);obtain⟨K,E,a7,U,BE⟩:=M.a7;have c2:=λ{β:Type} {k:KO β} {d:Nat}=>Ds (k:=k) (d:=d) (L:=L) (s:=r.2) (by have:=I3.2; omega) [125] bu M.a0
 have A2:=M.put (t:=bH L r.2 [125]);have b7:(h1.put (.im 0) (rO L (bH L r.2 [125]))).get (.own 7 1)=some (.cells [.p (.int .i64 kd),.p (.str []),K,E] 0):=a7;have b6:=A2.a6;have b0:=A2.a0;generalize h1.put (.im 0) (rO L (bH L r.2 [125]))=h2 at *;have fin:∀ h:bm,h.get (.im 0)=some (rO L (bH L r.2 [125]))->bS true 1 [.agg [.p (.int .i64 kd),.p (.str []),K,E]] h=some (kA (fe kd r.1).row,[rO L (bH L r.2 [125])]):=by
  intro h hg;rw[ZS _ (rO L (bH L r.2 [125])) (by show([Cell.p (.int .i64 kd),.p (.str []),K,E].all ru&&true)=true; simp only[oI,sI,U.pt,BE.pt]; rfl) hg (dS L _)];show some (bt.v (.agg [.p (.int .i64 kd),.p (.str []),K.strip,E.strip]),_)=_;rw[U.strip,BE.strip,qK3];rfl
 rw[Ni,EF];simp only[bW,rA,rC,c2,b7,b6,P,cB];exact fin _ b0
def bP(src:LB):List Tok×Int:=match jO src with
 |.error e=>([],e)
 |.ok l=>(l,0)
def qF1(src:LB):kW (jO src) = .dq [.c (.p (qY (bP src).1)),.c (.p (.int .i64 (bP src).2))]:=by
 unfold bP;cases jO src <;> rfl
abbrev qf(src:LB):RS:=⟨0,(bP src).2,false⟩
def qLN(L:List Tok)(s:RS):AE [rO L s]:=Fy.N8 ⟨(dS L s).1,cb,(λo ho=>by cases ho),bu⟩
def qV3(src:LB):Om 42 [kS src] []=some (.v (.c (.ptr (.im 0) 0)),[rO (bP src).1 (qf src)]):=by
 refine(gD rfl).trans ?_;show ca tab.get S 42 0 0 [kS src] h0=some (_,[rO (bP src).1 ⟨0,(bP src).2,false⟩]);have c:=λ{β:Type} {k:KO β} {h:bm} {d:Nat}=>j6 (O:=Om) (k:=k) (h:=h) (d:=d) 106 [kS src] _ rfl (qRC src) (by rw[qF1]; rfl)
 rw[qF1] at c;rw[TD,Bw];generalize (bP src).1=L at *;generalize (bP src).2=e at *;simp only[bW,rA,rD,c];have A:At (h0.own 13 1 (rO L ⟨0,e,false⟩)) [.own 13 1] [rO L ⟨0,e,false⟩]:=by
  refine⟨bR,rfl,λi r o M U=>?_⟩
  match i with
  |0 =>
   cases M; cases U;rw[(dS L _).2];exact bm.cC _ 13 1 _ bu cb
  |i+1=>simp at M
 exact qTy A (qLN L _) rfl false [.c (.ptr (.own 13 1) 0)] _ rfl rfl
def Yk(src:LB):(bP src).1.length<=400:=by
 unfold bP;cases ht:jO src with
 |error e=>simp
 |ok l =>
  show l.length<=400;unfold jO at ht;split at ht
  ·cases ht
  ·unfold ka at ht;split at ht
   ·cases ht
   ·split at ht
    ·cases ht
    ·cases ht; omega
def oV(sub:RS->TT×RS)(L:List Tok)(k:Int)(s:RS):TT×RS:=(.mk k [] .nil (.mk true [(sub (bH L s [60])).1]),bH L (sub (bH L s [60])).2 [62])
def qXa{d:Int}{L:List Tok}{sub:RS->TT×RS}(ok:n7 d L sub)(hd:0<=d/\d<=100)(hL:L.length<=900)(kd:Int)(s:RS)(I:I1 L s) :
  Om 120 [P0,kI kd,kI d] [rO L s]=some (kA (oV sub L kd s).1.row,[rO L (oV sub L kd s).2]):=by
 refine(gD rfl).trans ?_;show ca tab.get S 120 1 0 [P0,kI kd,kI d] (bm.mk [rO L s] .nil)=_;obtain⟨I2,_⟩:=rX (x:=[60]) bu I;obtain⟨I3,_⟩:=ok.inv _ I2;have c1:=λ{β:Type} {k:KO β} {d:Nat}=>Ds (k:=k) (d:=d) (L:=L) (s:=s) (by have:=I.2; omega) [60] bu (show((bm.mk [rO L s] .nil).own 6 1 (.cells z4 0)).get (.im 0)=some (rO L s) from rfl)
 have c2:∀ {β:Type}{k:KO β}{e:Nat},bE Om (F_ 58) [P0,kI (d+1)] (((bm.mk [rO L s] .nil).own 6 1 (.cells z4 0)).put (.im 0) (rO L (bH L s [60]))) e k=k (kA (sub (bH L s [60])).1.row) ((((bm.mk [rO L s] .nil).own 6 1 (.cells z4 0)).put (.im 0) (rO L (bH L s [60]))).put (.im 0) (rO L (sub (bH L s [60])).2)):=λ{β k e} =>
  ny 58 (.im 0) 0 [] [kI (d+1)] _ _ _ rfl rfl rfl (dS L _) (dS L _) (by simp only[jr]) (ok.one _ I2)
 have wd:IntKind.i64.wrap (d+1)=d+1:=jZ _ bn bn;unfold oV;generalize sub (bH L s [60])=r at *;generalize bH L s [60]=s1 at *;have xl:(bp r.1.row).length=4:=by rw[qV,TT.ct]
 have xt:(bp r.1.row).take 4=bp r.1.row:=gz (by rw[xl]; exact cB _);have PT:dm z4 0 (bp r.1.row)=bp r.1.row:=yf _ _ (by rw[xl]; rfl)
 have z1:(bm.mk [rO L s] .nil).gen 6=0:=rfl;obtain⟨hC,A⟩:∃ hC,hC=(((bm.mk [rO L s] .nil).own 6 1 (.cells z4 0)).put (.im 0) (rO L s1)).put (.im 0) (rO L r.2):=⟨_,rfl⟩;have g7:hC.gen 7=0:=by rw[A]; rfl
 have c3:=λ{β:Type} {k:KO β} {d:Nat}=>Ds (h:=(hC.own 7 1 (.cells z4 0)).own 7 1 (.cells (bp r.1.row) 0)) (k:=k) (d:=d) (L:=L) (s:=r.2) (by have:=I3.2; omega) [62] bu (by rw[A]; rfl)
 obtain⟨U,M⟩:∃ U,U=((hC.own 7 1 (.cells z4 0)).own 7 1 (.cells (bp r.1.row) 0)).put (.im 0) (rO L (bH L r.2 [62])):=⟨_,rfl⟩;have d7:U.get (.own 7 1)=some (.cells (bp r.1.row) 0):=by rw[M]; exact bm.cC _ 7 1 _ bu cb
 have d6:U.get (.own 6 1)=some (.cells z4 0):=by rw[M,A]; rfl
 have d0:U.get (.im 0)=some (rO L (bH L r.2 [62])):=by rw[M,A]; rfl
 have BS:∀ {β:Type}{k:KO β}{h:bm},bQ Om (.cm 4 1 z4 [(0,.k (.v (.agg (bp r.1.row))))] false) h 18 k=k (j7 4 true [r.1.row]) h:=λ{β k h}=>qg _ _ (qGB 4 z4 r.1.row rfl (TT.ct _))
 have BB:∀ {β:Type}{k:KO β}{h:bm},bQ Om (.build z4 [(0,1,.k (kI kd)),(3,1,.k (j7 4 true [r.1.row]))]) h 19 k=k (kA (TT.mk kd [] .nil (.mk true [r.1])).row) h:=λ{β k h}=>by
  rw[show(TT.mk kd [] .nil (.mk true [r.1])).row=[.int .i64 kd,.str [],.bq,.slice 4 true [r.1.row]] from TT.fD _]; rfl
 have fin:∀ h:bm,h.get (.im 0)=some (rO L (bH L r.2 [62]))->bS true 1 [.agg (bp (TT.mk kd [] .nil (.mk true [r.1])).row)] h=some (kA (TT.mk kd [] .nil (.mk true [r.1])).row,[rO L (bH L r.2 [62])]):=λh hg=>sP true [.agg (bp (TT.mk kd [] .nil (.mk true [r.1])).row)] _ (by simp only[jr]) hg (dS L _)
 generalize TT.mk kd [] .nil (.mk true [r.1])=T at *;have yl:(bp T.row).length=4:=by rw[qV,TT.ct]
 have PY:dm z4 0 (bp T.row)=bp T.row:=yf _ _ (by rw[yl]; rfl);have yt:(bp T.row).take 4=bp T.row:=gz (by rw[yl]; exact cB _);have aa:=fin (U.own 6 1 (.cells (bp T.row) 0)) d0;rw[Nh,EB];simp only[bW,rA,rC,z1,c1,c2,wd,<- A,g7,PT,c3,<- M,d7,d6,xl,xt,BS,BB,yl,yt,PY,aa,cB]
def Zv{d:Int}{L:List Tok}{sub:RS->TT×RS}(ok:n7 d L sub)(hd:0<=d/\d<=100)(A:L.length<=900)(kd:Int){s:RS}(I:I1 L s){h:bm}(M:h.get (.im 0)=some (rO L s)){β:Type}{k:KO β}{e:Nat} :
  bE Om (F_ 120) [P0,kI kd,kI d] h e k=k (kA (oV sub L kd s).1.row) (h.put (.im 0) (rO L (oV sub L kd s).2)) :=
 ny 120 (.im 0) 0 [] [kI kd,kI d] _ _ _ rfl rfl M (dS L _) (dS L _) (by simp only[jr]) (qXa ok hd A kd s I)
def Uu{d:Int}{L:List Tok}{sub:RS->TT×RS}(ok:n7 d L sub)(hd:0<=d/\d<=100)(A:L.length<=900)(kd:Int){s:RS}(I:I1 L s){h:bm}(M:h.get (.im 0)=some (rO L s)){β:Type}{k:KO β}{e:Nat} :
  bE Om (F_ 119) [P0,kI kd,kI d] h e k=k (kA (kG sub L kd s).1.row) (h.put (.im 0) (rO L (kG sub L kd s).2)) :=
 ny 119 (.im 0) 0 [] [kI kd,kI d] _ _ _ rfl rfl M (dS L _) (dS L _) (by simp only[jr]) (qWi ok hd A kd s I)
def sN(sub:RS->TT×RS)(L:List Tok)(w:LB)(s:RS):TT×RS :=
 if w=cr 1 then (gw 1,s) else if w=cr 2 then (gw 2,s) else if w=cr 3 then (gw 3,s) else if w=cr 4 then oV sub L 4 s else if w=cr 5 then oV sub L 5 s else if w=cr 6 then oV sub L 6 s
 else if w=cr 8 then (if eS L s [123]=true then kG sub L 8 s else (eQ,b9 s 12)) else (.mk 9 w .nil .nil,s)
def mo(sub:RS->TT×RS)(d:Int)(L:List Tok)(s:RS):TT×RS :=
 if (cq L s).kind≠1/\eS L s [123]=false then (eQ,b9 s 12) else if 12<d then (eQ,b9 s 13)
 else if eS L s [123]=true then kG sub L 7 s else sN sub L (dN L s).1 (dN L s).2
def qG5{L:List Tok}{h:bm}(t:TT)(s:RS)(M:h.get (.own 4 1)=some (.cells z4 0))(h0:h.get (.im 0)=some (rO L s)) :
  (bK 4 (.v (.c (.ptr (.own 4 1) 0))) (kA t.row) h λ_ h=>cJ true 4 (.v (.c (.ptr (.own 4 1) 0))) h λU=>bS true 1 [U] h)=some (kA t.row,[rO L s]):=by
 have A:(bp t.row).length=4:=by rw[qV,TT.ct]
 have PY:dm z4 0 (bp t.row)=bp t.row:=yf _ _ (by rw[A]; rfl);have yt:(bp t.row).take 4=bp t.row:=gz (by rw[A]; exact cB _);have fin:bS true 1 [.agg (bp t.row)] (h.own 4 1 (.cells (bp t.row) 0))=some (kA t.row,[rO L s]):=sP true [.agg (bp t.row)] _ (by simp only[jr]) h0 (dS L _);simp only[bW,rA,rC,M,PY,A,yt,fin,cB]
def qQ3{L:List Tok}{s:RS}(h:(cq L s).kind=1):dN L s=((cq L s).text,bJ s):=by unfold dN; rw[bF h]
def qV1{d:Int}{L:List Tok}{sub:RS->TT×RS}(ok:n7 d L sub)(hd:0<=d/\d<=100)(hL:L.length<=900)(s:RS)(I:I1 L s) :
  Om 58 [P0,kI d] [rO L s]=some (kA (mo sub d L s).1.row,[rO L (mo sub d L s).2]):=by
 refine(gD rfl).trans ?_;show ca tab.get S 58 1 0 [P0,kI d] (bm.mk [rO L s] .nil)=_;have z1:(bm.mk [rO L s] .nil).gen 4=0:=rfl;obtain⟨h1,M⟩:∃ h1,h1=(bm.mk [rO L s] .nil).own 4 1 (.cells z4 0):=⟨_,rfl⟩;have g0:h1.get (.im 0)=some (rO L s):=by rw[M]; rfl
 have g4:h1.get (.own 4 1)=some (.cells z4 0):=by rw[M]; rfl
 have k4:∀ t:RS,(h1.put (.im 0) (rO L t)).get (.own 4 1)=some (.cells z4 0):=λt=>g4
 have k0:∀ t:RS,(h1.put (.im 0) (rO L t)).get (.im 0)=some (rO L t):=λt=>bm.bX g0 cb
 have LN:=λ{β:Type} {O:bD} {h:bm} {d:Nat} {k:KO β}=>wH (O:=O) (h:=h) (d:=d) (k:=k) L
 have ad:=λ{β:Type} {k:KO β} {d:Nat}=>GX (k:=k) (d:=d) 12 g0
 have ae:=λ{β:Type} {k:KO β} {d:Nat}=>GX (k:=k) (d:=d) 13 g0
 have BZ:∀ {β:Type}{k:KO β}{h:bm}{d:Nat},bQ Om (.build z4 []) h d k=k (kA eQ.row) h:=λ{β k h d}=>rfl
 have F:∀ (t:TT) (s':RS) (h:bm),h.get (.own 4 1)=some (.cells z4 0)->h.get (.im 0)=some (rO L s')->(bK 4 (.v (.c (.ptr (.own 4 1) 0))) (kA t.row) h λ_ h=>cJ true 4 (.v (.c (.ptr (.own 4 1) 0))) h λc0=>bS true 1 [c0] h)=some (kA t.row,[rO L s']):=λt s' h a b=>qG5 t s' a b
 have aa:=F eQ (b9 s 12) _ (k4 _) (k0 _);have ab:=F eQ (b9 s 13) _ (k4 _) (k0 _);have U:=λ{β:Type} {k:KO β} {d:Nat}=>FF (k:=k) (d:=d) [123] bu g0
 unfold mo;rw[IU,D9];by_cases he:s.e=0/\s.p<L.length
 ·obtain⟨he,hp⟩:=he;have ht:L[s.p]?=some L[s.p]:=fQ hp;have AT:=λ{β:Type} {k:KO β} {h:bm}=>UW (h:=h) (k:=k) L s.p L[s.p] ht
  have q1:(s.p:Int)<(L.length:Int):=bn
  have pk:=U4 he ht;have r0:∀ t:Tok,t.row[0]?=some (.int .i64 t.kind):=λ_=>rfl
  have af:=λ{β:Type} {k:KO β} {d:Nat}=>Zk (k:=k) (d:=d) (L:=L) (s:=s) bn g0
  have rn:=λhk=>qQ3 (L:=L) (s:=s) hk
  rw[<- pk] at AT;generalize aj:cq L s=t at *;have R7:=λ{β:Type} {k:KO β} {e:Nat}=>Uu ok hd hL 7 I g0 (k:=k) (e:=e)
  have F7:=F (kG sub L 7 s).1 (kG sub L 7 s).2 _ (k4 _) (k0 _);by_cases hk:t.kind=1
  ·have ah:¬ (t.kind≠1/\eS L s [123]=false):=λh=>h.1 hk
   rw[bA ah];by_cases A:12<d
   ·rw[bF A];simp only[bW,rA,rC,rD,z1,<- M,g0,he,q1,LN,AT,r0,hk,A,ae,BZ];have X:=ab;simp only[bW,rA,rC] at X;exact X
   ·rw[bA A];cases hr:eS L s [123] with
    |true =>
     rw[hr] at U;rw[bF rfl];simp only[bW,rA,rC,rD,z1,<- M,g0,he,q1,LN,AT,r0,hk,A,U,R7];have X:=F7;simp only[bW,rA,rC] at X;exact X
    |false =>
     rw[hr] at U;rw[bA bu];rw[rn hk] at af ⊢;have In:I1 L (bJ s):=⟨λ_=>by show s.p+1<=_; omega,by show s.p+1<=_; omega⟩;generalize bJ s=s1 at *;have n4:=k4 s1;have n0:=k0 s1;generalize h1.put (.im 0) (rO L s1)=h2 at *;have m4:∀ t:RS,(h2.put (.im 0) (rO L t)).get (.own 4 1)=some (.cells z4 0):=λt=>n4
     have m0:∀ t:RS,(h2.put (.im 0) (rO L t)).get (.im 0)=some (rO L t):=λt=>bm.bX n0 cb
     have U2:=λ{β:Type} {k:KO β} {d:Nat}=>FF (k:=k) (d:=d) [123] bu n0
     have ai:=λ{β:Type} {k:KO β} {d:Nat}=>GX (k:=k) (d:=d) 12 n0
     have O4:=λ{β:Type} {k:KO β} {e:Nat}=>Zv ok hd hL 4 In n0 (k:=k) (e:=e)
     have O5:=λ{β:Type} {k:KO β} {e:Nat}=>Zv ok hd hL 5 In n0 (k:=k) (e:=e)
     have O6:=λ{β:Type} {k:KO β} {e:Nat}=>Zv ok hd hL 6 In n0 (k:=k) (e:=e)
     have R8:=λ{β:Type} {k:KO β} {e:Nat}=>Uu ok hd hL 8 In n0 (k:=k) (e:=e)
     have B1:∀ {β:Type}{k:KO β}{h:bm}{d:Nat},bQ Om (.build z4 [(0,1,.k (kI 1))]) h d k=k (kA (gw 1).row) h:=λ{β k h d}=>rfl
     have B2:∀ {β:Type}{k:KO β}{h:bm}{d:Nat},bQ Om (.build z4 [(0,1,.k (kI 2))]) h d k=k (kA (gw 2).row) h:=λ{β k h d}=>rfl
     have B3:∀ {β:Type}{k:KO β}{h:bm}{d:Nat},bQ Om (.build z4 [(0,1,.k (kI 3))]) h d k=k (kA (gw 3).row) h:=λ{β k h d}=>rfl
     have B9:∀ {β:Type}{k:KO β}{h:bm}{d:Nat}(w:LB),bQ Om (.build z4 [(0,1,.k (kI 9)),(1,1,.k (kS w))]) h d k=k (kA (TT.mk 9 w .nil .nil).row) h:=λ{β k h d} w=>rfl
     dsimp only;unfold sN;have e1:cr 1=[66,111,111,108]:=rfl;have e2:cr 2=[73,110,116]:=rfl;have e3:cr 3=[84,101,120,116]:=rfl;have e4:cr 4=[76,105,115,116]:=rfl;have e5:cr 5=[77,97,112]:=rfl;have e6:cr 6=[79,112,116]:=rfl;have e8:cr 8=[85,110,105,111,110]:=rfl;rw[e1,e2,e3,e4,e5,e6,e8];simp only[bW,rA,rC,z1,<- M,g0,he,q1,LN,AT,r0,hk,A,U,af,B1,B2,B3,B9];generalize t.text=w at *;by_cases w1:w=[66,111,111,108]
     ·rw[bF w1];have d1:=cI w1;simp only[bW,d1];have X:=F (gw 1) s1 _ n4 n0;simp only[bW,rA,rC] at X;exact X
     rw[bA w1];by_cases w2:w=[73,110,116]
     ·rw[bF w2];simp only[bW,w2];have X:=F (gw 2) s1 _ n4 n0;simp only[bW,rA,rC] at X;exact X
     rw[bA w2];by_cases w3:w=[84,101,120,116]
     ·rw[bF w3];simp only[bW,w3];have X:=F (gw 3) s1 _ n4 n0;simp only[bW,rA,rC] at X;exact X
     rw[bA w3];by_cases w4:w=[76,105,115,116]
     ·rw[bF w4];simp only[bW,rA,rC,w4,O4];have X:=F (oV sub L 4 s1).1 (oV sub L 4 s1).2 _ (m4 _) (m0 _);simp only[bW,rA,rC] at X;exact X
     rw[bA w4];by_cases w5:w=[77,97,112]
     ·rw[bF w5];simp only[bW,rA,rC,w5,O5];have X:=F (oV sub L 5 s1).1 (oV sub L 5 s1).2 _ (m4 _) (m0 _);simp only[bW,rA,rC] at X;exact X
     rw[bA w5];by_cases w6:w=[79,112,116]
     ·rw[bF w6];simp only[bW,rA,rC,w6,O6];have X:=F (oV sub L 6 s1).1 (oV sub L 6 s1).2 _ (m4 _) (m0 _);simp only[bW,rA,rC] at X;exact X
     rw[bA w6];by_cases w8:w=[85,110,105,111,110]
     ·rw[bF w8];cases ag:eS L s1 [123] with
      |true =>
       rw[ag] at U2;rw[bF rfl];simp only[bW,rA,rC,w8,U2,R8];have X:=F (kG sub L 8 s1).1 (kG sub L 8 s1).2 _ (m4 _) (m0 _);simp only[bW,rA,rC] at X;exact X
      |false =>
       rw[ag] at U2;rw[bA bu];simp only[bW,w8,U2,ai];have X:=F eQ (b9 s1 12) _ (m4 _) (m0 _);simp only[bW,rA,rC] at X;exact X
     rw[bA w8];simp only[bW,w1,w2,w3,w4,w5,w6,w8];have X:=F (.mk 9 w .nil .nil) s1 _ n4 n0;simp only[bW,rA,rC] at X;exact X
  ·cases hr:eS L s [123] with
   |true =>
    rw[hr] at U;rw[bA (λh=>by cases h.2)];by_cases A:12<d
    ·rw[bF A];simp only[bW,rA,rC,rD,z1,<- M,g0,he,q1,LN,AT,r0,hk,A,U,ae,BZ];have X:=ab;simp only[bW,rA,rC] at X;exact X
    ·rw[bA A,bF rfl];simp only[bW,rA,rC,rD,z1,<- M,g0,he,q1,LN,AT,r0,hk,A,U,R7];have X:=F7;simp only[bW,rA,rC] at X;exact X
   |false =>
    rw[hr] at U;rw[bF ⟨hk,rfl⟩];simp only[bW,rA,rC,rD,z1,<- M,g0,he,q1,LN,AT,r0,hk,U,ad,BZ];have X:=aa;simp only[bW,rA,rC] at X;exact X
 ·have hr:eS L s [123]=false:=by
   cases hr:eS L s [123] with
   |true=>exact absurd (zu bu hr) he
   |false=>rfl
  rw[zr he,bF ⟨bu,hr⟩];by_cases h0:s.e=0
  ·have q1:¬ (s.p:Int)<(L.length:Int):=by have:=λhp=>he ⟨h0,hp⟩; omega
   simp only[bW,rA,rC,rD,z1,<- M,g0,h0,q1,LN,ad,BZ];have X:=aa;simp only[bW,rA,rC] at X;exact X
  ·simp only[bW,rA,rC,rD,z1,<- M,g0,h0,LN,ad,BZ];have X:=aa;simp only[bW,rA,rC] at X;exact X
def qMS{L:List Tok}{sub:RS->TT×RS}(inv:Inv L sub):∀ (f:Nat) (s:RS) (l:Es),I1 L s->I1 L (gF sub L f s l).2/\s.p<=(gF sub L f s l).2.p
 |0,s,l,I=>⟨I,cB _⟩
 |f+1,s,l,I=>by
  unfold gF;split
  ·obtain⟨M,U⟩:=qPD inv I;have A:I1 L (lW l (fG sub L s).1.1 (fG sub L s).2):=M;have pt:s.p<=(lW l (fG sub L s).1.1 (fG sub L s).2).p:=U;split
   ·obtain⟨a,b⟩:=rX (x:=[44]) bu A;obtain⟨c,d⟩:=qMS inv f _ (iX l (fG sub L s).1) a;exact⟨c,bn⟩
   ·exact⟨A,pt⟩
  ·exact⟨I,cB _⟩
def qQZ{L:List Tok}{sub:RS->TT×RS}(inv:Inv L sub)(kd:Int){s:RS}(I:I1 L s):I1 L (kG sub L kd s).2/\s.p<=(kG sub L kd s).2.p:=by
 obtain⟨a,b⟩:=rX (x:=[123]) bu I;obtain⟨c,d⟩:=qMS inv (L.length+2) _ [] a;obtain⟨e,f⟩:=rX (x:=[125]) bu c;exact⟨e,by show s.p<=(bH L (gF sub L (L.length+2) (bH L s [123]) []).2 [125]).p; omega⟩
def qXG{L:List Tok}{sub:RS->TT×RS}(inv:Inv L sub)(kd:Int){s:RS}(I:I1 L s):I1 L (oV sub L kd s).2/\s.p<=(oV sub L kd s).2.p:=by
 obtain⟨a,b⟩:=rX (x:=[60]) bu I;obtain⟨c,d⟩:=inv _ a;obtain⟨e,f⟩:=rX (x:=[62]) bu c;exact⟨e,by show s.p<=(bH L (sub (bH L s [60])).2 [62]).p; omega⟩
def qWu{L:List Tok}{sub:RS->TT×RS}(inv:Inv L sub)(w:LB){s:RS}(I:I1 L s):I1 L (sN sub L w s).2/\s.p<=(sN sub L w s).2.p:=by
 unfold sN;have same:I1 L s/\s.p<=s.p:=⟨I,cB _⟩
 repeat' split
 all_goals first
  |exact same
  |exact qXG inv _ I
  |exact qQZ inv _ I
  |exact⟨(JA bu I.2).1,yU (JA (L:=L) (e:=12) bu I.2).2⟩
def qVx{L:List Tok}{sub:RS->TT×RS}(inv:Inv L sub)(d:Int):Inv L (mo sub d L):=λs I=>by
 unfold mo;split
 ·exact⟨(JA bu I.2).1,yU (JA (L:=L) (e:=12) bu I.2).2⟩
 split
 ·exact⟨(JA bu I.2).1,yU (JA (L:=L) (e:=13) bu I.2).2⟩
 split
 ·exact qQZ inv 7 I
 ·obtain⟨a,b⟩:=Oc I;obtain⟨c,e⟩:=qWu inv (dN L s).1 a;exact⟨c,qa b e⟩
def qRG{d:Int}{L:List Tok}(sub:RS->TT×RS)(hd:12<d)(s:RS) :
  Om 58 [P0,kI d] [rO L s]=some (kA (mo sub d L s).1.row,[rO L (mo sub d L s).2]):=by
 refine(gD rfl).trans ?_;show ca tab.get S 58 1 0 [P0,kI d] (bm.mk [rO L s] .nil)=_;have z1:(bm.mk [rO L s] .nil).gen 4=0:=rfl;obtain⟨h1,A⟩:∃ h1,h1=(bm.mk [rO L s] .nil).own 4 1 (.cells z4 0):=⟨_,rfl⟩;have g0:h1.get (.im 0)=some (rO L s):=by rw[A]; rfl
 have g4:h1.get (.own 4 1)=some (.cells z4 0):=by rw[A]; rfl
 have k4:∀ t:RS,(h1.put (.im 0) (rO L t)).get (.own 4 1)=some (.cells z4 0):=λt=>g4
 have k0:∀ t:RS,(h1.put (.im 0) (rO L t)).get (.im 0)=some (rO L t):=λt=>bm.bX g0 cb
 have LN:=λ{β:Type} {O:bD} {h:bm} {d:Nat} {k:KO β}=>wH (O:=O) (h:=h) (d:=d) (k:=k) L
 have ab:=λ{β:Type} {k:KO β} {d:Nat}=>GX (k:=k) (d:=d) 12 g0
 have ad:=λ{β:Type} {k:KO β} {d:Nat}=>GX (k:=k) (d:=d) 13 g0
 have BZ:∀ {β:Type}{k:KO β}{h:bm}{d:Nat},bQ Om (.build z4 []) h d k=k (kA eQ.row) h:=λ{β k h d}=>rfl
 have M:=qG5 eQ (b9 s 12) (k4 _) (k0 _);have aa:=qG5 eQ (b9 s 13) (k4 _) (k0 _);have U:=λ{β:Type} {k:KO β} {d:Nat}=>FF (k:=k) (d:=d) [123] bu g0
 unfold mo;rw[IU,D9];by_cases he:s.e=0/\s.p<L.length
 ·obtain⟨he,hp⟩:=he;have ht:L[s.p]?=some L[s.p]:=fQ hp;have AT:=λ{β:Type} {k:KO β} {h:bm}=>UW (h:=h) (k:=k) L s.p L[s.p] ht
  have q1:(s.p:Int)<(L.length:Int):=bn
  have pk:=U4 he ht;have r0:∀ t:Tok,t.row[0]?=some (.int .i64 t.kind):=λ_=>rfl
  rw[<- pk] at AT;generalize cq L s=t at *;by_cases hk:t.kind=1
  ·rw[bA (λh=>h.1 hk),bF hd];simp only[bW,rA,rC,rD,z1,<- A,g0,he,q1,LN,AT,r0,hk,hd,ad,BZ];have X:=aa;simp only[bW,rA,rC] at X;exact X
  ·cases hr:eS L s [123] with
   |true =>
    rw[hr] at U;rw[bA (λh=>by cases h.2),bF hd];simp only[bW,rA,rC,rD,z1,<- A,g0,he,q1,LN,AT,r0,hk,hd,U,ad,BZ];have X:=aa;simp only[bW,rA,rC] at X;exact X
   |false =>
    rw[hr] at U;rw[bF ⟨hk,rfl⟩];simp only[bW,rA,rC,rD,z1,<- A,g0,he,q1,LN,AT,r0,hk,U,ab,BZ];have X:=M;simp only[bW,rA,rC] at X;exact X
 ·have hr:eS L s [123]=false:=by
   cases hr:eS L s [123] with
   |true=>exact absurd (zu bu hr) he
   |false=>rfl
  rw[zr he,bF ⟨bu,hr⟩];have X:=M;simp only[bW,rA,rC] at X;by_cases h0:s.e=0
  ·have q1:¬ (s.p:Int)<(L.length:Int):=by have:=λhp=>he ⟨h0,hp⟩; omega
   simp only[bW,rA,rC,rD,z1,<- A,g0,h0,q1,LN,ab,BZ];exact X
  ·simp only[bW,rA,rC,rD,z1,<- A,g0,h0,LN,ab,BZ];exact X
def mq(L:List Tok):Nat->Int->RS->TT×RS
 |0,_=>λs=>(eQ,s)
 |n+1,d=>mo (mq L n (d+1)) d L
def ZR(L:List Tok):∀ (n:Nat) (d:Int),Inv L (mq L n d)
 |0,d=>λs I=>⟨I,cB _⟩
 |n+1,d=>qVx (ZR L n (d+1)) d
def qLd{L:List Tok}(A:L.length<=900):∀ (n:Nat) (d:Int),0<=d->d+n=14->1<=n->∀ s,I1 L s->Om 58 [P0,kI d] [rO L s]=some (kA (mq L n d s).1.row,[rO L (mq L n d s).2])
 |0,d,_,_,h,_,_=>bn
 |1,d,h0,hd,_,s,I=>qRG (mq L 0 (d+1)) bn s
 |n+2,d,h0,hd,_,s,I =>
  qV1 (sub:=mq L (n+1) (d+1)) ⟨λs I=>qLd A (n+1) (d+1) bn bn bn s I,ZR L (n+1) (d+1)⟩ ⟨h0,bn⟩ A s I
def eP(x:LB)(L:List Tok)(s:RS):RS:=cU (bZ 4 L (dQ L s) x) (dU 4 L (dQ L s) x)
def qVj(L:List Tok)(s:RS)(v:TT)(s':RS)(hp:s.p<=900000)(e1:Om 45 [P0,kI 1] [rO L (eP [61] L s)]=some (kA v.row,[rO L s'])) :
  Om 47 [P0] [rO L s]=some (kA (eh (cq L s).text v),[rO L s']):=by
 refine(gD rfl).trans ?_;show ca tab.get S 47 1 0 [P0] (bm.mk [rO L s] .nil)=_;have aa:(dQ L s).p<=1000000:=by rw[FK]; omega
 have M:=λ{β:Type} {k:KO β} {h:bm} {d:Nat} (A:h.get (.im 0)=some (rO L s))=>u65 (k:=k) (d:=d) bn A
 have yi:=λ{β:Type} {k:KO β} {h:bm} {d:Nat} (A:h.get (.im 0)=some (rO L (dQ L s)))=>Dt (k:=k) (d:=d) aa [61] A
 have sD:=λ{β:Type} {k:KO β} {h:bm} {d:Nat} (A:h.get (.im 0)=some (rO L (bZ 4 L (dQ L s) [61])))=>Jv (k:=k) (d:=d) (dU 4 L (dQ L s) [61]) A
 have U:∀ {β:Type}{k:KO β}{h:bm}{e:Nat},h.get (.im 0)=some (rO L (eP [61] L s))->bE Om (F_ 45) [P0,kI 1] h e k=k (kA v.row) (h.put (.im 0) (rO L s')):=λ{β k h e} A =>
  ny 45 (.im 0) 0 [] [kI 1] _ _ _ rfl rfl A (dS L _) (dS L _) (by simp only[jr]) e1
 obtain⟨a1,a2,a3,a4,gY⟩:∃ a1 a2 a3 a4,v.row=[a1,a2,a3,a4]:=by cases v; exact⟨_,_,_,_,rfl⟩
 unfold eh;rw[gY] at U ⊢;change ∀ {β:Type}{k:KO β}{h:bm}{d:Nat},h.get (.im 0)=some (rO L s)->bE Om (F_ 110) [P0] h d k=k (kS (cq L s).text) (h.put (.im 0) (rO L (dQ L s))) at M;change ∀ {β:Type}{k:KO β}{h:bm}{d:Nat},h.get (.im 0)=some (rO L (bZ 4 L (dQ L s) [61]))->bE Om (F_ 43) [P0,kB (dU 4 L (dQ L s) [61])] h d k=k (.dq []) (h.put (.im 0) (rO L (eP [61] L s))) at sD;have pr:bp [a1,a2,a3,a4]=[.p a1,.p a2,.p a3,.p a4]:=rfl
 generalize dU 4 L (dQ L s) [61]=bc at *;generalize bZ 4 L (dQ L s) [61]=s2 at *;generalize eP [61] L s=s3 at *;generalize dQ L s=s1 at *;generalize (cq L s).text=key at *;have P5:∀ a b c d e:Cell,dm z5 0 [a,b,c,d,e]=[a,b,c,d,e]:=λ_ _ _ _ _=>rfl
 have P4:∀ a b c d e x y z w:Cell,dm [a,b,c,d,e] 1 [x,y,z,w]=[a,x,y,z,w]:=λ_ _ _ _ _ _ _ _ _=>rfl
 have GP:∀ (a b:RS) (cs:List bG) (o:TM (Nat×bG)),(bm.mk (rO L a::cs) o).put (.im 0) (rO L b)=bm.mk (rO L b::cs) o:=λ_ _ _ _=>rfl
 have G0:∀ (a:RS) (cs:List bG) (o:TM (Nat×bG)),(bm.mk (rO L a::cs) o).get (.im 0)=some (rO L a):=λ_ _ _=>rfl
 rw[Tv,Ky];simp only[bW,rA,rC,rD,rE,G0,GP,qIX,M,yi,sD,U,pr,P5,P4];exact sP true [.agg (bp [.str key,a1,a2,a3,a4])] _ (by simp only[jr]) rfl (dS L s')
def qWh(p q:LB×TT):Om 50 [kA (eh p.1 p.2),kA (eh q.1 q.2)] []=some (kI (wV p.1 q.1),[]):=by
 refine(gD rfl).trans ?_;obtain⟨a1,a2,a3,a4,A⟩:=nw p.2;obtain⟨M,U,b3,b4,hb⟩:=nw q.2;unfold eh;rw[A,hb];show ca tab.get S 50 0 0 [.v (.agg [.p (.str p.1),.p a1,.p a2,.p a3,.p a4]),.v (.agg [.p (.str q.1),.p M,.p U,.p b3,.p b4])] h0=_;have c:=λ{β:Type} {k:KO β} {h:bm} {d:Nat}=>j6 (O:=Om) (k:=k) (h:=h) (d:=d) 51 [kS p.1,kS q.1] _ rfl (ZP p.1 q.1) rfl
 rw[Tr,Kw];simp only[bW,rA,rC,rE,c]
abbrev IL:bt:=.v (.c (.func 50 []))
abbrev SKN:SK (LB×TT) where
 z:=5
 row:=λp=>eh p.1 p.2
 gY:=λp=>DD p.1 p.2
 key:=λp=>p.1
 F:=50
 fI:=180
 fM:=181
 fR:=243
 fS:=275
 fT:=113
 fE:=49
 cmp:=qWh
 nI:=λ_ _=>rfl
 nM:=λ_ _=>rfl
 nR:=λ_ _=>rfl
 nS:=λ_ _=>rfl
 nT:=λ_ _=>rfl
 nE:=λ_ _=>rfl
 C3:=by intros;exact Nb ..
 BY:=by intros;exact Na ..
 BX:=by intros;exact M9 ..
 Gp:=by intros;exact M8 ..
 BW:=by intros;exact M7 ..
 C0:=by intros;exact M6 ..
 Gn:=by intros;exact M5 ..
 CZ:=by intros;exact M4 ..
 Gm:=by intros;exact M3 ..
 CY:=by intros;exact M0 ..
 CX:=by intros;exact MZ ..
 Gl:=by intros;exact MY ..
 CW:=by intros;exact MX ..
 Gk:=by intros;exact MW ..
 AM:=by intros;exact GL ..
 yj:=by intros;exact GJ ..
 v8:=by intros;exact GI ..
 v7:=by intros;exact GH ..
 vZ:=by intros;exact GG ..
 vY:=by intros;exact GF ..
 Gi:=by intros;exact Ml ..
 BV:=by intros;exact Mk ..
 Gh:=by intros;exact Mj ..
 Gg:=by intros;exact LO ..
 CV:=by intros;exact LM ..
 Gf:=by intros;exact NH ..
 CU:=by intros;exact NG ..
 Ge:=by intros;exact NF ..
 CT:=by intros;exact ND ..
 ze:=by intros;exact NC ..
 BU:=by intros;exact NB ..
 Gd:=by intros;exact NA ..
 Gq:=by intros;exact Tt ..
noncomputable def cL(l:Es):Es:=wE SKN l
def Yo(l:Es)(h:l.length<=1000):Ord pP (cL l)/\(cL l).Perm l/\Om 49 [W6 l.length,IL] [.cells (bp (dW l)) 0]=some (.dq [],[.cells (bp (dW (cL l))) 0]):=XR SKN l h
def Sw(l:Es):(cL l).Perm l:=qG3 SKN l
def qEQ(l:Es):(cL l).length=l.length:=(Sw l).length_eq
structure GS where
 nm:LB
 pr:Sl TT
 rs:TT
abbrev Gs:=List GS
def cV(f:GS):List bL:=.str f.nm::dI 4 TT.row f.pr::f.rs.row
def jA(l:Gs):List bL:=l.flatMap cV
def qWf(p q:GS):Om 53 [kA (cV p),kA (cV q)] []=some (kI (wV p.nm q.nm),[]):=by
 refine(gD rfl).trans ?_;obtain⟨a1,a2,a3,a4,A⟩:=nw p.rs;obtain⟨M,U,b3,b4,hb⟩:=nw q.rs;unfold cV;rw[A,hb];generalize dI 4 TT.row p.pr=u;generalize dI 4 TT.row q.pr=v;show ca tab.get S 53 0 0 [.v (.agg [.p (.str p.nm),.p u,.p a1,.p a2,.p a3,.p a4]),.v (.agg [.p (.str q.nm),.p v,.p M,.p U,.p b3,.p b4])] h0=_;have c:=λ{β:Type} {k:KO β} {h:bm} {d:Nat}=>j6 (O:=Om) (k:=k) (h:=h) (d:=d) 51 [kS p.nm,kS q.nm] _ rfl (ZP p.nm q.nm) rfl
 rw[To,Kv];simp only[bW,rA,rC,rE,c]
def JK(k:GS):(cV k).length=6:=by unfold cV; simp[TT.ct]
abbrev sG0(n:Nat):bt:=.v (.c (.cf (.im 0) 0 n none 6))
abbrev IK:bt:=.v (.c (.func 53 []))
abbrev WR:SK GS where
 z:=6
 row:=cV
 gY:=JK
 key:=λp=>p.nm
 F:=53
 fI:=182
 fM:=183
 fR:=244
 fS:=276
 fT:=115
 fE:=52
 cmp:=qWf
 nI:=λ_ _=>rfl
 nM:=λ_ _=>rfl
 nR:=λ_ _=>rfl
 nS:=λ_ _=>rfl
 nT:=λ_ _=>rfl
 nE:=λ_ _=>rfl
 C3:=by intros;exact MV ..
 BY:=by intros;exact MU ..
 BX:=by intros;exact MT ..
 Gp:=by intros;exact MS ..
 BW:=by intros;exact MR ..
 C0:=by intros;exact MQ ..
 Gn:=by intros;exact MO ..
 CZ:=by intros;exact MN ..
 Gm:=by intros;exact MM ..
 CY:=by intros;exact ML ..
 CX:=by intros;exact MK ..
 Gl:=by intros;exact MJ ..
 CW:=by intros;exact MI ..
 Gk:=by intros;exact MH ..
 AM:=by intros;exact GD ..
 yj:=by intros;exact GC ..
 v8:=by intros;exact GB ..
 v7:=by intros;exact GA ..
 vZ:=by intros;exact Gz ..
 vY:=by intros;exact Gy ..
 Gi:=by intros;exact Mi ..
 BV:=by intros;exact Mh ..
 Gh:=by intros;exact Mg ..
 Gg:=by intros;exact LL ..
 CV:=by intros;exact LJ ..
 Gf:=by intros;exact Ny ..
 CU:=by intros;exact Nx ..
 Ge:=by intros;exact Nw ..
 CT:=by intros;exact Nv ..
 ze:=by intros;exact Nu ..
 BU:=by intros;exact Nt ..
 Gd:=by intros;exact Ns ..
 Gq:=by intros;exact Tp ..
def Yv(p q:GS):Bool:=cX p.nm q.nm
def qPH(l:Gs):(jA l).length=l.length*6:=qIM (K:=WR) l
def qQz(l:Gs)(i:Nat)(p:GS)(h:l[i]?=some p):((bp (jA l)).drop (i*6)).take 6=bp (cV p):=qMv WR l i p h
noncomputable def cT(l:Gs):Gs:=wE WR l
def Yp(l:Gs)(h:l.length<=1000):Ord Yv (cT l)/\(cT l).Perm l/\Om 52 [sG0 l.length,IK] [.cells (bp (jA l)) 0]=some (.dq [],[.cells (bp (jA (cT l))) 0]):=XR WR l h
def Sv(l:Gs):(cT l).Perm l:=qG3 WR l
def qEP(l:Gs):(cT l).length=l.length:=(Sv l).length_eq
end Go.Proofs.YtnlmlcfipbnpgaaGreatDoor.Ab
namespace Go.AI
section
variable {β:Type} {O:bD} {h:bm} {d:Nat} {k:KO β} {kt:KT β}
def qP5(z0 A z2 z3:Cell):br O (.cm 4 1 [z0,A,z2,z3] [(0,.k (.v (.agg [z0,A,z2,z3])))] true) h d kt=kt (.v (.c (.cf (.im h.bY.length) 0 1 (some 1) 4))) (h.push (.cells [z0,A,z2,z3] 0)) ⟨[],[.im h.bY.length],true⟩ :=
 JR _ [] _ _ _ _ rfl rfl
def Yb{sz by':Nat}{j lb:Nat}{capb:Option Nat}{A:List Cell}{M:Nat}(hb:lb≠0)(hm:lb*by'<=1099511627776)(U:h.get (.im j)=some (.cells A M))(ly:A.length=lb*sz) :
  br O (.append sz by' true (.k (.v (.c (.p .bq)))) (.k (.v (.c (.cf (.im j) 0 lb capb sz))))) h d kt=kt (.v (.c (.cf (.im h.bY.length) 0 lb none sz))) (h.push (.cells A 0)) ⟨[.im j],[.im h.bY.length],true⟩:=by
 have ea:ee sz by' true (.v (.c (.p .bq))) none A lb=some ⟨λr=>.v (.c (.cf r 0 lb none sz)),[],some (.cells A 0),true⟩:=by
  unfold ee;rw[bA hb];dsimp only;unfold lq;rw[bF rfl,bF bn]
 refine JR _ [.im j] _ _ _ _ rfl ?_;unfold fN;simp only[ek,gg,U,gC,rL,eG,hU,jb,dw,XV sz j lb capb A M ly,ea];rfl
def X9{sz by':Nat}{i j la lb:Nat}{capb:Option Nat}{xs A:List Cell}{M:Nat}(hb:lb≠0)(hm:(la+lb)*by'<=1099511627776)(ga:h.get (.im i)=some (.cells xs 0))(U:h.get (.im j)=some (.cells A M))(lx:xs.length=la*sz)(ly:A.length=lb*sz) :
  br O (.append sz by' true (.k (.v (.c (.cf (.im i) 0 la none sz)))) (.k (.v (.c (.cf (.im j) 0 lb capb sz))))) h d kt=kt (.v (.c (.cf (.im h.bY.length) 0 (la+lb) none sz))) ((h.put (.im i) .dead).push (.cells (xs++A) 0)) ⟨[.im i,.im j],[.im h.bY.length,.im i],true⟩:=by
 have ea:ee sz by' true (.v (.c (.cf (.im i) 0 la none sz))) (some (.cells xs 0)) A lb=some ⟨λr=>.v (.c (.cf r 0 (la+lb) none sz)),[(.im i,.dead)],some (.cells (xs++A) 0),true⟩:=by
  unfold ee;rw[bA hb];dsimp only;rw[bF ⟨rfl,bn,bn⟩,bF bn,eI,gz bn]
 have hl:(h.put (.im i) .dead).bY.length=h.bY.length:=by show(h.bY.set i .dead).length=_; rw[vl]
 refine JR _ [.im i,.im j] _ _ _ _ rfl ?_;unfold fN;simp only[ek,gg,ga,U,gC,rL,eG,hU,jb,dw,XV sz j lb capb A M ly,ea];simp[];exact⟨rfl,⟨rfl,rfl⟩,rfl⟩
end
end Go.AI
namespace Go.Proofs.YtnlmlcfipbnpgaaGreatDoor.Ab
open Go Go.AI
abbrev fO(nm:LB)(L:Cell):bG:=.cells [.p (.str nm),L,.p (.int .i64 0),.p (.str []),.p .bq,.p .bq] 0
abbrev pI(i:Nat):bt:=.v (.c (.ptr (.im i) 0))
def SO(L:List Tok)(s:RS)(v:TT)(t:RS):Prop:=Om 45 [P0,kI 1] [rO L s]=some (kA v.row,[rO L t])
def qOX{β:Type}{O:bD}{h:bm}{d:Nat}{kt:KT β}(r:Ref)(off len sz:Nat)(cap:Option Nat):br O (.len 2 (.k (.v (.c (.cf r off len cap sz))))) h d kt=kt (kI (len:Int)) h cj:=tQ _ _ rfl
def qVp(nm:LB)(L:List Tok)(s t:RS)(v:TT)(H:SO L s v t) :
  Om 112 [P0,pI 1] [fO nm (.p .bq),dH 2,rO L s]=some (.dq [],[fO nm (.cf (.im 3) 0 1 none 4),dH 2,rO L t,.cells (bp v.row) 0]):=by
 refine(gD rfl).trans ?_;show ca tab.get S 112 3 0 [P0,pI 1] (bm.mk [fO nm (.p .bq),dH 2,rO L s] .nil)=_;obtain⟨a1,a2,a3,a4,ha⟩:=nw v;have A:=H;unfold SO at A;rw[ha] at A;rw[ha];have pr:bp [a1,a2,a3,a4]=[.p a1,.p a2,.p a3,.p a4]:=rfl;have M:∀ {β:Type}{h:bm}{e:Nat}{kt:KT β},h.get (.im 2)=some (rO L s)->br Om (.call (.k (F_ 45)) [.k (pI 2),.k (kI 1)]) h e kt=kt (kA [a1,a2,a3,a4]) (h.put (.im 2) (rO L t)) ⟨[.im 2,.im 2],[.im 2],false⟩:=λ{β h e kt} hg=>AR 45 (.im 2) (kI 1) _ _ _ rfl (by simp only[jr]) hg (dS L s) (dS L t) A
 have ap:=λ{β:Type} {h:bm} {e:Nat} {kt:KT β} (gb:h.get (.im 3)=some (.cells z4 0))=>Yb (O:=Om) (kt:=kt) (d:=e) (sz:=4) (by':=72) (lb:=1) (capb:=some 1) bn bn gb rfl
 rw[Dn,Aj];have g0:∀ a,(bm.mk [fO nm (.p .bq),dH 2,a] .nil).get (.im 0)=some (fO nm (.p .bq)):=λ_=>rfl
 have g1:∀ a,(bm.mk [fO nm (.p .bq),dH 2,a] .nil).get (.im 1)=some (dH 2):=λ_=>rfl
 simp only[bW,qI,g0,g1,qP5];rw[M rfl];show br Om (.append 4 72 true (.k (.v (.c (.p .bq)))) (.k (.v (.c (.cf (.im 3) 0 1 (some 1) 4))))) (bm.mk [fO nm (.p .bq),dH 2,rO L t,.cells z4 0] .nil) 8 _=_;rw[ap rfl,qC7];show bU 4 (.v (.c (.cf (.im 4) 0 1 none 4))) (kI 0) (bm.mk [fO nm (.p .bq),dH 2,rO L t,.cells z4 0,.cells z4 0] .nil) _=_;have h5:(bm.mk [fO nm (.p .bq),dH 2,rO L t,.cells z4 0,.cells z4 0] .nil).get (.im 4)=some (.cells z4 0):=rfl;have U:∀ o,(bm.mk [fO nm (.p .bq),dH 2,rO L t,.cells z4 0,.cells z4 0] .nil).put (.im 4) o=bm.mk [fO nm (.p .bq),dH 2,rO L t,.cells z4 0,o] .nil:=λ_=>rfl
 have aa:∀ o,(bm.mk [fO nm (.p .bq),dH 2,rO L t,.cells z4 0,o] .nil).get (.im 0)=some (fO nm (.p .bq)):=λ_=>rfl
 have p6:dm z4 0 [.p a1,.p a2,.p a3,.p a4]=[.p a1,.p a2,.p a3,.p a4]:=yf _ _ rfl;simp only[bW,rA,rB,rC,rD,rG,rI,h5,U,aa,pr,p6,rY];exact(JB 2 _ [.im 0,.im 1,.im 2,.im 4] rfl).trans rfl
def qRk(n:Nat)(xs:List bL)(hx:xs.length=n*4)(hn:n<=100000)(nm:LB)(L:List Tok)(s t:RS)(v:TT)(H:SO L s v t) :
  Om 112 [P0,pI 2] [fO nm (.cf (.im 1) 0 n none 4),.cells (bp xs) 0,dH 3,rO L s]=some (.dq [],[fO nm (.cf (.im 4) 0 (n+1) none 4),.dead,dH 3,rO L t,.cells (bp (xs++v.row)) 0]):=by
 refine(gD rfl).trans ?_;have pl:=nH (xs++v.row) 0;obtain⟨a1,a2,a3,a4,ha⟩:=nw v;have M:=H;unfold SO at M;rw[ha] at M pl;rw[ha];have A:(bp xs).length=n*4:=by rw[qV,hx]
 have pa:bp (xs++[a1,a2,a3,a4])=bp xs++[.p a1,.p a2,.p a3,.p a4]:=by unfold bp; simp
 rw[pa] at pl ⊢;generalize bp xs=X at A pl ⊢;show ca tab.get S 112 4 0 [P0,pI 2] (bm.mk [fO nm (.cf (.im 1) 0 n none 4),.cells X 0,dH 3,rO L s] .nil)=_;have U:∀ {β:Type}{h:bm}{e:Nat}{kt:KT β},h.get (.im 3)=some (rO L s)->br Om (.call (.k (F_ 45)) [.k (pI 3),.k (kI 1)]) h e kt=kt (kA [a1,a2,a3,a4]) (h.put (.im 3) (rO L t)) ⟨[.im 3,.im 3],[.im 3],false⟩:=λ{β h e kt} hg=>AR 45 (.im 3) (kI 1) _ _ _ rfl (by simp only[jr]) hg (dS L s) (dS L t) M
 have ap:=λ{β:Type} {h:bm} {e:Nat} {kt:KT β} (ga:h.get (.im 1)=some (.cells X 0)) (gb:h.get (.im 4)=some (.cells z4 0))=>X9 (O:=Om) (kt:=kt) (d:=e) (sz:=4) (by':=72) (la:=n) (lb:=1) (capb:=some 1) bn bn ga gb A rfl
 have g0:∀ a,(bm.mk [fO nm (.cf (.im 1) 0 n none 4),.cells X 0,dH 3,a] .nil).get (.im 0)=some (fO nm (.cf (.im 1) 0 n none 4)):=λ_=>rfl
 have g2:∀ a,(bm.mk [fO nm (.cf (.im 1) 0 n none 4),.cells X 0,dH 3,a] .nil).get (.im 2)=some (dH 3):=λ_=>rfl
 have pr:bp [a1,a2,a3,a4]=[.p a1,.p a2,.p a3,.p a4]:=rfl;rw[Dn,Aj];simp only[bW,qI,g0,g2,qP5,qOX];rw[U rfl];show br Om (.append 4 72 true (.k (.v (.c (.cf (.im 1) 0 n none 4)))) (.k (.v (.c (.cf (.im 4) 0 1 (some 1) 4))))) (bm.mk [fO nm (.cf (.im 1) 0 n none 4),.cells X 0,dH 3,rO L t,.cells z4 0] .nil) 8 _=_;rw[ap rfl rfl,qC7];show bU 4 (.v (.c (.cf (.im 5) 0 (n+1) none 4))) (kI (n:Int)) (bm.mk [fO nm (.cf (.im 1) 0 n none 4),.dead,dH 3,rO L t,.cells z4 0,.cells (X++z4) 0] .nil) _=_;have h6:(bm.mk [fO nm (.cf (.im 1) 0 n none 4),.dead,dH 3,rO L t,.cells z4 0,.cells (X++z4) 0] .nil).get (.im 5)=some (.cells (X++z4) 0):=rfl;have aa:∀ o,(bm.mk [fO nm (.cf (.im 1) 0 n none 4),.dead,dH 3,rO L t,.cells z4 0,.cells (X++z4) 0] .nil).put (.im 5) o=bm.mk [fO nm (.cf (.im 1) 0 n none 4),.dead,dH 3,rO L t,.cells z4 0,o] .nil:=λ_=>rfl
 have ab:∀ o,(bm.mk [fO nm (.cf (.im 1) 0 n none 4),.dead,dH 3,rO L t,.cells z4 0,o] .nil).get (.im 0)=some (fO nm (.cf (.im 1) 0 n none 4)):=λ_=>rfl
 have p6:dm (X++z4) (n*4) [.p a1,.p a2,.p a3,.p a4]=X++[.p a1,.p a2,.p a3,.p a4]:=by
  unfold dm eY;rw[<- A,List.take_left,kT bR,fa]
 have l6:(X++z4).length=n*4+4:=by rw[bV,A]; rfl
 have t1:(0:Int)<=(n:Int):=bn
 have t2:n<n+1:=bn
 have t3:n*4+4<=n*4+4:=cB _;simp only[bW,rA,rD,h6,aa,ab,pr,p6,l6,t1,t2,t3,eV,rY];refine(JB 3 _ [.im 0,.im 1,.im 2,.im 3,.im 5] ?_).trans ?_
 ·show reach _ (398+1+1) [.im 5,.im 3] (bY 4)=_;rw[qi _ (.im 5) _ (bY 4) (.cells (X++[.p a1,.p a2,.p a3,.p a4]) 0) bu rfl,pl.1];show reach _ (398+1) [.im 3] ([.im 0,.im 1,.im 2,.im 3,.im 5])=_;rw[Hj _ _ _ _ bu];exact yu _ _
 ·show some (bt.dq [],[fO nm (.cf (.im 4) 0 (n+1) none 4),bG.dead,dH 3,rO L t,(bG.cells (X++[.p a1,.p a2,.p a3,.p a4]) 0).eB (iU [.im 0,.im 1,.im 2,.im 3,.im 5])])=_;rw[pl.2]
def qQQ{β:Type}{O:bD}{k:KO β}{h:bm}{d:Nat}(g:FuncId)(a b:Ref):bE O (.v (.c (.func g [a,b]))) [] h d k=bE O (.v (.c (.func g []))) [.v (.c (.ptr a 0)),.v (.c (.ptr b 0))] h d k:=rfl
structure SN (h:bm) (L:List Tok) (s:RS) (nm:LB):Prop where
 g0:h.get (.im 0)=some (rO L s)
 g1:h.get (.im 1)=some (fO nm (.p .bq))
 g2:h.get (.im 2)=some (dH 0)
structure IG (h:bm) (L:List Tok) (s:RS) (nm:LB) (n:Nat) (xs:List bL) (j:Nat):Prop where
 g0:h.get (.im 0)=some (rO L s)
 g1:h.get (.im 1)=some (fO nm (.cf (.im j) 0 n none 4))
 g2:h.get (.im 2)=some (dH 0)
 hj:3<=j
 gj:h.get (.im j)=some (.cells (bp xs) 0)
 hx:xs.length=n*4
 hn:n<=90000
def SN.put{h:bm}{L:List Tok}{s t:RS}{nm:LB}(A:SN h L s nm):SN (h.put (.im 0) (rO L t)) L t nm :=
 ⟨bm.bX A.g0 cb,(bm.cz A.g0 bu).trans A.g1,(bm.cz A.g0 bu).trans A.g2⟩
def IG.put{h:bm}{L:List Tok}{s t:RS}{nm:LB}{n:Nat}{xs:List bL}{j:Nat}(A:IG h L s nm n xs j):IG (h.put (.im 0) (rO L t)) L t nm n xs j :=
 ⟨bm.bX A.g0 cb,(bm.cz A.g0 bu).trans A.g1,(bm.cz A.g0 bu).trans A.g2,A.hj,(bm.cz A.g0 (λe=>by cases e; have:=A.hj; omega)).trans A.gj,A.hx,A.hn⟩
def qXn{h:bm}{L:List Tok}{s t:RS}{v:TT}{nm:LB}(A:SN h L s nm)(E:SO L s v t) :
  ∃ h' j,(∀ {β:Type}(e:Nat)(k:KO β),bE Om (.v (.c (.func 112 [.im 1,.im 2]))) [] h e k=k (.dq []) h')/\IG h' L t nm 1 v.row j:=by
 have M:reach h cw ([.v (.c (.ptr (.im 1) 0)),.v (.c (.ptr (.im 2) 0))].flatMap bt.refs) []=[.im 1,.im 2,.im 0]:=by
  show reach h (396+1+1+1+1) [.im 1,.im 2] []=_;rw[qi _ (.im 1) _ _ _ bu A.g1];show reach h (396+1+1+1) [.im 2] [.im 1]=_;rw[qi _ (.im 2) _ _ _ bu A.g2];show reach h (396+1+1) [.im 0] [.im 1,.im 2]=_;rw[qi _ (.im 0) _ _ _ bu A.g0];exact yu _ _
 have hm:([.im 1,.im 2,.im 0]:List Ref).mapM h.get=some [fO nm (.p .bq),dH 0,rO L s]:=by
  simp only[ek,gg,A.g0,A.g1,A.g2,gC,rL,eG]
 have pl:=nH v.row 0;obtain⟨h',hc,B⟩:=Hf (O:=Om) (h:=h) 112 [.v (.c (.ptr (.im 1) 0)),.v (.c (.ptr (.im 2) 0))] _ [P0,pI 1] _ _ [fO nm (.p .bq),dH 2,rO L s] _ _ (.dq []) rfl M hm rfl rfl (qVp nm L s t v E) (show(3:Nat)<=4 by decide) bu rfl;refine⟨h',h.bY.length+0,λe k=>(qQQ 112 _ _).trans (hc e k),?_⟩;have hl:3<=h.bY.length:=by
  have:=(bm.ej A.g2).1;have:=(cQ.1 this).1;omega
 exact⟨B.own 2 (.im 0) _ rfl rfl cb,B.own 0 (.im 1) _ rfl rfl cb,B.own 1 (.im 2) _ rfl rfl cb,bn,
  B.new 0 (.cells (bp v.row) 0) (dh some (pl.2 _)) cb,by rw[TT.ct],bn⟩
def qXp{j:Nat}(hj:3<=j):iU [.im 1,.im j,.im 2,.im 0] (.im j)=some (.im 1):=by
 have ne:decide (Ref.im j=Ref.im 1)=false:=de (λe=>by cases e; omega);unfold iU;simp only[idx,ne,iN,rT,iv];rfl
def qW2{j:Nat}(hj:3<=j):iU [.im 1,.im j,.im 2,.im 0] (.im 2)=some (.im 2):=by
 have ne:decide (Ref.im 2=Ref.im j)=false:=de (λe=>by cases e; omega);have A:decide (Ref.im 2=Ref.im 1)=false:=bu
 unfold iU;simp only[idx,ne,A,iN,rT,iv];rfl
def qWX{j:Nat}(hj:3<=j):iU [.im 1,.im j,.im 2,.im 0] (.im 0)=some (.im 3):=by
 have ne:decide (Ref.im 0=Ref.im j)=false:=de (λe=>by cases e; omega);have A:decide (Ref.im 0=Ref.im 1)=false:=bu
 have M:decide (Ref.im 0=Ref.im 2)=false:=bu
 unfold iU;simp only[idx,ne,A,M,iN,rT,iv];rfl
def qXI{h:bm}{L:List Tok}{s t:RS}{v:TT}{nm:LB}{n j:Nat}{xs:List bL}(A:IG h L s nm n xs j)(hn:n<=80000)(E:SO L s v t) :
  ∃ h' j,(∀ {β:Type}(e:Nat)(k:KO β),bE Om (.v (.c (.func 112 [.im 1,.im 2]))) [] h e k=k (.dq []) h')/\IG h' L t nm (n+1) (xs++v.row) j:=by
 have hj:=A.hj;have U:∀ i:Nat,i<3->Ref.im j≠Ref.im i:=λi hi e=>by cases e; omega
 have M:∀ i:Nat,i<3->Ref.im i≠Ref.im j:=λi hi e=>by cases e; omega
 have pl:=nH (xs++v.row) 0;have px:=nH xs 0;have hr:reach h cw ([.v (.c (.ptr (.im 1) 0)),.v (.c (.ptr (.im 2) 0))].flatMap bt.refs) []=[.im 1,.im j,.im 2,.im 0]:=by
  show reach h (395+1+1+1+1+1) [.im 1,.im 2] []=_;rw[qi _ (.im 1) _ _ _ bu A.g1];show reach h (395+1+1+1+1) [.im j,.im 2] [.im 1]=_;rw[qi _ (.im j) _ _ _ (by simp only[fY]; exact U 1 bu) A.gj,px.1];show reach h (395+1+1+1) [.im 2] [.im 1,.im j]=_;rw[qi _ (.im 2) _ _ _ (by simp only[dK,lL,lK,oG]; exact⟨bu,M 2 bu⟩) A.g2];show reach h (395+1+1) [.im 0] [.im 1,.im j,.im 2]=_;rw[qi _ (.im 0) _ _ _ (by simp only[dK,lL,lK,oG]; exact⟨bu,M 0 bu,bu⟩) A.g0,(dS L s).1];exact yu _ _
 have hm:([.im 1,.im j,.im 2,.im 0]:List Ref).mapM h.get=some [fO nm (.cf (.im j) 0 n none 4),.cells (bp xs) 0,dH 0,rO L s]:=by
  simp only[ek,gg,A.g0,A.g1,A.g2,A.gj,gC,rL,eG]
 have e5:([fO nm (.cf (.im j) 0 n none 4),.cells (bp xs) 0,dH 0,rO L s]:List bG).map (bG.eB (iU [.im 1,.im j,.im 2,.im 0]))=[fO nm (.cf (.im 1) 0 n none 4),.cells (bp xs) 0,dH 3,rO L s]:=by
  rw[dr,dr,dr,dr,px.2,(dS L s).2];show [fO nm (match iU [.im 1,.im j,.im 2,.im 0] (.im j) with|some s=>.cf s 0 n none 4|none=>.jd),_,bG.cells [match iU [.im 1,.im j,.im 2,.im 0] (.im 0) with|some s=>.ptr s 0|none=>.jd] 0,_]=_;rw[qXp hj,qWX hj]
 have e4:([.v (.c (.ptr (.im 1) 0)),.v (.c (.ptr (.im 2) 0))]:List bt).map (bt.eB (iU [.im 1,.im j,.im 2,.im 0]))=[P0,pI 2]:=by
  show [bt.v (.c (match iU [.im 1,.im j,.im 2,.im 0] (.im 1) with|some s=>.ptr s 0|none=>.jd)),bt.v (.c (match iU [.im 1,.im j,.im 2,.im 0] (.im 2) with|some s=>.ptr s 0|none=>.jd))]=_;rw[qW2 hj];rfl
 have aa:([.im 1,.im j,.im 2,.im 0]:List Ref).Nodup:=by
  simp only[yV,dK,lL,lK,oG,List.nodup_nil,and_true,not_false_eq_true];exact⟨⟨M 1 bu,bu,bu⟩,⟨U 2 bu,U 0 bu⟩,bu⟩
 obtain⟨h',hc,B⟩:=Hf (O:=Om) (h:=h) 112 [.v (.c (.ptr (.im 1) 0)),.v (.c (.ptr (.im 2) 0))] _ [P0,pI 2] _ _ _ _ _ (.dq []) rfl hr hm e4 e5 (qRk n xs A.hx (by have:=A.hn; omega) nm L s t v E) (show(4:Nat)<=5 by decide) aa rfl;refine⟨h',h.bY.length+0,λe k=>(qQQ 112 _ _).trans (hc e k),?_⟩;have hl:3<=h.bY.length:=by
  have:=(bm.ej A.g2).1;have:=(cQ.1 this).1;omega
 exact⟨B.own 3 (.im 0) _ rfl rfl cb,B.own 0 (.im 1) _ rfl rfl cb,B.own 2 (.im 2) _ rfl rfl cb,bn,
  B.new 0 (.cells (bp (xs++v.row)) 0) (dh some (pl.2 _)) cb,by have:=A.hx; simp[TT.ct]; omega,bn⟩
abbrev IJ:bt:=.v (.c (.func 112 [.im 1,.im 2]))
def qd(l:List TT):List bL:=l.flatMap TT.row
def qNw(l:List TT)(p:TT):qd (l++[p])=qd l++p.row:=by unfold qd; simp
def gT(sub:RS->TT×RS)(L:List Tok)(x:LB):Nat->RS->List TT->List TT×RS
 |0,s,acc=>(acc,s)
 |f+1,s,acc=>if dU 4 L s [44]=true then gT sub L x f (sub (bJ s)).2 (acc++[(sub (bJ s)).1]) else (acc,cU (bZ 4 L s x) (dU 4 L s x))
def gJ(sub:RS->TT×RS)(L:List Tok)(x:LB)(s:RS):List TT×RS:=if dU 4 L s x=true then ([],bJ s) else gT sub L x (L.length+2) (sub s).2 [(sub s).1]
def tR(sub:RS->TT×RS)(ok:RS->Prop)(L:List Tok):Nat->RS->Prop
 |0,_=>True
 |f+1,s=>dU 4 L s [44]=true->ok (bJ s)/\tR sub ok L f (sub (bJ s)).2
def Dz(sub:RS->TT×RS)(ok:RS->Prop)(L:List Tok)(x:LB)(s:RS):Prop:=dU 4 L s x=false->ok s/\tR sub ok L (L.length+2) (sub s).2
def qUc{h:bm}{L:List Tok}{s:RS}{nm:LB}{n j:Nat}{xs:List bL}(hp:s.p<=1000000)(x:LB)(A:IG h L s nm n xs j) :
  ca tab.get S 111 3 2 [P0,kS x] h=some (.dq [],[rO L (cU (bZ 4 L s x) (dU 4 L s x)),fO nm (.cf (.im 3) 0 n none 4),dH 0,.cells (bp xs) 0]):=by
 have hj:=A.hj;have U:=A.put (t:=bZ 4 L s x);rw[Dp,u0,Dt hp x A.g0,Jv _ U.g0];have B:=U.put (t:=cU (bZ 4 L s x) (dU 4 L s x));generalize cU (bZ 4 L s x) (dU 4 L s x)=t at B ⊢;have px:=nH xs 0;have M:Ref.im j∉(bY 3:List Ref):=by
  show Ref.im j∉[.im 0,.im 1,.im 2];simp only[dK,lL,lK,oG,Ref.im.injEq];omega
 generalize (h.put (.im 0) (rO L (bZ 4 L s x))).put (.im 0) (rO L t)=h at B;have e:(bY (2+1)).flatMap (λr=>match h.get r with|some o=>o.refs|none=>[])=[.im j,.im 0]:=by
  show([.im 0,.im 1,.im 2]:List Ref).flatMap _=_;simp only[eJ,jJ,B.g0,B.g1,B.g2];rw[(dS L t).1];rfl
 refine(JB 2 h [.im 0,.im 1,.im 2,.im j] ?_).trans ?_
 ·refine(dh (λl=>reach h cw l (bY 3)) e).trans ?_;show reach h (397+1+1+1) [.im j,.im 0] (bY 3)=_;rw[qi _ (.im j) [.im 0] (bY 3) _ M B.gj,px.1];show reach h (397+1+1) [.im 0] [.im 0,.im 1,.im 2,.im j]=_;rw[Hj _ _ _ _ bR];exact yu _ _
 ·have ne:∀ i:Nat,i<3->decide (Ref.im j=Ref.im i)=false:=λi hi=>de (λe=>by cases e; omega)
  have ij:iU [.im 0,.im 1,.im 2,.im j] (.im j)=some (.im 3):=by
   unfold iU;simp only[idx,ne 1 bu,ne 0 bu,ne 2 bu,iN,rT,iv];rfl
  simp only[dr,kL,B.g0,B.g1,B.g2,B.gj,px.2,(dS L t).2];show some (bt.dq [],[rO L t,fO nm (match iU [.im 0,.im 1,.im 2,.im j] (.im j) with|some s=>.cf s 0 n none 4|none=>.jd),dH 0,bG.cells (bp xs) 0])=_;rw[ij]
def Oi{L:List Tok}{s:RS}(h:s.p<L.length):I1 L (bJ s):=⟨λ_=>by show s.p+1<=_; omega,by show s.p+1<=_; omega⟩
def qKd{L:List Tok}{sub:RS->TT×RS}{okP:RS->Prop}(ok:n8 0 L sub okP)(hL:L.length<=1000)(nm x:LB):∀ (f:Nat) (s:RS) (acc:List TT) (h:bm) (j:Nat),I1 L s->tR sub okP L f s->L.length - s.p<f->acc.length+(L.length - s.p)<=L.length+2->IG h L s nm acc.length (qd acc) j ->
  ca tab.get S 111 3 1 [P0,kS x,IJ] h=some (.dq [],[rO L (gT sub L x f s acc).2,fO nm (.cf (.im 3) 0 (gT sub L x f s acc).1.length none 4),dH 0,.cells (bp (qd (gT sub L x f s acc).1)) 0])
 |0,s,acc,h,j,I,lo,hf,ha,A=>bn
 |f+1,s,acc,h,j,I,lo,hf,ha,A=>by
  have hp:s.p<=1000000:=by have:=I.2; omega
  unfold gT;rw[Dq,u9,Dt hp [44] A.g0];cases hi:dU 4 L s [44] with
  |false =>
   have ht:bZ 4 L s [44]=s:=by unfold bZ; rw[hi]; rfl
   rw[mN,bA bu,ht];exact qUc hp x (A.put (t:=s))
  |true =>
   obtain⟨h1,h2⟩:=zo bu hi;have ht:bZ 4 L s [44]=bJ s:=by unfold bZ; rw[hi]; rfl
   rw[oc,bF rfl,ht];obtain⟨M,U⟩:=lo hi;have In:=Oi h2;obtain⟨I',q⟩:=ok.inv _ In;obtain⟨aa,j1,hc,B⟩:=qXI (A.put (t:=bJ s)) bn (ok.one _ In M);show bE Om IJ [] (h.put (.im 0) (rO L (bJ s))) 14 _=_;rw[hc];have q':s.p+1<=(sub (bJ s)).2.p:=q;refine qKd ok hL nm x f _ (acc++[(sub (bJ s)).1]) aa j1 I' U bn (by rw[bV]; show acc.length+1+_<=_; omega) ?_;rw[bV,qNw];exact B
def qS5{L:List Tok}{sub:RS->TT×RS}{okP:RS->Prop}(ok:n8 0 L sub okP)(hL:L.length<=1000)(nm x:LB)(s:RS)(I:I1 L s)(ro:Dz sub okP L x s)(hx:dU 4 L s x=false) :
  Om 111 [P0,kS x,IJ] [rO L s,fO nm (.p .bq),dH 0]=some (.dq [],[rO L (gJ sub L x s).2,fO nm (.cf (.im 3) 0 (gJ sub L x s).1.length none 4),dH 0,.cells (bp (qd (gJ sub L x s).1)) 0]):=by
 refine(gD rfl).trans ?_;show ca tab.get S 111 3 0 [P0,kS x,IJ] (bm.mk [rO L s,fO nm (.p .bq),dH 0] .nil)=_;have A:SN (bm.mk [rO L s,fO nm (.p .bq),dH 0] .nil) L s nm:=⟨rfl,rfl,rfl⟩;generalize bm.mk [rO L s,fO nm (.p .bq),dH 0] .nil=H at A;have ht:bZ 4 L s x=s:=by unfold bZ; rw[hx]; rfl
 obtain⟨M,U⟩:=ro hx;obtain⟨I',q⟩:=ok.inv _ I;rw[wC,qK,Dt (by have:=I.2; omega) x A.g0,hx,mN,ht];obtain⟨h1,j1,hc,B⟩:=qXn (A.put (t:=s)) (ok.one _ I M);show bE Om IJ [] (H.put (.im 0) (rO L s)) 10 _=_;rw[hc];unfold gJ;rw[bA (by rw[hx]; decide)];refine qKd ok hL nm x (L.length+2) _ [(sub s).1] h1 j1 I' U bn (by show 1+_<=_; omega) ?_;show IG h1 L _ nm 1 ((sub s).1.row++[]) j1;rw[fa];exact B
def qTB{L:List Tok}{sub:RS->TT×RS}(nm x:LB)(s:RS)(h:s.p<=1000000)(hx:dU 4 L s x=true) :
  Om 111 [P0,kS x,IJ] [rO L s,fO nm (.p .bq),dH 0]=some (.dq [],[rO L (gJ sub L x s).2,fO nm (.p .bq),dH 0]):=by
 refine(gD rfl).trans ?_;show ca tab.get S 111 3 0 [P0,kS x,IJ] (bm.mk [rO L s,fO nm (.p .bq),dH 0] .nil)=_;have A:SN (bm.mk [rO L s,fO nm (.p .bq),dH 0] .nil) L s nm:=⟨rfl,rfl,rfl⟩;generalize bm.mk [rO L s,fO nm (.p .bq),dH 0] .nil=H at A;have ht:bZ 4 L s x=bJ s:=by unfold bZ; rw[hx]; rfl
 rw[wC,qK,Dt h x A.g0,hx,oc,ht];unfold gJ;rw[bF hx];have M:=A.put (t:=bJ s);generalize H.put (.im 0) (rO L (bJ s))=h at M;generalize bJ s=t at *;have e:(bY (2+1)).flatMap (λr=>match h.get r with|some o=>o.refs|none=>[])=[.im 0]:=by
  show([.im 0,.im 1,.im 2]:List Ref).flatMap _=_;simp only[eJ,jJ,M.g0,M.g1,M.g2];rw[(dS L t).1];rfl
 refine(JB 2 h [.im 0,.im 1,.im 2] ?_).trans ?_
 ·refine(dh (λl=>reach h cw l (bY 3)) e).trans ?_;show reach h (398+1+1) [.im 0] (bY 3)=_;rw[Hj _ _ _ _ bu];exact yu _ _
 ·simp only[dr,kL,M.g0,M.g1,M.g2,(dS L t).2];rfl
end Go.Proofs.YtnlmlcfipbnpgaaGreatDoor.Ab
namespace Go.AI
section
variable {β:Type} {O:bD} {h:bm} {d:Nat} {k:KO β}
def qVq(j sz:Nat)(a b:List bL)(rows:List (List bL))(o:bG)(hz:∀ r∈rows,r.length=sz)(A:j≠0)(hg:h.get (.im 0)=some o)(ho:kO o)(hj:h.get (.im j)=some (.cells (bp rows.flatten) 0)) :
  bS true 1 [.agg (bp a++Cell.cf (.im j) 0 rows.length none sz::bp b)] h=some (.v (.agg (bp (a ++ .slice sz false rows::b))),[o]):=by
 letI:Sym:=⟨λ_=>0⟩
 rw[JI];have e1:(bp a++Cell.cf (.im j) 0 rows.length none sz::bp b).mapM (freeze h eA)=some ((a.map λx=>(x,[]))++(.slice sz false rows,[.im j])::b.map λx=>(x,[])):=by
  rw[List.mapM_append,show eA=29+1 from rfl,qGy,ek,qGy,show(29+1:Nat)=28+2 from rfl,qE9 28 j sz none rows hz hj];rfl
 have e2:((a.map λx=>(x,([]:List Ref)))++(bL.slice sz false rows,[Ref.im j])::b.map λx=>(x,([]:List Ref))).map (λy=>Cell.p y.1)=bp (a ++ .slice sz false rows::b):=by
  unfold bp; rw[gG,gG,fU,dr,dr,fU]; rfl
 have n0:∀ a:List bL,(a.map λx=>(x,([]:List Ref))).flatMap (·.2)=[]:=λa=>by induction a with|nil=>rfl|cons x a ih=>rw[dr,eJ,ih]; rfl
 have e3:((a.map λx=>(x,([]:List Ref)))++(bL.slice sz false rows,[Ref.im j])::b.map λx=>(x,([]:List Ref))).flatMap (·.2)=[Ref.im j]:=by
  rw[xR,eJ,n0,n0]; rfl
 have ef:iF h (oneOf [.agg (bp a++Cell.cf (.im j) 0 rows.length none sz::bp b)])=some (.v (.agg (bp (a ++ .slice sz false rows::b))),[Ref.im j]):=by
  show((fJ h _).map _)=_;show((((bp a++Cell.cf (.im j) 0 rows.length none sz::bp b).mapM (freeze h eA)).map _).map _)=_;rw[e1];show some (bt.v (.agg (List.map (λy:bL×List Ref=>Cell.p y.1) _)),(List.flatMap (λx:bL×List Ref=>x.2) _:List Ref))=_;rw[e2,e3]
 obtain⟨q1,q2,q3,q4⟩:=zq (show pT (.v (.agg (bp (a ++ .slice sz false rows::b))))=true from qP8 _);obtain⟨M,hs,U⟩:∃ M,settle h [Ref.im j]=M/\M.get (.im 0)=some o:=by
  refine⟨h.put (.im j) (.cells (bp rows.flatten) (max 0 (bp rows.flatten).length)),by unfold settle; rw[hj]; rfl,?_⟩;rw[bm.cz hj (λe=>by cases e; exact A rfl)]; exact hg
 unfold qH;rw[show bY 1=[Ref.im 0] from rfl];simp[ef,hs,U,q1,q3,ho.1,ho.2,reach,cw]
def qWr(r:Ref)(i:Nat):bQ O (.box (.k (.v (.c (.ptr r i)))) true) h d k=k (.v (.c (.ptr (.im h.bY.length) 0))) (h.push (.cells [.ptr r i] 0)):=by rw[Ch]; rfl
def qUT(f:FuncId)(a b:Ref):bQ O (.qD f [.k (.v (.c (.ptr a 0))),.k (.v (.c (.ptr b 0)))]) h d k=k (.v (.c (.func f [a,b]))) h:=qg _ _ rfl
end
end Go.AI
namespace Go.Proofs.YtnlmlcfipbnpgaaGreatDoor.Ab
open Go Go.AI
def Cb{L:List Tok}{s:RS}(x:LB)(h:s.p<=L.length):I1 L (eP x L s)/\s.p+1<=(eP x L s).p:=by
 have h1:=Vz h;obtain⟨A,M⟩:=UM (k:=4) (x:=x) bu h1;refine⟨UO _ A,?_⟩;unfold eP;rw[Cc];rw[FK] at M;omega
def qNE{L:List Tok}{sub:RS->TT×RS}(inv:Inv L sub)(x:LB):∀ (f:Nat) (s:RS) (acc:List TT),I1 L s->I1 L (gT sub L x f s acc).2/\s.p<=(gT sub L x f s acc).2.p
 |0,s,acc,I=>⟨I,cB _⟩
 |f+1,s,acc,I=>by
  unfold gT;split
  ·rename_i hi;obtain⟨h1,A⟩:=zo bu hi;obtain⟨M,q⟩:=inv _ (Oi A);obtain⟨U,q3⟩:=qNE inv x f (sub (bJ s)).2 (acc++[(sub (bJ s)).1]) M;have:s.p+1<=(sub (bJ s)).2.p:=q;exact⟨U,bn⟩
  ·exact sQ x I
def R4{L:List Tok}{sub:RS->TT×RS}(inv:Inv L sub)(x:LB){s:RS}(I:I1 L s):I1 L (gJ sub L x s).2/\s.p<=(gJ sub L x s).2.p:=by
 unfold gJ;split
 ·rename_i hi;obtain⟨h1,A⟩:=zo bu hi;exact⟨Oi A,by show s.p<=s.p+1; omega⟩
 ·obtain⟨M,q⟩:=inv _ I;obtain⟨U,q3⟩:=qNE inv x (L.length+2) (sub s).2 [(sub s).1] M;exact⟨U,bn⟩
def kQ(L:List Tok)(s:RS):RS:=cU (bZ 4 L s [45,62]) (dU 4 L s [45,62])
def ph(sub:RS->TT×RS)(L:List Tok)(s:RS):GS×RS :=
 (⟨(cq L s).text,grown (gJ sub L [41] (eP [40] L s)).1,(sub (kQ L (gJ sub L [41] (eP [40] L s)).2)).1⟩,(sub (kQ L (gJ sub L [41] (eP [40] L s)).2)).2)
def N5(sub:RS->TT×RS)(ok:RS->Prop)(L:List Tok)(s:RS):Prop:=Dz sub ok L [41] (eP [40] L s)/\ok (kQ L (gJ sub L [41] (eP [40] L s)).2)
structure Fh (h:bm) (L:List Tok) (s:RS) (nm:LB) (c:Cell):Prop where
 g0:h.get (.im 0)=some (rO L s)
 g1:h.get (.im 1)=some (dH 0)
 g2:h.get (.im 2)=some (.cells [.p (.str []),.p .bq,.p (.int .i64 0),.p (.str []),.p .bq,.p .bq] 0)
 g3:h.get (.im 3)=some (fO nm c)
def Fh.put{h:bm}{L:List Tok}{s t:RS}{nm:LB}{c:Cell}(A:Fh h L s nm c):Fh (h.put (.im 0) (rO L t)) L t nm c :=
 ⟨bm.bX A.g0 cb,(bm.cz A.g0 bu).trans A.g1,(bm.cz A.g0 bu).trans A.g2,(bm.cz A.g0 bu).trans A.g3⟩
abbrev z6:List Cell:=[.p (.str []),.p .bq,.p (.int .i64 0),.p (.str []),.p .bq,.p .bq]
def qbb{L:List Tok}{sub:RS->TT×RS}{okP:RS->Prop}(ok:n8 0 L sub okP)(hL:L.length<=1000)(s:RS)(hs:s.p<=L.length)(o:N5 sub okP L s) :
  Om 48 [P0] [rO L s]=some (kA (cV (ph sub L s).1),[rO L (ph sub L s).2]):=by
 refine(gD rfl).trans ?_;show ca tab.get S 48 1 0 [P0] (bm.mk [rO L s] .nil)=_;obtain⟨ab,q1⟩:=Cb [40] hs;obtain⟨I2,q2⟩:=R4 ok.inv [41] ab;obtain⟨I3,q3⟩:=sQ [45,62] I2;obtain⟨o1,o2⟩:=o;have ae:=ok.one _ I3 o2;have ag:(dQ L s).p<=1000000:=by rw[FK]; omega
 have ah:∀ {β:Type}{k:KO β}{h:bm}{d:Nat},h.get (.im 0)=some (rO L s)->bE Om (F_ 110) [P0] h d k=k (kS (cq L s).text) (h.put (.im 0) (rO L (dQ L s))):=λ{β k h d} U=>u65 (k:=k) (d:=d) bn U
 have yi:∀ {β:Type}{h:bm}{e:Nat}{kt:KT β},h.get (.im 0)=some (rO L (dQ L s))->br Om (.call (.k (F_ 46)) [.k P0,.k (kS [40])]) h e kt=kt (kB (dU 4 L (dQ L s) [40])) (h.put (.im 0) (rO L (bZ 4 L (dQ L s) [40]))) ⟨[(Ref.im 0).site,(Ref.im 0).site],[(Ref.im 0).site],false⟩:=λ{β h e kt} U =>
  AR 46 (.im 0) (kS [40]) _ _ _ rfl rfl U (dS L _) (dS L _) (Oh L _ ag [40])
 have sD:∀ {β:Type}{h:bm}{e:Nat}{kt:KT β},h.get (.im 0)=some (rO L (bZ 4 L (dQ L s) [40]))->br Om (.call (.k (F_ 43)) [.k P0,.k (kB (dU 4 L (dQ L s) [40]))]) h e kt=kt (.dq []) (h.put (.im 0) (rO L (eP [40] L s))) ⟨[(Ref.im 0).site,(Ref.im 0).site],[(Ref.im 0).site],false⟩:=λ{β h e kt} U =>
  AR 43 (.im 0) (kB (dU 4 L (dQ L s) [40])) _ _ _ rfl rfl U (dS L _) (dS L _) (FJ L _ _)
 have ai:=qS5 ok hL (cq L s).text [41] (eP [40] L s) ab o1;have aj:=qTB (sub:=sub) (L:=L) (cq L s).text [41] (eP [40] L s) (by have:=ab.2; omega);unfold ph;generalize hr:gJ sub L [41] (eP [40] L s)=r at *;generalize aq:eP [40] L s=s1 at *;generalize dU 4 L (dQ L s) [40]=bc at *;generalize bZ 4 L (dQ L s) [40]=s2 at *;generalize dQ L s=s0 at *;generalize (cq L s).text=nm at *;have G0:∀ (a:RS) (cs:List bG) (o:TM (Nat×bG)),(bm.mk (rO L a::cs) o).get (.im 0)=some (rO L a):=λ_ _ _=>rfl
 have G1:∀ (a:bG) (cs:List bG) (o:TM (Nat×bG)),(bm.mk (a::dH 0::cs) o).get (.im 1)=some (dH 0):=λ_ _ _=>rfl
 have G3:∀ (a b c:bG) (cs:List bG) (o:TM (Nat×bG)),(bm.mk (a::b::c :: .cells z6 0::cs) o).get (.im 3)=some (.cells z6 0):=λ_ _ _ _ _=>rfl
 have GP:∀ (a b:RS) (cs:List bG) (o:TM (Nat×bG)),(bm.mk (rO L a::cs) o).put (.im 0) (rO L b)=bm.mk (rO L b::cs) o:=λ_ _ _ _=>rfl
 have ak:∀ (a b c e x:bG) (cs:List bG) (o:TM (Nat×bG)),(bm.mk (a::b::c::e::cs) o).put (.im 3) x=bm.mk (a::b::c::x::cs) o:=λ_ _ _ _ _ _ _=>rfl
 have U1:∀ (a x:bG) (o:TM (Nat×bG)),(bm.mk [a] o).push x=bm.mk [a,x] o:=λ_ _ _=>rfl
 have U2:∀ (a b x:bG) (o:TM (Nat×bG)),(bm.mk [a,b] o).push x=bm.mk [a,b,x] o:=λ_ _ _ _=>rfl
 have U3:∀ (a b c x:bG) (o:TM (Nat×bG)),(bm.mk [a,b,c] o).push x=bm.mk [a,b,c,x] o:=λ_ _ _ _ _=>rfl
 have LN:∀ (l:List bG) (o:TM (Nat×bG)),(bm.mk l o).bY=l:=λ_ _=>rfl
 have P6:∀ a b c d e f:Cell,dm z6 0 [a,b,c,d,e,f]=[a,b,c,d,e,f]:=λ_ _ _ _ _ _=>rfl
 rw[Tu,Kx];simp only[bW,rA,rD,qI,qWr,XF,qUT,U1,U2,U3,LN,G0,G1,G3,GP,ak,ah,yi,sD,P6];generalize hh:(bm.mk [rO L s1,dH 0,.cells z6 0,fO nm (.p .bq)] .nil)=h;have F0:h.get (.im 0)=some (rO L s1):=by rw[<- hh]; rfl
 have F1:h.get (.im 1)=some (dH 0):=by rw[<- hh]; rfl
 have F2:h.get (.im 2)=some (.cells z6 0):=by rw[<- hh]; rfl
 have F3:h.get (.im 3)=some (fO nm (.p .bq)):=by rw[<- hh]; rfl
 have Fl:h.bY.length=4:=by rw[<- hh]; rfl
 clear hh;have T1:AI.Touch.apart ⟨[(Ref.im 1).site],[],false⟩ ⟨[(Ref.im 0).site,(Ref.im 0).site],[(Ref.im 0).site],false⟩=true:=rfl;rw[T1];have A:reach h cw ([P0,kS [41],.v (.c (.func 112 [.im 3,.im 1]))].flatMap bt.refs) []=[.im 0,.im 3,.im 1]:=by
  show reach h (395+1+1+1+1+1) [.im 0,.im 3,.im 1] []=_;rw[qi _ (.im 0) _ _ _ bu F0,(dS L s1).1];show reach h (395+1+1+1+1) [.im 3,.im 1] [.im 0]=_;rw[qi _ (.im 3) _ _ _ bu F3];show reach h (395+1+1+1) [.im 1] [.im 0,.im 3]=_;rw[qi _ (.im 1) _ _ _ bu F1];show reach h (395+1+1) [.im 0] [.im 0,.im 3,.im 1]=_;rw[Hj _ _ _ _ bu];exact yu _ _
 have hm:([.im 0,.im 3,.im 1]:List Ref).mapM h.get=some [rO L s1,fO nm (.p .bq),dH 0]:=by
  simp only[ek,gg,F0,F1,F3,gC,rL,eG]
 have e5:([rO L s1,fO nm (.p .bq),dH 0]:List bG).map (bG.eB (iU [.im 0,.im 3,.im 1]))=[rO L s1,fO nm (.p .bq),dH 0]:=by
  rw[dr,(dS L s1).2]; rfl
 have al:r.2.p<=1000000:=by have:=I2.2; omega
 have d41:∀ {β:Type}{h:bm}{e:Nat}{kt:KT β},h.get (.im 0)=some (rO L r.2)->br Om (.call (.k (F_ 46)) [.k P0,.k (kS [45,62])]) h e kt=kt (kB (dU 4 L r.2 [45,62])) (h.put (.im 0) (rO L (bZ 4 L r.2 [45,62]))) ⟨[(Ref.im 0).site,(Ref.im 0).site],[(Ref.im 0).site],false⟩:=λ{β h e kt} U =>
  AR 46 (.im 0) (kS [45,62]) _ _ _ rfl rfl U (dS L _) (dS L _) (Oh L _ al [45,62])
 have d39:∀ {β:Type}{h:bm}{e:Nat}{kt:KT β},h.get (.im 0)=some (rO L (bZ 4 L r.2 [45,62]))->br Om (.call (.k (F_ 43)) [.k P0,.k (kB (dU 4 L r.2 [45,62]))]) h e kt=kt (.dq []) (h.put (.im 0) (rO L (kQ L r.2))) ⟨[(Ref.im 0).site,(Ref.im 0).site],[(Ref.im 0).site],false⟩:=λ{β h e kt} U =>
  AR 43 (.im 0) (kB (dU 4 L r.2 [45,62])) _ _ _ rfl rfl U (dS L _) (dS L _) (FJ L _ _)
 change Om 45 [P0,kI 1] [rO L (kQ L r.2)]=some (kA (sub (kQ L r.2)).1.row,[rO L (sub (kQ L r.2)).2]) at ae;have d34:∀ {β:Type}{k:KO β}{h:bm}{e:Nat},h.get (.im 0)=some (rO L (kQ L r.2))->bE Om (F_ 45) [P0,kI 1] h e k=k (kA (sub (kQ L r.2)).1.row) (h.put (.im 0) (rO L (sub (kQ L r.2)).2)):=λ{β k h e} U =>
  ny 45 (.im 0) 0 [] [kI 1] _ _ _ rfl rfl U (dS L _) (dS L _) (by simp only[jr]) ae
 obtain⟨a1,a2,a3,a4,ha⟩:=nw (sub (kQ L r.2)).1;unfold cV;rw[ha] at d34;show _=some (kA (bL.str nm::dI 4 TT.row (grown r.1)::(sub (kQ L r.2)).1.row),[rO L (sub (kQ L r.2)).2]);rw[ha];generalize sub (kQ L r.2)=res at *;generalize kQ L r.2=s5 at *;generalize dU 4 L r.2 [45,62]=b2 at *;generalize bZ 4 L r.2 [45,62]=s4 at *;have pr:bp [a1,a2,a3,a4]=[.p a1,.p a2,.p a3,.p a4]:=rfl;have af:∀ a b c d e f w x y z:Cell,dm [a,b,c,d,e,f] 2 [w,x,y,z]=[a,b,w,x,y,z]:=λ_ _ _ _ _ _ _ _ _ _=>rfl
 cases hx:dU 4 L s1 [41] with
 |true =>
  have aa:=aj hx;have an:r.1=[]:=by rw[<- hr]; unfold gJ; rw[bF hx]
  obtain⟨h1,hc,B⟩:=Hf (O:=Om) (h:=h) 111 [P0,kS [41],.v (.c (.func 112 [.im 3,.im 1]))] _ [P0,kS [41],IJ] _ _ _ _ _ (.dq []) rfl A hm rfl e5 aa (cB 3) bu rfl;have A1:Fh h1 L r.2 nm (.p .bq):=⟨B.own 0 (.im 0) _ rfl (by show some ((rO L r.2).eB _)=_; rw[(dS L r.2).2]) cb,B.own 2 (.im 1) _ rfl rfl cb,B.rk (.im 2) _ bu F2,B.own 1 (.im 3) _ rfl rfl cb⟩;rw[hc,an];have A2:=A1.put (t:=s4);have A3:=A2.put (t:=s5);have M:=A3.put (t:=res.2);have A5:∀ cs,((((h1.put (.im 0) (rO L s4)).put (.im 0) (rO L s5)).put (.im 0) (rO L res.2)).put (.im 3) (.cells cs 0)).get (.im 3)=some (.cells cs 0):=λcs=>bm.bX M.g3 cb
  have A6:∀ cs,((((h1.put (.im 0) (rO L s4)).put (.im 0) (rO L s5)).put (.im 0) (rO L res.2)).put (.im 3) (.cells cs 0)).get (.im 2)=some (.cells [.p (.str []),.p .bq,.p (.int .i64 0),.p (.str []),.p .bq,.p .bq] 0):=λcs=>(bm.cz M.g3 bu).trans M.g2
  have A7:∀ cs ds,(((((h1.put (.im 0) (rO L s4)).put (.im 0) (rO L s5)).put (.im 0) (rO L res.2)).put (.im 3) (.cells cs 0)).put (.im 2) (.cells ds 0)).get (.im 2)=some (.cells ds 0):=λcs ds=>bm.bX (A6 cs) cb
  simp only[bW,rA,rD,qI,A1.g0,A1.g1,A2.g0,A3.g0,A3.g1,M.g3,A5,A6,A7,d41,d39,d34,T1,pr,af,P6];exact sP true [.agg (bp [.str nm,.bq,a1,a2,a3,a4])] _ (by simp only[jr]) ((bm.cz (A6 _) bu).trans ((bm.cz M.g3 bu).trans M.g0)) (dS L res.2)
 |false =>
  have aa:=ai hx;have ao:r.1≠[]:=by
   rw[<- hr]; unfold gJ; rw[bA (by rw[hx]; decide)];have:∀ (f:Nat) (s:RS) (acc:List TT),acc≠[]->(gT sub L [41] f s acc).1≠[]:=by
    intro f
    induction f with
    |zero=>intro s acc h; exact h
    |succ f ih =>
     intro s acc h;unfold gT;split
     ·exact ih _ _ bR
     ·exact h
   exact this _ _ _ bR
  have pl:=nH (qd r.1) 0;obtain⟨h1,hc,B⟩:=Hf (O:=Om) (h:=h) 111 [P0,kS [41],.v (.c (.func 112 [.im 3,.im 1]))] _ [P0,kS [41],IJ] _ _ _ _ _ (.dq []) rfl A hm rfl e5 aa (show(3:Nat)<=4 by decide) bu rfl;have A1:Fh h1 L r.2 nm (.cf (.im (h.bY.length+0)) 0 r.1.length none 4):=⟨B.own 0 (.im 0) _ rfl (by show some ((rO L r.2).eB _)=_; rw[(dS L r.2).2]) cb,B.own 2 (.im 1) _ rfl rfl cb,B.rk (.im 2) _ bu F2,B.own 1 (.im 3) _ rfl rfl cb⟩;have Gj:h1.get (.im (h.bY.length+0))=some (.cells (bp (qd r.1)) 0):=B.new 0 _ (dh some (pl.2 _)) cb;rw[Fl] at A1 Gj;rw[hc];have A2:=A1.put (t:=s4);have A3:=A2.put (t:=s5);have M:=A3.put (t:=res.2);have A5:∀ cs,((((h1.put (.im 0) (rO L s4)).put (.im 0) (rO L s5)).put (.im 0) (rO L res.2)).put (.im 3) (.cells cs 0)).get (.im 3)=some (.cells cs 0):=λcs=>bm.bX M.g3 cb
  have A6:∀ cs,((((h1.put (.im 0) (rO L s4)).put (.im 0) (rO L s5)).put (.im 0) (rO L res.2)).put (.im 3) (.cells cs 0)).get (.im 2)=some (.cells [.p (.str []),.p .bq,.p (.int .i64 0),.p (.str []),.p .bq,.p .bq] 0):=λcs=>(bm.cz M.g3 bu).trans M.g2
  have A7:∀ cs ds,(((((h1.put (.im 0) (rO L s4)).put (.im 0) (rO L s5)).put (.im 0) (rO L res.2)).put (.im 3) (.cells cs 0)).put (.im 2) (.cells ds 0)).get (.im 2)=some (.cells ds 0):=λcs ds=>bm.bX (A6 cs) cb
  simp only[bW,rA,rD,qI,A1.g0,A1.g1,A2.g0,A3.g0,A3.g1,M.g3,A5,A6,A7,d41,d39,d34,T1,pr,af,P6];have gl:dI 4 TT.row (grown r.1) = .slice 4 false (r.1.map TT.row):=by
   rw[<- XN];cases hq:r.1 with
   |nil=>exact absurd hq ao
   |cons a l=>rfl
  rw[gl];have ad:(r.1.map TT.row).flatten=qd r.1:=by unfold qd; rw[Ao]
  have:=qVq (h:=(((((h1.put (.im 0) (rO L s4)).put (.im 0) (rO L s5)).put (.im 0) (rO L res.2)).put (.im 3) (.cells [.p (.str nm),.cf (.im 4) 0 r.1.length none 4,.p a1,.p a2,.p a3,.p a4] 0)).put (.im 2) (.cells [.p (.str nm),.cf (.im 4) 0 r.1.length none 4,.p a1,.p a2,.p a3,.p a4] 0))) 4 4 [.str nm] [a1,a2,a3,a4] (r.1.map TT.row) (rO L res.2) (λx hx=>by obtain⟨t,_,rfl⟩:=fk.1 hx; rw[TT.ct]) bu ((bm.cz (A6 _) bu).trans ((bm.cz M.g3 bu).trans M.g0)) (dS L res.2) (by
   rw[ad]
   exact(bm.cz (A6 _) bu).trans ((bm.cz M.g3 bu).trans ((bm.cz A3.g0 bu).trans ((bm.cz A2.g0 bu).trans ((bm.cz A1.g0 bu).trans Gj)))))
  rw[dj] at this;exact this
end Go.Proofs.YtnlmlcfipbnpgaaGreatDoor.Ab
namespace Go.AI
section
variable {β:Type} {O:bD} {h:bm} {d:Nat} {k:KO β} {kt:KT β}
def XX(g:FuncId)(r:Ref)(v:bt)(o o':bG)(hv:pT v=true)(M:h.get r=some o)(ho:kO o)(A:kO o')(hc:O g [.v (.c (.ptr (.im 0) 0))] [o]=some (v,[o'])) :
  br O (.call (.k (.v (.c (.func g [])))) [.k (.v (.c (.ptr r 0)))]) h d kt=kt v (h.put r o') ⟨[r.site,r.site],[r.site],false⟩:=by
 obtain⟨p1,p2,p3,p4⟩:=zq hv;have U:reach h cw ([bt.v (.c (.ptr r 0))].flatMap bt.refs) []=[r]:=by
  show reach h (398+1+1) [r] []=_;rw[qi _ r [] [] o bR M,ho.1];exact yu _ _
 have e3:([r]:List Ref).mapM h.get=some [o]:=by simp only[ek,gg,M,gC,rL,eG]
 have ir:iU [r] r=some (.im 0):=by simp[iU,idx]
 have e4:([bt.v (.c (.ptr r 0))]).map (bt.eB (iU [r]))=[.v (.c (.ptr (.im 0) 0))]:=by
  show [bt.v (.c (match iU [r] r with|some s=>.ptr s 0|none=>.jd))]=_;rw[ir]
 have co:=qG6 (d:=d) (h:=h) (O:=O) g [.v (.c (.ptr r 0))] [.v (.c (.ptr r 0))] _ [r] [o] [o] [o'] v rfl U e3 e4 (by rw[dr,ho.2]; rfl) hc (cB _);have hp:cH .nil (.call (.k (.v (.c (.func g [])))) [.k (.v (.c (.ptr r 0)))])=some (.call g [.v (.c (.ptr r 0))]):=rfl;show dO (mB (.call (.k (.v (.c (.func g [])))) [.k (.v (.c (.ptr r 0)))]) .nil) (λp=>dO (p.exec O d h) λx=>kt x.1 x.2.1 x.2.2)=_;rw[zt,hp];show dO (dE O g [.v (.c (.ptr r 0))] d h) _=_;rw[co,nX];have h1:om h [r] [o']=h.put r o':=by show h.put r (o'.eB _)=_; rw[A.2]
 have h2:sj h [.v (.c (.ptr r 0))] [o] [r] [o']=⟨[r.site,r.site],[r.site],false⟩:=by
  unfold sj;rw[eJ,jJ,eJ,jJ,ho.1];rfl
 dsimp only;rw[h1,h2,p3]
def qTl(z:List Cell)(A c1 c2 c3 c4:bL)(hz:z=[.p (.str []),.p (.int .i64 0),.p (.str []),.p .bq,.p .bq]):br O (.cm 5 1 z [(0,.k (.v (.agg (bp [A,c1,c2,c3,c4]))))] true) h d kt=kt (.v (.c (.cf (.im h.bY.length) 0 1 (some 1) 5))) (h.push (.cells [.p A,.p c1,.p c2,.p c3,.p c4] 0)) ⟨[],[.im h.bY.length],true⟩:=by
 subst hz;exact JR _ [] _ _ _ _ rfl rfl
def qTc(z:List Cell)(A c1 c2 c3 c4 M:bL)(hz:z=[.p (.str []),.p .bq,.p (.int .i64 0),.p (.str []),.p .bq,.p .bq]):br O (.cm 6 1 z [(0,.k (.v (.agg (bp [A,c1,c2,c3,c4,M]))))] true) h d kt=kt (.v (.c (.cf (.im h.bY.length) 0 1 (some 1) 6))) (h.push (.cells [.p A,.p c1,.p c2,.p c3,.p c4,.p M] 0)) ⟨[],[.im h.bY.length],true⟩:=by
 subst hz;exact JR _ [] _ _ _ _ rfl rfl
def Xi(n:Nat)(hn:n≠2):Touch.apart ⟨[(Ref.im 2).site],[],false⟩ ⟨[],[.im n],true⟩=true:=by
 unfold Touch.apart sB;have:(Ref.im 2).site=Site.im 2:=rfl;rw[this];simp;omega
end
end Go.AI
namespace Go.Proofs.YtnlmlcfipbnpgaaGreatDoor.Ab
open Go Go.AI
abbrev mi:List Cell:=[.p (.int .i64 0),.p (.str []),.p .bq,.p .bq,.p .bq,.p .bq]
def FC(h:bm)(ns:Es)(T:Cell):Prop:=(ns=[]/\T = .p .bq)\/(ns≠[]/\∃ j,3<=j/\T = .cf (.im j) 0 ns.length none 5/\h.get (.im j)=some (.cells (bp (dW ns)) 0))
def FD(h:bm)(gs:Gs)(G:Cell):Prop:=(gs=[]/\G = .p .bq)\/(gs≠[]/\∃ j,3<=j/\G = .cf (.im j) 0 gs.length none 6/\h.get (.im j)=some (.cells (bp (jA gs)) 0))
structure Ps (h:bm) (L:List Tok) (s:RS) (main:TT) (ns:Es) (gs:Gs) (T G:Cell):Prop where
 g0:h.get (.im 0)=some (.cells mi 0)
 g1:h.get (.im 1)=some (rO L s)
 g2:h.get (.im 2)=some (.cells (bp main.row++[T,G]) 0)
 tT:FC h ns T
 tG:FD h gs G
 ap:∀ r∈T.refs,r∉G.refs
def FC.ref{h:bm}{ns:Es}{T:Cell}(A:FC h ns T):∀ r∈T.refs,∃ j,r = .im j/\3<=j/\j<h.bY.length:=by
 rcases A with ⟨_,rfl⟩|⟨_,j,hj,rfl,U⟩
 ·intro r M; cases M
 ·intro r M;have:r = .im j:=by simpa [Cell.refs] using M
  refine⟨j,this,hj,?_⟩;have:=(bm.ej U).1;exact(cQ.1 this).1
def FD.ref{h:bm}{ns:Gs}{T:Cell}(A:FD h ns T):∀ r∈T.refs,∃ j,r = .im j/\3<=j/\j<h.bY.length:=by
 rcases A with ⟨_,rfl⟩|⟨_,j,hj,rfl,U⟩
 ·intro r M; cases M
 ·intro r M;have:r = .im j:=by simpa [Cell.refs] using M
  refine⟨j,this,hj,?_⟩;have:=(bm.ej U).1;exact(cQ.1 this).1
def FC.dY{h h':bm}{ns:Es}{T:Cell}(A:FC h ns T)(k:∀ r∈T.refs,h'.get r=h.get r):FC h' ns T:=by
 rcases A with ⟨e,rfl⟩|⟨e,j,hj,rfl,M⟩
 ·exact .inl ⟨e,rfl⟩
 ·exact .inr ⟨e,j,hj,rfl,(k (.im j) (by simp[Cell.refs])).trans M⟩
def FD.dY{h h':bm}{ns:Gs}{T:Cell}(A:FD h ns T)(k:∀ r∈T.refs,h'.get r=h.get r):FD h' ns T:=by
 rcases A with ⟨e,rfl⟩|⟨e,j,hj,rfl,M⟩
 ·exact .inl ⟨e,rfl⟩
 ·exact .inr ⟨e,j,hj,rfl,(k (.im j) (by simp[Cell.refs])).trans M⟩
def Ps.put{h:bm}{L:List Tok}{s t:RS}{main:TT}{ns:Es}{gs:Gs}{T G:Cell}(A:Ps h L s main ns gs T G):Ps (h.put (.im 1) (rO L t)) L t main ns gs T G:=by
 have k:∀ j,3<=j->(h.put (.im 1) (rO L t)).get (.im j)=h.get (.im j):=λj hj=>bm.cz A.g1 (λe=>by cases e; omega)
 refine⟨(bm.cz A.g1 bu).trans A.g0,bm.bX A.g1 cb,(bm.cz A.g1 bu).trans A.g2,A.tT.dY λr M=>?_,A.tG.dY λr M=>?_,A.ap⟩
 ·obtain⟨j,rfl,hj,_⟩:=A.tT.ref r M; exact k j hj
 ·obtain⟨j,rfl,hj,_⟩:=A.tG.ref r M; exact k j hj
def Ps.len{h:bm}{L:List Tok}{s:RS}{main:TT}{ns:Es}{gs:Gs}{T G:Cell}(A:Ps h L s main ns gs T G):3<=h.bY.length:=by
 have:=(bm.ej A.g2).1;have:=(cQ.1 this).1;omega
def ja:LB:=[116,121,112,101]
def qQH{h:bm}{L:List Tok}{s s':RS}{main v:TT}{gs:Gs}{G:Cell}(A:Ps h L s main [] gs (.p .bq) G)(ah:s.p<=900000)(he:s.e=0)(hp:s.p<L.length)(hk:dU 1 L s ja=true)
  (ab:Om 47 [P0] [rO L (bJ s)]=some (kA (eh (cq L (bJ s)).text v),[rO L s'])) :
  ∃ h' T',Ps h' L s' main [((cq L (bJ s)).text,v)] gs T' G/\ca tab.get S 13 0 1 [pI 0,pI 1,pI 2] h=ca tab.get S 13 0 2 [pI 0,pI 1,pI 2] h':=by
 obtain⟨m1,m2,m3,m4,hm⟩:=nw main;obtain⟨a1,a2,a3,a4,ha⟩:=nw v;generalize ag:(cq L (bJ s)).text=key at *;have ht:bZ 1 L s ja=bJ s:=by unfold bZ; rw[hk]; rfl
 have aa:=Od L s bn ja;rw[hk,ht] at aa;have A1:=A.put (t:=bJ s);have A2:=A1.put (t:=s');have ad:∀ {β:Type}{k:KO β}{d:Nat},bE Om (F_ 44) [pI 1,kS [116,121,112,101]] h d k=k (kB true) (h.put (.im 1) (rO L (bJ s))):=λ{β k d} =>
  ny 44 (.im 1) 0 [] [kS ja] _ _ _ rfl rfl A.g1 (dS L _) (dS L _) rfl aa
 have U:∀ {β:Type}{d:Nat}{kt:KT β},br Om (.call (.k (F_ 47)) [.k (pI 1)]) (h.put (.im 1) (rO L (bJ s))) d kt=kt (kA (eh key v)) ((h.put (.im 1) (rO L (bJ s))).put (.im 1) (rO L s')) ⟨[(Ref.im 1).site,(Ref.im 1).site],[(Ref.im 1).site],false⟩:=λ{β d kt} =>
  XX 47 (.im 1) _ _ _ (by simp only[jr]) A1.g1 (dS L _) (dS L _) ab
 unfold eh at U;rw[ha] at U;generalize h.put (.im 1) (rO L (bJ s))=h1 at *;generalize h1.put (.im 1) (rO L s')=M at *;have B1:=A.g1;have B2:=A1.g2;have B3:=A2.g2;rw[hm] at B2 B3;change h1.get (.im 2)=some (.cells [.p m1,.p m2,.p m3,.p m4,.p .bq,G] 0) at B2;change M.get (.im 2)=some (.cells [.p m1,.p m2,.p m3,.p m4,.p .bq,G] 0) at B3;have ai:=A2.len;have gb:(M.push (.cells [.p (.str key),.p a1,.p a2,.p a3,.p a4] 0)).get (.im M.bY.length)=some (.cells [.p (.str key),.p a1,.p a2,.p a3,.p a4] 0):=Hn M _ cb;have ap:=λ{β:Type} {kt:KT β} {d:Nat}=>Yb (O:=Om) (kt:=kt) (d:=d) (sz:=5) (by':=88) (lb:=1) (capb:=some 1) bn bn gb rfl
 have l3:(M.push (.cells [.p (.str key),.p a1,.p a2,.p a3,.p a4] 0)).bY.length=M.bY.length+1:=mA _ _;have K4:((M.push (.cells [.p (.str key),.p a1,.p a2,.p a3,.p a4] 0)).push (.cells [.p (.str key),.p a1,.p a2,.p a3,.p a4] 0)).get (.im 2)=some (.cells [.p m1,.p m2,.p m3,.p m4,.p .bq,G] 0):=(uj _ _ _ (by rw[l3]; omega)).trans ((uj _ _ _ bn).trans B3);have ae:AI.Touch.apart ⟨[(Ref.im 2).site],[],false⟩ ⟨[(Ref.im 1).site,(Ref.im 1).site],[(Ref.im 1).site],false⟩=true:=rfl;have TN:=Xi M.bY.length bn;have BS:∀ {β:Type}{d:Nat}{kt:KT β},br Om (.cm 5 1 z5 [(0,.k (kA [.str key,a1,a2,a3,a4]))] true) M d kt=kt (.v (.c (.cf (.im M.bY.length) 0 1 (some 1) 5))) (M.push (.cells [.p (.str key),.p a1,.p a2,.p a3,.p a4] 0)) ⟨[],[.im M.bY.length],true⟩:=λ{β d kt}=>qTl _ _ _ _ _ _ rfl
 have P4:∀ x:Cell,dm [.p m1,.p m2,.p m3,.p m4,.p .bq,G] 4 [x]=[.p m1,.p m2,.p m3,.p m4,x,G]:=λ_=>rfl
 have pr:bp [.str key,a1,a2,a3,a4]=[.p (.str key),.p a1,.p a2,.p a3,.p a4]:=rfl;have q1:(s.p:Int)<(L.length:Int):=bn
 refine⟨((M.push (.cells [.p (.str key),.p a1,.p a2,.p a3,.p a4] 0)).push (.cells [.p (.str key),.p a1,.p a2,.p a3,.p a4] 0)).put (.im 2) (.cells [.p m1,.p m2,.p m3,.p m4,.cf (.im (M.push (.cells [.p (.str key),.p a1,.p a2,.p a3,.p a4] 0)).bY.length) 0 1 none 5,G] 0),.cf (.im (M.push (.cells [.p (.str key),.p a1,.p a2,.p a3,.p a4] 0)).bY.length) 0 1 none 5,?_,?_⟩
 ·have rk:∀ i o,i≠2->i<M.bY.length->M.get (.im i)=some o->(((M.push (.cells [.p (.str key),.p a1,.p a2,.p a3,.p a4] 0)).push (.cells [.p (.str key),.p a1,.p a2,.p a3,.p a4] 0)).put (.im 2) (.cells [.p m1,.p m2,.p m3,.p m4,.cf (.im (M.push (.cells [.p (.str key),.p a1,.p a2,.p a3,.p a4] 0)).bY.length) 0 1 none 5,G] 0)).get (.im i)=some o:=λi o hi hl ho =>
   (bm.cz K4 (λe=>by cases e; exact hi rfl)).trans ((uj _ _ _ (by rw[l3]; omega)).trans ((uj _ _ _ hl).trans ho))
  refine⟨rk 0 _ bu bn A2.g0,rk 1 _ bu bn A2.g1,by rw[hm]; exact bm.bX K4 cb,.inr ⟨bR,_,by rw[l3]; omega,rfl,?_⟩,?_,?_⟩
  ·have:dW [(key,v)]=[.str key,a1,a2,a3,a4]:=by show eh key v++[]=_; unfold eh; rw[ha]; rfl
   rw[this];exact(bm.cz K4 (λe=>by have:=Ref.im.inj e; rw[l3] at this; omega)).trans (Hn _ _ cb)
  ·rcases A2.tG with ⟨e,rfl⟩|⟨e,j,hj,rfl,hg⟩
   ·exact .inl ⟨e,rfl⟩
   ·have:=(bm.ej hg).1;have:=(cQ.1 this).1;exact .inr ⟨e,j,hj,rfl,rk j _ bn this hg⟩
  ·intro r hr af;obtain⟨j,rfl,_,hj⟩:=A2.tG.ref r af;have:Ref.im j=Ref.im (M.push (.cells [.p (.str key),.p a1,.p a2,.p a3,.p a4] 0)).bY.length:=by simpa [Cell.refs] using hr
   rw[l3] at this;cases this;omega
 ·rw[wa,uZ];simp only[bW,rA,rD,qI,B1,he,q1,wH,ad,B2,U,BS,rY,ap,K4,P4,ae,TN]
def qPl{h:bm}{L:List Tok}{s s':RS}{main v:TT}{ns:Es}{gs:Gs}{G:Cell}{j:Nat}(hj:3<=j)(af:ns≠[])(hn:ns.length<=80000)(A:Ps h L s main ns gs (.cf (.im j) 0 ns.length none 5) G)(ao:s.p<=900000)(he:s.e=0)(hp:s.p<L.length)(hk:dU 1 L s ja=true)
  (ag:Om 47 [P0] [rO L (bJ s)]=some (kA (eh (cq L (bJ s)).text v),[rO L s'])) :
  ∃ h' T',Ps h' L s' main (ns++[((cq L (bJ s)).text,v)]) gs T' G/\ca tab.get S 13 0 1 [pI 0,pI 1,pI 2] h=ca tab.get S 13 0 2 [pI 0,pI 1,pI 2] h':=by
 obtain⟨m1,m2,m3,m4,hm⟩:=nw main;obtain⟨a1,a2,a3,a4,ha⟩:=nw v;generalize an:(cq L (bJ s)).text=key at *;have ht:bZ 1 L s ja=bJ s:=by unfold bZ; rw[hk]; rfl
 have ad:=Od L s bn ja;rw[hk,ht] at ad;have A1:=A.put (t:=bJ s);have U:=A1.put (t:=s');have ah:∀ {β:Type}{k:KO β}{d:Nat},bE Om (F_ 44) [pI 1,kS [116,121,112,101]] h d k=k (kB true) (h.put (.im 1) (rO L (bJ s))):=λ{β k d} =>
  ny 44 (.im 1) 0 [] [kS ja] _ _ _ rfl rfl A.g1 (dS L _) (dS L _) rfl ad
 have aa:∀ {β:Type}{d:Nat}{kt:KT β},br Om (.call (.k (F_ 47)) [.k (pI 1)]) (h.put (.im 1) (rO L (bJ s))) d kt=kt (kA (eh key v)) ((h.put (.im 1) (rO L (bJ s))).put (.im 1) (rO L s')) ⟨[(Ref.im 1).site,(Ref.im 1).site],[(Ref.im 1).site],false⟩:=λ{β d kt} =>
  XX 47 (.im 1) _ _ _ (by simp only[jr]) A1.g1 (dS L _) (dS L _) ag
 unfold eh at aa;rw[ha] at aa;generalize h.put (.im 1) (rO L (bJ s))=h1 at *;generalize h1.put (.im 1) (rO L s')=M at *;have B1:=A.g1;have B2:=A1.g2;have B3:=U.g2;rw[hm] at B2 B3;change h1.get (.im 2)=some (.cells [.p m1,.p m2,.p m3,.p m4,.cf (.im j) 0 ns.length none 5,G] 0) at B2;change M.get (.im 2)=some (.cells [.p m1,.p m2,.p m3,.p m4,.cf (.im j) 0 ns.length none 5,G] 0) at B3;have ab:M.get (.im j)=some (.cells (bp (dW ns)) 0):=by
  rcases U.tT with ⟨e,_⟩|⟨_,j',_,e,hg⟩
  ·exact absurd e af
  ·cases e; exact hg
 have hX:(bp (dW ns)).length=ns.length*5:=by rw[qV,qIq]
 have ae:bp (dW (ns++[(key,v)]))=bp (dW ns)++[.p (.str key),.p a1,.p a2,.p a3,.p a4]:=by
  have:dW (ns++[(key,v)])=dW ns++[.str key,a1,a2,a3,a4]:=by rw[qHP]; show _++eh key v=_; unfold eh; rw[ha]
  rw[this]; unfold bp; rw[gG]; rfl
 generalize bp (dW ns)=X at ab hX ae;have ai:j<M.bY.length:=by
  have:=(bm.ej ab).1;exact(cQ.1 this).1
 have ga:(M.push (.cells [.p (.str key),.p a1,.p a2,.p a3,.p a4] 0)).get (.im j)=some (.cells X 0):=(uj _ _ _ ai).trans ab;have gb:(M.push (.cells [.p (.str key),.p a1,.p a2,.p a3,.p a4] 0)).get (.im M.bY.length)=some (.cells [.p (.str key),.p a1,.p a2,.p a3,.p a4] 0):=Hn M _ cb;have ap:=λ{β:Type} {kt:KT β} {d:Nat}=>X9 (O:=Om) (kt:=kt) (d:=d) (sz:=5) (by':=88) (la:=ns.length) (lb:=1) (capb:=some 1) bn bn ga gb hX rfl
 have l3:(M.push (.cells [.p (.str key),.p a1,.p a2,.p a3,.p a4] 0)).bY.length=M.bY.length+1:=mA _ _;have l4:((M.push (.cells [.p (.str key),.p a1,.p a2,.p a3,.p a4] 0)).put (.im j) .dead).bY.length=M.bY.length+1:=(wJ _ _ _).trans l3;have K4:(((M.push (.cells [.p (.str key),.p a1,.p a2,.p a3,.p a4] 0)).put (.im j) .dead).push (.cells (X++[.p (.str key),.p a1,.p a2,.p a3,.p a4]) 0)).get (.im 2)=some (.cells [.p m1,.p m2,.p m3,.p m4,.cf (.im j) 0 ns.length none 5,G] 0):=(uj _ _ _ (by rw[l4]; omega)).trans ((bm.cz ga (λe=>by have:=Ref.im.inj e; omega)).trans ((uj _ _ _ bn).trans B3));have aj:AI.Touch.apart ⟨[(Ref.im 2).site],[],false⟩ ⟨[(Ref.im 1).site,(Ref.im 1).site],[(Ref.im 1).site],false⟩=true:=rfl;have TN:=Xi M.bY.length bn;have BS:∀ {β:Type}{d:Nat}{kt:KT β},br Om (.cm 5 1 z5 [(0,.k (kA [.str key,a1,a2,a3,a4]))] true) M d kt=kt (.v (.c (.cf (.im M.bY.length) 0 1 (some 1) 5))) (M.push (.cells [.p (.str key),.p a1,.p a2,.p a3,.p a4] 0)) ⟨[],[.im M.bY.length],true⟩:=λ{β d kt}=>qTl _ _ _ _ _ _ rfl
 have P4:∀ x:Cell,dm [.p m1,.p m2,.p m3,.p m4,.cf (.im j) 0 ns.length none 5,G] 4 [x]=[.p m1,.p m2,.p m3,.p m4,x,G]:=λ_=>rfl
 have q1:(s.p:Int)<(L.length:Int):=bn
 refine⟨(((M.push (.cells [.p (.str key),.p a1,.p a2,.p a3,.p a4] 0)).put (.im j) .dead).push (.cells (X++[.p (.str key),.p a1,.p a2,.p a3,.p a4]) 0)).put (.im 2) (.cells [.p m1,.p m2,.p m3,.p m4,.cf (.im (M.push (.cells [.p (.str key),.p a1,.p a2,.p a3,.p a4] 0)).bY.length) 0 (ns.length+1) none 5,G] 0),.cf (.im (M.push (.cells [.p (.str key),.p a1,.p a2,.p a3,.p a4] 0)).bY.length) 0 (ns.length+1) none 5,?_,?_⟩
 ·have rk:∀ i o,i≠2->i≠j->i<M.bY.length->M.get (.im i)=some o->((((M.push (.cells [.p (.str key),.p a1,.p a2,.p a3,.p a4] 0)).put (.im j) .dead).push (.cells (X++[.p (.str key),.p a1,.p a2,.p a3,.p a4]) 0)).put (.im 2) (.cells [.p m1,.p m2,.p m3,.p m4,.cf (.im (M.push (.cells [.p (.str key),.p a1,.p a2,.p a3,.p a4] 0)).bY.length) 0 (ns.length+1) none 5,G] 0)).get (.im i)=some o:=λi o hi aq hl ho =>
   (bm.cz K4 (λe=>by cases e; exact hi rfl)).trans ((uj _ _ _ (by rw[l4]; omega)).trans ((bm.cz ga (λe=>by have:=Ref.im.inj e; omega)).trans ((uj _ _ _ hl).trans ho)))
  refine⟨rk 0 _ bu bn bn U.g0,rk 1 _ bu bn bn U.g1,by rw[hm]; exact bm.bX K4 cb,.inr ⟨bR,(M.push (.cells [.p (.str key),.p a1,.p a2,.p a3,.p a4] 0)).bY.length,by rw[l3]; omega,by rw[bV]; rfl,?_⟩,?_,?_⟩
  ·rw[ae];have:=Hn ((M.push (.cells [.p (.str key),.p a1,.p a2,.p a3,.p a4] 0)).put (.im j) .dead) (.cells (X++[.p (.str key),.p a1,.p a2,.p a3,.p a4]) 0) cb;rw[l4] at this;rw[l3];exact(bm.cz K4 (λe=>by have:=Ref.im.inj e; omega)).trans this
  ·rcases U.tG with ⟨e,e2⟩|⟨e,k,ak,e2,hg⟩
   ·exact .inl ⟨e,e2⟩
   ·have:=(bm.ej hg).1;have:=(cQ.1 this).1;have kj:k≠j:=λe=>U.ap (.im j) (by simp[Cell.refs]) (by rw[e2,<- e]; simp[Cell.refs])
    exact .inr ⟨e,k,ak,e2,rk k _ bn kj this hg⟩
  ·intro r hr al;obtain⟨k,rfl,_,ar⟩:=U.tG.ref r al;have:Ref.im k=Ref.im (M.push (.cells [.p (.str key),.p a1,.p a2,.p a3,.p a4] 0)).bY.length:=by simpa [Cell.refs] using hr
   rw[l3] at this;have:=Ref.im.inj this;omega
 ·rw[wa,uZ];simp only[bW,rA,rD,qI,B1,he,q1,wH,ah,B2,aa,BS,rY,ap,K4,P4,aj,TN]
end Go.Proofs.YtnlmlcfipbnpgaaGreatDoor.Ab
