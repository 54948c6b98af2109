/- Own work. Condition: what each theorem names. -/
import Derived.Test.YtnlmlcfipbnpgaaGreatDoorG1
set_option linter.all false
set_option maxRecDepth 100000
set_option maxHeartbeats 4000000
open Nat renaming reduceAdd->rA,reduceMul->rB,reduceLT->rC,reduceLeDiff->rD,reduceEqDiff->rE
open Int renaming reduceLT->rF,reduceLE->rG,reduceEq->rH,reduceToNat->rI
open Option renaming some.injEq->rJ,bind_eq_some_iff->rK,bind_eq_bind->rL
namespace Go.Proofs.YtnlmlcfipbnpgaaGreatDoor.Ab
open Go Go.AI
def nB(L:List Tok)(s:RS):RS:=cU (bZ 1 L s [102,110]) (dU 1 L s [102,110])
def qIL(f:GS):∃ a1 a2 a3 a4 a5,cV f=[.str f.nm,a5,a1,a2,a3,a4]:=by
 obtain⟨a1,a2,a3,a4,h⟩:=nw f.rs;exact⟨a1,a2,a3,a4,dI 4 TT.row f.pr,by unfold cV; rw[h]⟩
def qUM{h:bm}{L:List Tok}{s s':RS}{main:TT}{f:GS}{ns:Es}{T:Cell}(A:Ps h L s main ns [] T (.p .bq))(aj:s.p<=900000)(he:s.e=0)(hp:s.p<L.length)(hk:dU 1 L s ja=false)
  (af:Om 48 [P0] [rO L (nB L s)]=some (kA (cV f),[rO L s'])) :
  ∃ h' T',Ps h' L s' main ns [f] T T'/\ca tab.get S 13 0 1 [pI 0,pI 1,pI 2] h=ca tab.get S 13 0 2 [pI 0,pI 1,pI 2] h':=by
 obtain⟨m1,m2,m3,m4,hm⟩:=nw main;obtain⟨a1,a2,a3,a4,a5,ha⟩:=qIL f;have ht:bZ 1 L s ja=s:=by unfold bZ; rw[hk]; rfl
 have aa:=Od L s bn [102,110];have ab:=Od L s bn ja;rw[hk,ht] at ab;have A0:=A.put (t:=s);have Ab:=A0.put (t:=bZ 1 L s [102,110]);have A1:=Ab.put (t:=nB L s);have U:=A1.put (t:=s');have ag:∀ {β:Type}{k:KO β}{d:Nat},bE Om (F_ 44) [pI 1,kS [116,121,112,101]] h d k=k (kB false) (h.put (.im 1) (rO L s)):=λ{β k d} =>
  ny 44 (.im 1) 0 [] [kS ja] _ _ _ rfl rfl A.g1 (dS L _) (dS L _) rfl ab
 have ad:∀ {β:Type}{k:KO β}{d:Nat},bE Om (F_ 44) [pI 1,kS [102,110]] (h.put (.im 1) (rO L s)) d k=k (kB (dU 1 L s [102,110])) ((h.put (.im 1) (rO L s)).put (.im 1) (rO L (bZ 1 L s [102,110]))):=λ{β k d} =>
  ny 44 (.im 1) 0 [] [kS [102,110]] _ _ _ rfl rfl A0.g1 (dS L _) (dS L _) rfl aa
 have sD:∀ {β:Type}{k:KO β}{d:Nat},bE Om (F_ 43) [pI 1,kB (dU 1 L s [102,110])] ((h.put (.im 1) (rO L s)).put (.im 1) (rO L (bZ 1 L s [102,110]))) d k=k (.dq []) (((h.put (.im 1) (rO L s)).put (.im 1) (rO L (bZ 1 L s [102,110]))).put (.im 1) (rO L (nB L s))):=λ{β k d} =>
  ny 43 (.im 1) 0 [] [kB (dU 1 L s [102,110])] _ _ _ rfl rfl Ab.g1 (dS L _) (dS L _) rfl (FJ L _ _)
 have ae:∀ {β:Type}{d:Nat}{kt:KT β},br Om (.call (.k (F_ 48)) [.k (pI 1)]) (((h.put (.im 1) (rO L s)).put (.im 1) (rO L (bZ 1 L s [102,110]))).put (.im 1) (rO L (nB L s))) d kt=kt (kA (cV f)) ((((h.put (.im 1) (rO L s)).put (.im 1) (rO L (bZ 1 L s [102,110]))).put (.im 1) (rO L (nB L s))).put (.im 1) (rO L s')) ⟨[(Ref.im 1).site,(Ref.im 1).site],[(Ref.im 1).site],false⟩:=λ{β d kt} =>
  XX 48 (.im 1) _ _ _ (by simp only[jr]) A1.g1 (dS L _) (dS L _) af
 rw[ha] at ae;generalize h.put (.im 1) (rO L s)=hz at *;generalize hz.put (.im 1) (rO L (bZ 1 L s [102,110]))=hb at *;generalize hb.put (.im 1) (rO L (nB L s))=h1 at *;generalize dU 1 L s [102,110]=bf at *;generalize h1.put (.im 1) (rO L s')=M at *;have B1:=A.g1;have B2:=A1.g2;have B3:=U.g2;rw[hm] at B2 B3;change h1.get (.im 2)=some (.cells [.p m1,.p m2,.p m3,.p m4,T,.p .bq] 0) at B2;change M.get (.im 2)=some (.cells [.p m1,.p m2,.p m3,.p m4,T,.p .bq] 0) at B3;have ak:=U.len;have gb:(M.push (.cells [.p (.str f.nm),.p a5,.p a1,.p a2,.p a3,.p a4] 0)).get (.im M.bY.length)=some (.cells [.p (.str f.nm),.p a5,.p a1,.p a2,.p a3,.p a4] 0):=Hn M _ cb;have ap:=λ{β:Type} {kt:KT β} {d:Nat}=>Yb (O:=Om) (kt:=kt) (d:=d) (sz:=6) (by':=112) (lb:=1) (capb:=some 1) bn bn gb rfl
 have l3:(M.push (.cells [.p (.str f.nm),.p a5,.p a1,.p a2,.p a3,.p a4] 0)).bY.length=M.bY.length+1:=mA _ _;have K4:((M.push (.cells [.p (.str f.nm),.p a5,.p a1,.p a2,.p a3,.p a4] 0)).push (.cells [.p (.str f.nm),.p a5,.p a1,.p a2,.p a3,.p a4] 0)).get (.im 2)=some (.cells [.p m1,.p m2,.p m3,.p m4,T,.p .bq] 0):=(uj _ _ _ (by rw[l3]; omega)).trans ((uj _ _ _ bn).trans B3);have ah:AI.Touch.apart ⟨[(Ref.im 2).site],[],false⟩ ⟨[(Ref.im 1).site,(Ref.im 1).site],[(Ref.im 1).site],false⟩=true:=rfl;have TN:=Xi M.bY.length bn;have BS:∀ {β:Type}{d:Nat}{kt:KT β},br Om (.cm 6 1 z6 [(0,.k (kA [.str f.nm,a5,a1,a2,a3,a4]))] true) M d kt=kt (.v (.c (.cf (.im M.bY.length) 0 1 (some 1) 6))) (M.push (.cells [.p (.str f.nm),.p a5,.p a1,.p a2,.p a3,.p a4] 0)) ⟨[],[.im M.bY.length],true⟩:=λ{β d kt}=>qTc _ _ _ _ _ _ _ rfl
 have P4:∀ x:Cell,dm [.p m1,.p m2,.p m3,.p m4,T,.p .bq] 5 [x]=[.p m1,.p m2,.p m3,.p m4,T,x]:=λ_=>rfl
 have pr:bp [.str f.nm,a5,a1,a2,a3,a4]=[.p (.str f.nm),.p a5,.p a1,.p a2,.p a3,.p a4]:=rfl;have q1:(s.p:Int)<(L.length:Int):=bn
 refine⟨((M.push (.cells [.p (.str f.nm),.p a5,.p a1,.p a2,.p a3,.p a4] 0)).push (.cells [.p (.str f.nm),.p a5,.p a1,.p a2,.p a3,.p a4] 0)).put (.im 2) (.cells [.p m1,.p m2,.p m3,.p m4,T,.cf (.im (M.push (.cells [.p (.str f.nm),.p a5,.p a1,.p a2,.p a3,.p a4] 0)).bY.length) 0 1 none 6] 0),.cf (.im (M.push (.cells [.p (.str f.nm),.p a5,.p a1,.p a2,.p a3,.p a4] 0)).bY.length) 0 1 none 6,?_,?_⟩
 ·have rk:∀ i o,i≠2->i<M.bY.length->M.get (.im i)=some o->(((M.push (.cells [.p (.str f.nm),.p a5,.p a1,.p a2,.p a3,.p a4] 0)).push (.cells [.p (.str f.nm),.p a5,.p a1,.p a2,.p a3,.p a4] 0)).put (.im 2) (.cells [.p m1,.p m2,.p m3,.p m4,T,.cf (.im (M.push (.cells [.p (.str f.nm),.p a5,.p a1,.p a2,.p a3,.p a4] 0)).bY.length) 0 1 none 6] 0)).get (.im i)=some o:=λi o hi hl ho =>
   (bm.cz K4 (λe=>by cases e; exact hi rfl)).trans ((uj _ _ _ (by rw[l3]; omega)).trans ((uj _ _ _ hl).trans ho))
  refine⟨rk 0 _ bu bn U.g0,rk 1 _ bu bn U.g1,by rw[hm]; exact bm.bX K4 cb,?_,.inr ⟨bR,_,by rw[l3]; omega,rfl,?_⟩,?_⟩
  ·rcases U.tT with ⟨e,rfl⟩|⟨e,j,hj,rfl,hg⟩
   ·exact .inl ⟨e,rfl⟩
   ·have:=(bm.ej hg).1;have:=(cQ.1 this).1;exact .inr ⟨e,j,hj,rfl,rk j _ bn this hg⟩
  ·have:jA [f]=[.str f.nm,a5,a1,a2,a3,a4]:=by show cV f++[]=_; rw[ha]; rfl
   rw[this];exact(bm.cz K4 (λe=>by have:=Ref.im.inj e; rw[l3] at this; omega)).trans (Hn _ _ cb)
  ·intro r hr ai;obtain⟨j,rfl,_,hj⟩:=U.tT.ref r hr;have:Ref.im j=Ref.im (M.push (.cells [.p (.str f.nm),.p a5,.p a1,.p a2,.p a3,.p a4] 0)).bY.length:=by simpa [Cell.refs] using ai
   rw[l3] at this;cases this;omega
 ·rw[wa,uZ];simp only[bW,rA,rD,qI,B1,he,q1,wH,ag,ad,sD,B2,ae,BS,rY,ap,K4,P4,ah,TN]
def qT1{h:bm}{L:List Tok}{s s':RS}{main:TT}{f:GS}{ns:Es}{gs:Gs}{T:Cell}{j:Nat}(hj:3<=j)(ah:gs≠[])(hn:gs.length<=80000)(A:Ps h L s main ns gs T (.cf (.im j) 0 gs.length none 6))(aq:s.p<=900000)(he:s.e=0)(hp:s.p<L.length)(hk:dU 1 L s ja=false)
  (ai:Om 48 [P0] [rO L (nB L s)]=some (kA (cV f),[rO L s'])) :
  ∃ h' T',Ps h' L s' main ns (gs++[f]) T T'/\ca tab.get S 13 0 1 [pI 0,pI 1,pI 2] h=ca tab.get S 13 0 2 [pI 0,pI 1,pI 2] h':=by
 obtain⟨m1,m2,m3,m4,hm⟩:=nw main;obtain⟨a1,a2,a3,a4,a5,ha⟩:=qIL f;have ht:bZ 1 L s ja=s:=by unfold bZ; rw[hk]; rfl
 have ab:=Od L s bn [102,110];have ad:=Od L s bn ja;rw[hk,ht] at ad;have A0:=A.put (t:=s);have Ab:=A0.put (t:=bZ 1 L s [102,110]);have A1:=Ab.put (t:=nB L s);have U:=A1.put (t:=s');have aj:∀ {β:Type}{k:KO β}{d:Nat},bE Om (F_ 44) [pI 1,kS [116,121,112,101]] h d k=k (kB false) (h.put (.im 1) (rO L s)):=λ{β k d} =>
  ny 44 (.im 1) 0 [] [kS ja] _ _ _ rfl rfl A.g1 (dS L _) (dS L _) rfl ad
 have ae:∀ {β:Type}{k:KO β}{d:Nat},bE Om (F_ 44) [pI 1,kS [102,110]] (h.put (.im 1) (rO L s)) d k=k (kB (dU 1 L s [102,110])) ((h.put (.im 1) (rO L s)).put (.im 1) (rO L (bZ 1 L s [102,110]))):=λ{β k d} =>
  ny 44 (.im 1) 0 [] [kS [102,110]] _ _ _ rfl rfl A0.g1 (dS L _) (dS L _) rfl ab
 have sD:∀ {β:Type}{k:KO β}{d:Nat},bE Om (F_ 43) [pI 1,kB (dU 1 L s [102,110])] ((h.put (.im 1) (rO L s)).put (.im 1) (rO L (bZ 1 L s [102,110]))) d k=k (.dq []) (((h.put (.im 1) (rO L s)).put (.im 1) (rO L (bZ 1 L s [102,110]))).put (.im 1) (rO L (nB L s))):=λ{β k d} =>
  ny 43 (.im 1) 0 [] [kB (dU 1 L s [102,110])] _ _ _ rfl rfl Ab.g1 (dS L _) (dS L _) rfl (FJ L _ _)
 have af:∀ {β:Type}{d:Nat}{kt:KT β},br Om (.call (.k (F_ 48)) [.k (pI 1)]) (((h.put (.im 1) (rO L s)).put (.im 1) (rO L (bZ 1 L s [102,110]))).put (.im 1) (rO L (nB L s))) d kt=kt (kA (cV f)) ((((h.put (.im 1) (rO L s)).put (.im 1) (rO L (bZ 1 L s [102,110]))).put (.im 1) (rO L (nB L s))).put (.im 1) (rO L s')) ⟨[(Ref.im 1).site,(Ref.im 1).site],[(Ref.im 1).site],false⟩:=λ{β d kt} =>
  XX 48 (.im 1) _ _ _ (by simp only[jr]) A1.g1 (dS L _) (dS L _) ai
 rw[ha] at af;generalize h.put (.im 1) (rO L s)=hz at *;generalize hz.put (.im 1) (rO L (bZ 1 L s [102,110]))=hb at *;generalize hb.put (.im 1) (rO L (nB L s))=h1 at *;generalize dU 1 L s [102,110]=bf at *;generalize h1.put (.im 1) (rO L s')=M at *;have B1:=A.g1;have B2:=A1.g2;have B3:=U.g2;rw[hm] at B2 B3;change h1.get (.im 2)=some (.cells [.p m1,.p m2,.p m3,.p m4,T,.cf (.im j) 0 gs.length none 6] 0) at B2;change M.get (.im 2)=some (.cells [.p m1,.p m2,.p m3,.p m4,T,.cf (.im j) 0 gs.length none 6] 0) at B3;have aa:M.get (.im j)=some (.cells (bp (jA gs)) 0):=by
  rcases U.tG with ⟨e,_⟩|⟨_,j',_,e,hg⟩
  ·exact absurd e ah
  ·cases e; exact hg
 have hX:(bp (jA gs)).length=gs.length*6:=by rw[qV,qPH]
 have ag:bp (jA (gs++[f]))=bp (jA gs)++[.p (.str f.nm),.p a5,.p a1,.p a2,.p a3,.p a4]:=by
  have:jA (gs++[f])=jA gs++[.str f.nm,a5,a1,a2,a3,a4]:=by rw[<- ha]; unfold jA; simp
  rw[this]; unfold bp; rw[gG]; rfl
 generalize bp (jA gs)=X at aa hX ag;have ak:j<M.bY.length:=by
  have:=(bm.ej aa).1;exact(cQ.1 this).1
 have ga:(M.push (.cells [.p (.str f.nm),.p a5,.p a1,.p a2,.p a3,.p a4] 0)).get (.im j)=some (.cells X 0):=(uj _ _ _ ak).trans aa;have gb:(M.push (.cells [.p (.str f.nm),.p a5,.p a1,.p a2,.p a3,.p a4] 0)).get (.im M.bY.length)=some (.cells [.p (.str f.nm),.p a5,.p a1,.p a2,.p a3,.p a4] 0):=Hn M _ cb;have ap:=λ{β:Type} {kt:KT β} {d:Nat}=>X9 (O:=Om) (kt:=kt) (d:=d) (sz:=6) (by':=112) (la:=gs.length) (lb:=1) (capb:=some 1) bn bn ga gb hX rfl
 have l3:(M.push (.cells [.p (.str f.nm),.p a5,.p a1,.p a2,.p a3,.p a4] 0)).bY.length=M.bY.length+1:=mA _ _;have l4:((M.push (.cells [.p (.str f.nm),.p a5,.p a1,.p a2,.p a3,.p a4] 0)).put (.im j) .dead).bY.length=M.bY.length+1:=(wJ _ _ _).trans l3;have K4:(((M.push (.cells [.p (.str f.nm),.p a5,.p a1,.p a2,.p a3,.p a4] 0)).put (.im j) .dead).push (.cells (X++[.p (.str f.nm),.p a5,.p a1,.p a2,.p a3,.p a4]) 0)).get (.im 2)=some (.cells [.p m1,.p m2,.p m3,.p m4,T,.cf (.im j) 0 gs.length none 6] 0):=(uj _ _ _ (by rw[l4]; omega)).trans ((bm.cz ga (λe=>by have:=Ref.im.inj e; omega)).trans ((uj _ _ _ bn).trans B3));have al:AI.Touch.apart ⟨[(Ref.im 2).site],[],false⟩ ⟨[(Ref.im 1).site,(Ref.im 1).site],[(Ref.im 1).site],false⟩=true:=rfl;have TN:=Xi M.bY.length bn;have BS:∀ {β:Type}{d:Nat}{kt:KT β},br Om (.cm 6 1 z6 [(0,.k (kA [.str f.nm,a5,a1,a2,a3,a4]))] true) M d kt=kt (.v (.c (.cf (.im M.bY.length) 0 1 (some 1) 6))) (M.push (.cells [.p (.str f.nm),.p a5,.p a1,.p a2,.p a3,.p a4] 0)) ⟨[],[.im M.bY.length],true⟩:=λ{β d kt}=>qTc _ _ _ _ _ _ _ rfl
 have P4:∀ x:Cell,dm [.p m1,.p m2,.p m3,.p m4,T,.cf (.im j) 0 gs.length none 6] 5 [x]=[.p m1,.p m2,.p m3,.p m4,T,x]:=λ_=>rfl
 have q1:(s.p:Int)<(L.length:Int):=bn
 refine⟨(((M.push (.cells [.p (.str f.nm),.p a5,.p a1,.p a2,.p a3,.p a4] 0)).put (.im j) .dead).push (.cells (X++[.p (.str f.nm),.p a5,.p a1,.p a2,.p a3,.p a4]) 0)).put (.im 2) (.cells [.p m1,.p m2,.p m3,.p m4,T,.cf (.im (M.push (.cells [.p (.str f.nm),.p a5,.p a1,.p a2,.p a3,.p a4] 0)).bY.length) 0 (gs.length+1) none 6] 0),.cf (.im (M.push (.cells [.p (.str f.nm),.p a5,.p a1,.p a2,.p a3,.p a4] 0)).bY.length) 0 (gs.length+1) none 6,?_,?_⟩
 ·have rk:∀ i o,i≠2->i≠j->i<M.bY.length->M.get (.im i)=some o->((((M.push (.cells [.p (.str f.nm),.p a5,.p a1,.p a2,.p a3,.p a4] 0)).put (.im j) .dead).push (.cells (X++[.p (.str f.nm),.p a5,.p a1,.p a2,.p a3,.p a4]) 0)).put (.im 2) (.cells [.p m1,.p m2,.p m3,.p m4,T,.cf (.im (M.push (.cells [.p (.str f.nm),.p a5,.p a1,.p a2,.p a3,.p a4] 0)).bY.length) 0 (gs.length+1) none 6] 0)).get (.im i)=some o:=λi o hi ar hl ho =>
   (bm.cz K4 (λe=>by cases e; exact hi rfl)).trans ((uj _ _ _ (by rw[l4]; omega)).trans ((bm.cz ga (λe=>by have:=Ref.im.inj e; omega)).trans ((uj _ _ _ hl).trans ho)))
  refine⟨rk 0 _ bu bn bn U.g0,rk 1 _ bu bn bn U.g1,by rw[hm]; exact bm.bX K4 cb,?_,.inr ⟨bR,(M.push (.cells [.p (.str f.nm),.p a5,.p a1,.p a2,.p a3,.p a4] 0)).bY.length,by rw[l3]; omega,by rw[bV]; rfl,?_⟩,?_⟩
  ·rcases U.tT with ⟨e,e2⟩|⟨e,k,an,e2,hg⟩
   ·exact .inl ⟨e,e2⟩
   ·have:=(bm.ej hg).1;have:=(cQ.1 this).1;have kj:k≠j:=λe=>U.ap (.im j) (by rw[e2,<- e]; simp[Cell.refs]) (by simp[Cell.refs])
    exact .inr ⟨e,k,an,e2,rk k _ bn kj this hg⟩
  ·rw[ag];have:=Hn ((M.push (.cells [.p (.str f.nm),.p a5,.p a1,.p a2,.p a3,.p a4] 0)).put (.im j) .dead) (.cells (X++[.p (.str f.nm),.p a5,.p a1,.p a2,.p a3,.p a4]) 0) cb;rw[l4] at this;rw[l3];exact(bm.cz K4 (λe=>by have:=Ref.im.inj e; omega)).trans this
  ·intro r hr ao;obtain⟨k,rfl,_,au⟩:=U.tT.ref r hr;have:Ref.im k=Ref.im (M.push (.cells [.p (.str f.nm),.p a5,.p a1,.p a2,.p a3,.p a4] 0)).bY.length:=by simpa [Cell.refs] using ao
   rw[l3] at this;have:=Ref.im.inj this;omega
 ·rw[wa,uZ];simp only[bW,rA,rD,qI,B1,he,q1,wH,aj,ae,sD,B2,af,BS,rY,ap,K4,P4,al,TN]
def qTG{h:bm}{L:List Tok}{s s':RS}{main v:TT}{ns:Es}{gs:Gs}{T G:Cell}(hn:ns.length<=80000)(A:Ps h L s main ns gs T G)(M:s.p<=900000)(he:s.e=0)(hp:s.p<L.length)(hk:dU 1 L s ja=true)
  (U:Om 47 [P0] [rO L (bJ s)]=some (kA (eh (cq L (bJ s)).text v),[rO L s'])) :
  ∃ h' T',Ps h' L s' main (ns++[((cq L (bJ s)).text,v)]) gs T' G/\ca tab.get S 13 0 1 [pI 0,pI 1,pI 2] h=ca tab.get S 13 0 2 [pI 0,pI 1,pI 2] h':=by
 rcases A.tT with ⟨e,e2⟩|⟨e,j,hj,e2,_⟩
 ·subst e; subst e2; exact qQH A M he hp hk U
 ·subst e2; exact qPl hj e hn A M he hp hk U
def qWH{h:bm}{L:List Tok}{s s':RS}{main:TT}{f:GS}{ns:Es}{gs:Gs}{T G:Cell}(hn:gs.length<=80000)(A:Ps h L s main ns gs T G)(M:s.p<=900000)(he:s.e=0)(hp:s.p<L.length)(hk:dU 1 L s ja=false)
  (U:Om 48 [P0] [rO L (nB L s)]=some (kA (cV f),[rO L s'])) :
  ∃ h' G',Ps h' L s' main ns (gs++[f]) T G'/\ca tab.get S 13 0 1 [pI 0,pI 1,pI 2] h=ca tab.get S 13 0 2 [pI 0,pI 1,pI 2] h':=by
 rcases A.tG with ⟨e,e2⟩|⟨e,j,hj,e2,_⟩
 ·subst e; subst e2; exact qUM A M he hp hk U
 ·subst e2; exact qT1 hj e hn A M he hp hk U
def gk(L:List Tok)(s:RS):RS:=cU (bZ 4 L s [59]) (dU 4 L s [59])
def ZY{h:bm}{L:List Tok}{s:RS}{main:TT}{ns:Es}{gs:Gs}{T G:Cell}(A:Ps h L s main ns gs T G)(U:s.p<=900000) :
  ∃ h',Ps h' L (gk L s) main ns gs T G/\ca tab.get S 13 0 2 [pI 0,pI 1,pI 2] h=ca tab.get S 13 0 1 [pI 0,pI 1,pI 2] h':=by
 have M:=A.put (t:=bZ 4 L s [59]);have A2:=M.put (t:=gk L s);refine⟨_,A2,?_⟩;have yi:∀ {β:Type}{k:KO β}{d:Nat},bE Om (F_ 46) [pI 1,kS [59]] h d k=k (kB (dU 4 L s [59])) (h.put (.im 1) (rO L (bZ 4 L s [59]))):=λ{β k d} =>
  ny 46 (.im 1) 0 [] [kS [59]] _ _ _ rfl rfl A.g1 (dS L _) (dS L _) rfl (Oh L s bn [59])
 have sD:∀ {β:Type}{k:KO β}{d:Nat},bE Om (F_ 43) [pI 1,kB (dU 4 L s [59])] (h.put (.im 1) (rO L (bZ 4 L s [59]))) d k=k (.dq []) ((h.put (.im 1) (rO L (bZ 4 L s [59]))).put (.im 1) (rO L (gk L s))):=λ{β k d} =>
  ny 43 (.im 1) 0 [] [kB (dU 4 L s [59])] _ _ _ rfl rfl M.g1 (dS L _) (dS L _) rfl (FJ L _ _)
 rw[Jh,Ex,yi,sD]
def jL(sub:RS->TT×RS)(L:List Tok):Nat->RS->Es->Gs->(Es×Gs)×RS
 |0,s,ns,gs=>((ns,gs),s)
 |f+1,s,ns,gs =>
  if s.e=0/\s.p<L.length then
   if dU 1 L s ja=true then jL sub L f (gk L (sub (eP [61] L (bJ s))).2) (ns++[((cq L (bJ s)).text,(sub (eP [61] L (bJ s))).1)]) gs
   else jL sub L f (gk L (ph sub L (nB L s)).2) ns (gs++[(ph sub L (nB L s)).1])
  else ((ns,gs),s)
def AY(sub:RS->TT×RS)(ok:RS->Prop)(L:List Tok):Nat->RS->Prop
 |0,_=>True
 |f+1,s=>s.e=0->s.p<L.length ->
   (dU 1 L s ja=true->ok (eP [61] L (bJ s))/\AY sub ok L f (gk L (sub (eP [61] L (bJ s))).2)) /\
   (dU 1 L s ja=false->N5 sub ok L (nB L s)/\AY sub ok L f (gk L (ph sub L (nB L s)).2))
def qGz{L:List Tok}{sub:RS->TT×RS}{okP:RS->Prop}(ok:n8 0 L sub okP)(hL:L.length<=1000){main:TT}:∀ (f:Nat) (s:RS) (ns:Es) (gs:Gs) (T G:Cell) (h:bm),I1 L s->AY sub okP L f s->L.length+1 - s.p<f->ns.length+gs.length+(L.length+1 - s.p)<=L.length+1->Ps h L s main ns gs T G ->
  ∃ h' T' G',Ps h' L (jL sub L f s ns gs).2 main (jL sub L f s ns gs).1.1 (jL sub L f s ns gs).1.2 T' G'/\ca tab.get S 13 0 1 [pI 0,pI 1,pI 2] h=ca tab.get S 13 0 3 [pI 0,pI 1,pI 2] h'
 |0,s,ns,gs,T,G,h,I,po,hf,hn,A=>bn
 |f+1,s,ns,gs,T,G,h,I,po,hf,hn,A=>by
  have U:s.p<=900000:=by have:=I.2; omega
  unfold jL;by_cases he:s.e=0
  ·by_cases hp:s.p<L.length
   ·rw[bF ⟨he,hp⟩];obtain⟨ab,ad⟩:=po he hp;cases hk:dU 1 L s ja with
    |true =>
     obtain⟨o1,o2⟩:=ab hk;rw[bF rfl];have ae:(bJ s).p<=L.length:=by show s.p+1<=_; omega
     obtain⟨M,q1⟩:=Cb [61] ae;obtain⟨I2,q2⟩:=ok.inv _ M;obtain⟨I3,q3⟩:=sQ [59] I2;have q0:(bJ s).p=s.p+1:=rfl;obtain⟨h1,T1,A1,e1⟩:=qTG bn A U he hp hk (qVj L (bJ s) _ _ bn (ok.one _ M o1));obtain⟨h2,A2,e2⟩:=ZY A1 (by have:=I2.2; omega);obtain⟨h3,T3,G3,A3,e3⟩:=qGz ok hL f _ _ gs T1 G h2 I3 o2 bn (by rw[bV,gM]; omega) A2;exact⟨h3,T3,G3,A3,e1.trans (e2.trans e3)⟩
    |false =>
     obtain⟨o1,o2⟩:=ad hk;rw[bA bu];have aa:(nB L s).p<=L.length/\s.p<=(nB L s).p:=by
      unfold nB;rw[Cc];unfold bZ;split
      ·exact⟨by show s.p+1<=_; omega,by show s.p<=s.p+1; omega⟩
      ·exact⟨bn,cB _⟩
     obtain⟨M,q1⟩:=Cb [40] aa.1;obtain⟨I2,q2⟩:=R4 ok.inv [41] M;obtain⟨I3,q3⟩:=sQ [45,62] I2;obtain⟨I4,q4⟩:=ok.inv _ I3;obtain⟨I5,q5⟩:=sQ [59] I4;obtain⟨h1,G1,A1,e1⟩:=qWH bn A U he hp hk (qbb ok hL (nB L s) aa.1 o1);have af:I1 L (ph sub L (nB L s)).2:=I4;obtain⟨h2,A2,e2⟩:=ZY A1 (by have:=af.2; omega);have q6:s.p+1<=(gk L (ph sub L (nB L s)).2).p:=by
      have a1:(ph sub L (nB L s)).2.p<=(gk L (ph sub L (nB L s)).2).p:=q5;have a2:(gJ sub L [41] (eP [40] L (nB L s))).2.p<=(kQ L (gJ sub L [41] (eP [40] L (nB L s))).2).p:=q3;have a3:(kQ L (gJ sub L [41] (eP [40] L (nB L s))).2).p<=(ph sub L (nB L s)).2.p:=q4;omega
     obtain⟨h3,T3,G3,A3,e3⟩:=qGz ok hL f _ ns _ T G1 h2 I5 o2 (by show L.length+1 - (gk L (ph sub L (nB L s)).2).p<f; omega) (by rw[bV,gM]; show ns.length+(gs.length+1)+(L.length+1 - (gk L (ph sub L (nB L s)).2).p)<=_; omega) A2;exact⟨h3,T3,G3,A3,e1.trans (e2.trans e3)⟩
   ·rw[bA (λh=>hp h.2)];refine⟨h,T,G,A,?_⟩;have q1:¬ (s.p:Int)<(L.length:Int):=bn
    have B1:=A.g1;rw[wa,uZ];simp only[bW,qI,B1,he,q1,wH]
  ·rw[bA (λh=>he h.1)];refine⟨h,T,G,A,?_⟩;have B1:=A.g1;rw[wa,uZ];simp only[bW,qI,B1,he]
def sA:LB:=[100,97,116,97]
def vL(L:List Tok)(s:RS):RS:=cU (bZ 1 L s sA) (dU 1 L s sA)
def qQr(src:LB){sub:RS->TT×RS}(ab:Om 45 [P0,kI 1] [rO (bP src).1 (vL (bP src).1 (qf src))]=some (kA (sub (vL (bP src).1 (qf src))).1.row,[rO (bP src).1 (sub (vL (bP src).1 (qf src))).2]))(hp:(sub (vL (bP src).1 (qf src))).2.p<=900000) :
  ∃ h',Ps h' (bP src).1 (gk (bP src).1 (sub (vL (bP src).1 (qf src))).2) (sub (vL (bP src).1 (qf src))).1 [] [] (.p .bq) (.p .bq)/\ca tab.get S 13 0 0 [kS src] h0=ca tab.get S 13 0 1 [pI 0,pI 1,pI 2] h':=by
 obtain⟨h1,U,A1,K1,G1,L1⟩:=qRz (O:=Om) (show iG pT [kS src]=true from rfl) (qV3 src) (qLN _ _).1 (h0.push (.cells mi 0));have e0:(bt.v (.c (.ptr (.im 0) 0))).eB (back [] [rO (bP src).1 (qf src)].length (dC (h0.push (.cells mi 0)).bY.length))=pI 1:=rfl;rw[e0] at U;have g1:h1.get (.im 1)=some (rO (bP src).1 (qf src)):=by
  have:=A1.get 0 (.im 1) _ rfl rfl;rw[(dS _ _).2] at this;exact this
 have g0:h1.get (.im 0)=some (.cells mi 0):=K1 _ _ rfl;have l1:h1.bY.length=2:=L1;have ps:(qf src).p<=1000000:=eV _;generalize (bP src).1=L at *;generalize qf src=s at *;obtain⟨a1,a2,a3,a4,ha⟩:=nw (sub (vL L s)).1;have k0:(h1.push (.cells mi 0)).get (.im 0)=some (.cells mi 0):=(uj _ _ _ bn).trans g0;have k1:(h1.push (.cells mi 0)).get (.im 1)=some (rO L s):=(uj _ _ _ bn).trans g1;have k2:(h1.push (.cells mi 0)).get (.im 2)=some (.cells mi 0):=Sp _ _ _ _ l1;generalize hh:h1.push (.cells mi 0)=h at *;have ad:∀ {β:Type}{k:KO β}{d:Nat},bE Om (F_ 44) [pI 1,kS [100,97,116,97]] h d k=k (kB (dU 1 L s sA)) (h.put (.im 1) (rO L (bZ 1 L s sA))):=λ{β k d} =>
  ny 44 (.im 1) 0 [] [kS sA] _ _ _ rfl rfl k1 (dS L _) (dS L _) rfl (Od L s ps sA)
 have m1:(h.put (.im 1) (rO L (bZ 1 L s sA))).get (.im 1)=some (rO L (bZ 1 L s sA)):=bm.bX k1 cb;have m0:(h.put (.im 1) (rO L (bZ 1 L s sA))).get (.im 0)=some (.cells mi 0):=(bm.cz k1 bu).trans k0;have m2:(h.put (.im 1) (rO L (bZ 1 L s sA))).get (.im 2)=some (.cells mi 0):=(bm.cz k1 bu).trans k2;have sD:∀ {β:Type}{k:KO β}{d:Nat},bE Om (F_ 43) [pI 1,kB (dU 1 L s sA)] (h.put (.im 1) (rO L (bZ 1 L s sA))) d k=k (.dq []) ((h.put (.im 1) (rO L (bZ 1 L s sA))).put (.im 1) (rO L (vL L s))):=λ{β k d} =>
  ny 43 (.im 1) 0 [] [kB (dU 1 L s sA)] _ _ _ rfl rfl m1 (dS L _) (dS L _) rfl (FJ L _ _)
 generalize h.put (.im 1) (rO L (bZ 1 L s sA))=M at *;have n1:(M.put (.im 1) (rO L (vL L s))).get (.im 1)=some (rO L (vL L s)):=bm.bX m1 cb;have n0:(M.put (.im 1) (rO L (vL L s))).get (.im 0)=some (.cells mi 0):=(bm.cz m1 bu).trans m0;have n2:(M.put (.im 1) (rO L (vL L s))).get (.im 2)=some (.cells mi 0):=(bm.cz m1 bu).trans m2;generalize M.put (.im 1) (rO L (vL L s))=hb at *;generalize sub (vL L s)=r at *;have aa:∀ {β:Type}{k:KO β}{d:Nat},bE Om (F_ 45) [pI 1,kI 1] hb d k=k (kA r.1.row) (hb.put (.im 1) (rO L r.2)):=λ{β k d} =>
  ny 45 (.im 1) 0 [] [kI 1] _ _ _ rfl rfl n1 (dS L _) (dS L _) (by simp only[jr]) ab
 rw[ha] at aa;have o1:(hb.put (.im 1) (rO L r.2)).get (.im 1)=some (rO L r.2):=bm.bX n1 cb;have o0:(hb.put (.im 1) (rO L r.2)).get (.im 0)=some (.cells mi 0):=(bm.cz n1 bu).trans n0;have o2:(hb.put (.im 1) (rO L r.2)).get (.im 2)=some (.cells mi 0):=(bm.cz n1 bu).trans n2;generalize hb.put (.im 1) (rO L r.2)=hc at *;have A:Ps (hc.put (.im 2) (.cells [.p a1,.p a2,.p a3,.p a4,.p .bq,.p .bq] 0)) L r.2 r.1 [] [] (.p .bq) (.p .bq) :=
  ⟨(bm.cz o2 bu).trans o0,(bm.cz o2 bu).trans o1,by rw[ha]; exact bm.bX o2 cb,.inl ⟨rfl,rfl⟩,.inl ⟨rfl,rfl⟩,λr hr=>by cases hr⟩
 obtain⟨h9,A9,e9⟩:=ZY A hp;have P4:∀ x y z w:Cell,dm mi 0 [x,y,z,w]=[x,y,z,w,.p .bq,.p .bq]:=λ_ _ _ _=>rfl
 have pr:bp [a1,a2,a3,a4]=[.p a1,.p a2,.p a3,.p a4]:=rfl;refine⟨h9,A9,?_⟩;rw[<- e9,Jh,Ex,Ud,KX];simp only[bW,rA,rD,XF,U,l1,hh,ad,sD,aa,o2,P4,pr];rfl
def qVL:Om 49 [.v (.c (.p .bq)),IL] []=some (.dq [],[]):=(gD rfl).trans (Oy jv 300 49 0 0 _ _ _ bT)
def qVQ:Om 52 [.v (.c (.p .bq)),IK] []=some (.dq [],[]):=(gD rfl).trans (Oy jv 300 52 0 0 _ _ _ bT)
def qbg{β:Type}{k:KO β}{h:bm}{e:Nat}:bE Om (F_ 49) [.v (.c (.p .bq)),IL] h e k=k (.dq []) h:=by
 have A:reach h cw ([bt.v (.c (.p .bq)),IL].flatMap bt.refs) []=[]:=yu _ _;rw[U5 49 _ _ _ [] [] [] [] (.dq []) rfl A rfl rfl rfl qVL (cB _)];rfl
def qbf{β:Type}{k:KO β}{h:bm}{e:Nat}:bE Om (F_ 52) [.v (.c (.p .bq)),IK] h e k=k (.dq []) h:=by
 have A:reach h cw ([bt.v (.c (.p .bq)),IK].flatMap bt.refs) []=[]:=yu _ _;rw[U5 52 _ _ _ [] [] [] [] (.dq []) rfl A rfl rfl rfl qVQ (cB _)];rfl
def qL4:cL []=[]:=vf.1 (Sw [])
def qLj:cT []=[]:=vf.1 (Sv [])
def qSW{h:bm}{L:List Tok}{s:RS}{main:TT}{ns:Es}{gs:Gs}{T G:Cell}(hn:ns.length<=1000)(A:Ps h L s main ns gs T G) :
  ∃ h',Ps h' L s main (cL ns) gs T G/\∀ {β:Type}(k:KO β)(e:Nat),bE Om (F_ 49) [.v (.c T),IL] h e k=k (.dq []) h':=by
 rcases A.tT with ⟨e,U⟩|⟨e,j,hj,U,M⟩
 ·subst e; subst U;exact⟨h,by rw[qL4]; exact A,λk e=>qbg⟩
 ·subst U;have so:=qEQ ns
  refine⟨h.put (.im j) (.cells (bp (dW (cL ns))) 0),?_,λk e=>JJ (O:=Om) (k:=k) (d:=e) 49 (.im j) [.v (.c (.cf (.im j) 0 ns.length none 5)),IL] [W6 ns.length,IL] _ _ (.dq []) rfl rfl (by
   show [bt.v (.c (match iU [.im j] (.im j) with|some s=>.cf s 0 ns.length none 5|none=>.jd)),IL]=_
   rw[show iU [.im j] (.im j)=some (.im 0) by simp[iU,idx]]) M (nH _ 0) (nH (dW (cL ns)) 0) (λ_=>rfl) (Yo ns hn).2.2⟩
  have rk:∀ i o,i≠j->h.get (.im i)=some o->(h.put (.im j) (.cells (bp (dW (cL ns))) 0)).get (.im i)=some o:=λi o hi ho=>(bm.cz M (λe=>by have:=Ref.im.inj e; omega)).trans ho
  refine⟨rk 0 _ bn A.g0,rk 1 _ bn A.g1,rk 2 _ bn A.g2,.inr ⟨λe3=>e (ku.1 (by rw[<- so,e3]; rfl)),j,hj,by rw[so],bm.bX M cb⟩,A.tG.dY λr hr=>?_,A.ap⟩;exact bm.cz M (λe=>A.ap (.im j) (by simp[Cell.refs]) (e▸hr))
def qRu{h:bm}{L:List Tok}{s:RS}{main:TT}{ns:Es}{gs:Gs}{T G:Cell}(hn:gs.length<=1000)(A:Ps h L s main ns gs T G) :
  ∃ h',Ps h' L s main ns (cT gs) T G/\∀ {β:Type}(k:KO β)(e:Nat),bE Om (F_ 52) [.v (.c G),IK] h e k=k (.dq []) h':=by
 rcases A.tG with ⟨e,U⟩|⟨e,j,hj,U,M⟩
 ·subst e; subst U;exact⟨h,by rw[qLj]; exact A,λk e=>qbf⟩
 ·subst U;have so:=qEP gs
  refine⟨h.put (.im j) (.cells (bp (jA (cT gs))) 0),?_,λk e=>JJ (O:=Om) (k:=k) (d:=e) 52 (.im j) [.v (.c (.cf (.im j) 0 gs.length none 6)),IK] [sG0 gs.length,IK] _ _ (.dq []) rfl rfl (by
   show [bt.v (.c (match iU [.im j] (.im j) with|some s=>.cf s 0 gs.length none 6|none=>.jd)),IK]=_
   rw[show iU [.im j] (.im j)=some (.im 0) by simp[iU,idx]]) M (nH _ 0) (nH (jA (cT gs)) 0) (λ_=>rfl) (Yp gs hn).2.2⟩
  have rk:∀ i o,i≠j->h.get (.im i)=some o->(h.put (.im j) (.cells (bp (jA (cT gs))) 0)).get (.im i)=some o:=λi o hi ho=>(bm.cz M (λe=>by have:=Ref.im.inj e; omega)).trans ho
  refine⟨rk 0 _ bn A.g0,rk 1 _ bn A.g1,rk 2 _ bn A.g2,A.tT.dY λr hr=>?_,.inr ⟨λe3=>e (ku.1 (by rw[<- so,e3]; rfl)),j,hj,by rw[so],bm.bX M cb⟩,A.ap⟩;exact bm.cz M (λe=>A.ap r hr (e▸by simp[Cell.refs]))
def FC.len{β:Type}{h h':bm}{ns:Es}{T:Cell}(A:FC h ns T){k:KO β}{d:Nat}:cP Om 2 (.v (.c T)) h' d k=k (kI (ns.length:Int)) h':=by
 rcases A with ⟨rfl,rfl⟩|⟨_,j,_,rfl,_⟩
 ·rfl
 ·rw[qFA]
def FD.len{β:Type}{h h':bm}{ns:Gs}{T:Cell}(A:FD h ns T){k:KO β}{d:Nat}:cP Om 2 (.v (.c T)) h' d k=k (kI (ns.length:Int)) h':=by
 rcases A with ⟨rfl,rfl⟩|⟨_,j,_,rfl,_⟩
 ·rfl
 ·rw[qFA]
def qR7{h:bm}{L:List Tok}{s:RS}{main:TT}{ns:Es}{gs:Gs}{T G:Cell}(hn:ns.length<=1000)(hg:gs.length<=1000)(A:Ps h L s main ns gs T G) :
  ∃ h',Ps h' L s main (cL ns) (cT gs) T G/\ca tab.get S 13 0 3 [pI 0,pI 1,pI 2] h=ca tab.get S 13 0 4 [pI 0,pI 1,pI 2,kI ((cL ns).length:Int),kI 0] h':=by
 obtain⟨h1,A1,YM⟩:=qSW hn A;obtain⟨M,U,YK⟩:=qRu hg A1;refine⟨M,U,?_⟩;obtain⟨m1,m2,m3,m4,hm⟩:=nw main;have B0:=A.g2;have B1:=A1.g2;have B2:=U.g2;rw[hm] at B0 B1 B2;change h.get (.im 2)=some (.cells [.p m1,.p m2,.p m3,.p m4,T,G] 0) at B0;change h1.get (.im 2)=some (.cells [.p m1,.p m2,.p m3,.p m4,T,G] 0) at B1;change M.get (.im 2)=some (.cells [.p m1,.p m2,.p m3,.p m4,T,G] 0) at B2;have LT:=λ{β:Type} {k:KO β} {d:Nat}=>U.tT.len (h':=M) (k:=k) (d:=d)
 have C4:∀ {β:Type}(k:KO β)(e:Nat),bE Om (F_ 49) [.v (.c T),IL] h e k=k (.dq []) h1:=YM;have C7:∀ {β:Type}(k:KO β)(e:Nat),bE Om (F_ 52) [.v (.c G),IK] h1 e k=k (.dq []) M:=YK;rw[Uc,KW];simp only[bW,B0,B1,B2,C4,C7,LT]
def qJ2(l:Es)(j:Nat)(q:LB×TT)(A:l[j]?=some q):(bp (dW l))[j*5]?=some (.p (.str q.1)):=by
 have M:=qFh l j q A;have:(((bp (dW l)).drop (j*5)).take 5)[0]?=(bp (dW l))[j*5]?:=by
  rw[nZ,bF bu,n6,gH]
 rw[<- this,M]; rfl
def qKR(l:Gs)(j:Nat)(q:GS)(A:l[j]?=some q):(bp (jA l))[j*6]?=some (.p (.str q.nm)):=by
 have M:=qQz l j q A;have:(((bp (jA l)).drop (j*6)).take 6)[0]?=(bp (jA l))[j*6]?:=by
  rw[nZ,bF bu,n6,gH]
 rw[<- this,M]; rfl
def qTP{h:bm}{L:List Tok}{s:RS}{main:TT}{ns:Es}{gs:Gs}{T G:Cell}(hn:ns.length<=1000)(A:Ps h L s main ns gs T G)(i:Nat)(hi:i<ns.length) :
  ∃ h',Ps h' L { s with tw:=s.tw||qQ ns i } main ns gs T G/\ca tab.get S 13 0 4 [pI 0,pI 1,pI 2,kI (ns.length:Int),kI (i:Int)] h=ca tab.get S 13 0 4 [pI 0,pI 1,pI 2,kI (ns.length:Int),kI ((i+1:Nat):Int)] h':=by
 obtain⟨j,hj,e2,gj⟩:∃ j,3<=j/\T = .cf (.im j) 0 ns.length none 5/\h.get (.im j)=some (.cells (bp (dW ns)) 0):=by
  rcases A.tT with ⟨e,_⟩|⟨_,j,h1,h2,h3⟩
  ·rw[e] at hi; simp at hi
  ·exact⟨j,h1,h2,h3⟩
 generalize hb:(s.tw||qQ ns i)=b;refine⟨_,A.put (t:={ s with tw:=b }),?_⟩;have lt:(i:Int)<(ns.length:Int):=bn
 have M:=A.g1;have U:=A.g2;obtain⟨m1,m2,m3,m4,hm⟩:=nw main;rw[hm,e2] at U;change h.get (.im 2)=some (.cells [.p m1,.p m2,.p m3,.p m4,.cf (.im j) 0 ns.length none 5,G] 0) at U;obtain⟨p,hp⟩:∃ p,ns[i]?=some p:=⟨ns[i]'hi,bR⟩;have gp:=qJ2 ns i p hp;rw[Jg,Ew];cases ht:s.tw with
 |true =>
  rw[ht,oH] at hb;subst hb;simp only[bW,rA,rD,lt,M,ht,sT i bn,cB]
 |false =>
  rw[ht,lP] at hb;cases i with
  |zero =>
   have aa:b=false:=hb.symm;subst aa;have z:¬ (0:Int)<((0:Nat):Int):=bu
   have w0:IntKind.i64.wrap (((0:Nat):Int)+1)=((0+1:Nat):Int):=bu
   simp only[bW,rA,rD,lt,M,ht,z,w0,cB]
  |succ k =>
   obtain⟨q,hq⟩:∃ q,ns[k]?=some q:=⟨ns[k]'bn,bR⟩;have gq:=qJ2 ns k q hq;have z:(0:Int)<((k+1:Nat):Int):=bn
   have ew:IntKind.i64.wrap (((k+1:Nat):Int) - 1)=((k:Nat):Int):=by rw[jZ _ bn bn]; omega
   have t3:(0:Int)<=((k:Nat):Int):=bn
   have t4:(0:Int)<=((k+1:Nat):Int):=bn
   have t5:k<ns.length:=bn
   have ha:qQ ns (k+1)=decide (q.1=p.1):=by
    show(match ns[k]?,ns[k+1]? with|some q,some p=>decide (q.1=p.1)|_,_=>false)=_;rw[hq,hp]
   rw[ha] at hb;by_cases hk:q.1=p.1
   ·rw[cI hk] at hb;subst hb;simp only[bW,rA,rD,lt,M,U,ht,z,ew,t3,t4,t5,hi,gj,gp,gq,hk,sT (k+1) bn,cB]
   ·rw[de hk] at hb;subst hb;simp only[bW,rA,rD,lt,M,U,ht,z,ew,t3,t4,t5,hi,gj,gp,gq,hk,sT (k+1) bn,cB]
def qMW{L:List Tok}{s:RS}{main:TT}{ns:Es}{gs:Gs}{T G:Cell}(hn:ns.length<=1000):∀ (m i:Nat) (h:bm),i+m=ns.length->Ps h L { s with tw:=qb ns s.tw i } main ns gs T G ->
  ∃ h',Ps h' L { s with tw:=qb ns s.tw ns.length } main ns gs T G/\ca tab.get S 13 0 4 [pI 0,pI 1,pI 2,kI (ns.length:Int),kI (i:Int)] h=ca tab.get S 13 0 5 [pI 0,pI 1,pI 2] h'
 |0,i,h,hi,A=>by
  have hi:i=ns.length:=bn
  subst hi;refine⟨h,A,?_⟩;have lt:¬ (ns.length:Int)<(ns.length:Int):=bn
  rw[Jg,Ew];simp only[bW,lt]
 |m+1,i,h,hi,A=>by
  obtain⟨h1,M,U⟩:=qTP hn A i bn;obtain⟨h2,A2,e2⟩:=qMW (L:=L) (s:=s) (main:=main) hn m (i+1) h1 bn M;exact⟨h2,A2,U.trans e2⟩
def Cx(l:Gs):Nat->Bool
 |0=>false
 |j+1=>match l[j]?,l[j+1]? with
  |some q,some p=>decide (q.nm=p.nm)
  |_,_=>false
def yk(l:Gs)(b:Bool):Nat->Bool
 |0=>b
 |i+1=>yk l b i||Cx l i
def qSX{h:bm}{L:List Tok}{s:RS}{main:TT}{ns:Es}{gs:Gs}{T G:Cell}(hn:gs.length<=1000)(A:Ps h L s main ns gs T G)(i:Nat)(hi:i<gs.length) :
  ∃ h',Ps h' L { s with tw:=s.tw||Cx gs i } main ns gs T G/\ca tab.get S 13 0 6 [pI 0,pI 1,pI 2,kI (gs.length:Int),kI (i:Int)] h=ca tab.get S 13 0 6 [pI 0,pI 1,pI 2,kI (gs.length:Int),kI ((i+1:Nat):Int)] h':=by
 obtain⟨j,hj,e2,gj⟩:∃ j,3<=j/\G = .cf (.im j) 0 gs.length none 6/\h.get (.im j)=some (.cells (bp (jA gs)) 0):=by
  rcases A.tG with ⟨e,_⟩|⟨_,j,h1,h2,h3⟩
  ·rw[e] at hi; simp at hi
  ·exact⟨j,h1,h2,h3⟩
 generalize hb:(s.tw||Cx gs i)=b;refine⟨_,A.put (t:={ s with tw:=b }),?_⟩;have lt:(i:Int)<(gs.length:Int):=bn
 have M:=A.g1;have U:=A.g2;obtain⟨m1,m2,m3,m4,hm⟩:=nw main;rw[hm,e2] at U;change h.get (.im 2)=some (.cells [.p m1,.p m2,.p m3,.p m4,T,.cf (.im j) 0 gs.length none 6] 0) at U;obtain⟨p,hp⟩:∃ p,gs[i]?=some p:=⟨gs[i]'hi,bR⟩;have gp:=qKR gs i p hp;rw[Jf,Eu];cases ht:s.tw with
 |true =>
  rw[ht,oH] at hb;subst hb;simp only[bW,rA,rD,lt,M,ht,sT i bn,cB]
 |false =>
  rw[ht,lP] at hb;cases i with
  |zero =>
   have aa:b=false:=hb.symm;subst aa;have z:¬ (0:Int)<((0:Nat):Int):=bu
   have w0:IntKind.i64.wrap (((0:Nat):Int)+1)=((0+1:Nat):Int):=bu
   simp only[bW,rA,rD,lt,M,ht,z,w0,cB]
  |succ k =>
   obtain⟨q,hq⟩:∃ q,gs[k]?=some q:=⟨gs[k]'bn,bR⟩;have gq:=qKR gs k q hq;have z:(0:Int)<((k+1:Nat):Int):=bn
   have ew:IntKind.i64.wrap (((k+1:Nat):Int) - 1)=((k:Nat):Int):=by rw[jZ _ bn bn]; omega
   have t3:(0:Int)<=((k:Nat):Int):=bn
   have t4:(0:Int)<=((k+1:Nat):Int):=bn
   have t5:k<gs.length:=bn
   have ha:Cx gs (k+1)=decide (q.nm=p.nm):=by
    show(match gs[k]?,gs[k+1]? with|some q,some p=>decide (q.nm=p.nm)|_,_=>false)=_;rw[hq,hp]
   rw[ha] at hb;by_cases hk:q.nm=p.nm
   ·rw[cI hk] at hb;subst hb;simp only[bW,rA,rD,lt,M,U,ht,z,ew,t3,t4,t5,hi,gj,gp,gq,hk,sT (k+1) bn,cB]
   ·rw[de hk] at hb;subst hb;simp only[bW,rA,rD,lt,M,U,ht,z,ew,t3,t4,t5,hi,gj,gp,gq,hk,sT (k+1) bn,cB]
def qMe{L:List Tok}{s:RS}{main:TT}{ns:Es}{gs:Gs}{T G:Cell}(hn:gs.length<=1000):∀ (m i:Nat) (h:bm),i+m=gs.length->Ps h L { s with tw:=yk gs s.tw i } main ns gs T G ->
  ∃ h',Ps h' L { s with tw:=yk gs s.tw gs.length } main ns gs T G/\ca tab.get S 13 0 6 [pI 0,pI 1,pI 2,kI (gs.length:Int),kI (i:Int)] h=ca tab.get S 13 0 7 [pI 0,pI 1,pI 2] h'
 |0,i,h,hi,A=>by
  have hi:i=gs.length:=bn
  subst hi;refine⟨h,A,?_⟩;have lt:¬ (gs.length:Int)<(gs.length:Int):=bn
  rw[Jf,Eu];simp only[bW,lt]
 |m+1,i,h,hi,A=>by
  obtain⟨h1,M,U⟩:=qSX hn A i bn;obtain⟨h2,A2,e2⟩:=qMe (L:=L) (s:=s) (main:=main) hn m (i+1) h1 bn M;exact⟨h2,A2,U.trans e2⟩
def qR5{h:bm}{L:List Tok}{s:RS}{main:TT}{ns:Es}{gs:Gs}{T G:Cell}(A:Ps h L s main ns gs T G) :
  ca tab.get S 13 0 5 [pI 0,pI 1,pI 2] h=ca tab.get S 13 0 6 [pI 0,pI 1,pI 2,kI (gs.length:Int),kI 0] h:=by
 have M:=A.g2;obtain⟨m1,m2,m3,m4,hm⟩:=nw main;rw[hm] at M;change h.get (.im 2)=some (.cells [.p m1,.p m2,.p m3,.p m4,T,G] 0) at M;have U:=λ{β:Type} {k:KO β} {d:Nat}=>A.tG.len (h':=h) (k:=k) (d:=d)
 rw[Ub,KV];simp only[bW,M,U]
def qMy{vs:List cN}{h:bm}{v:bt}{fr:List Ref}(A:iF h (oneOf vs)=some (v,fr))(hp:pT v=true):bS true 0 vs h=some (v,[]):=by
 letI:Sym:=⟨λ_=>0⟩
 obtain⟨q1,M,q3,U⟩:=zq hp;rw[JI];unfold qH;simp[A,q1,q3,bY,reach,cw]
def jk{α:Type}(l:List α):Sl α:=if l.isEmpty then .nil else .mk false l
def yr{α:Type}(l:List α):(jk l).list=l:=by cases l <;> rfl
structure SC where
 main:TT
 ts:Sl (LB×TT)
 gs:Sl GS
def SC.row(x:SC):List bL:=x.main.row++[dI 5 (λp=>eh p.1 p.2) x.ts,dI 6 cV x.gs]
def SC.zero:SC:=⟨eQ,.nil,.nil⟩
def FC.gU{h:bm}{ns:Es}{T:Cell}(A:FC h ns T):∃ fr,AI.freeze h eA T=some (dI 5 (λp=>eh p.1 p.2) (jk ns),fr):=by
 rcases A with ⟨rfl,rfl⟩|⟨M,j,_,rfl,U⟩
 ·exact⟨[],rfl⟩
 ·refine⟨[.im j],?_⟩;have e:jk ns = .mk false ns:=by cases ns with|nil=>exact absurd rfl M|cons _ _=>rfl
  rw[e];have:=qE9 (h:=h) 28 j 5 none (ns.map λp=>eh p.1 p.2) (λr hr=>by obtain⟨p,_,rfl⟩:=fk.1 hr; exact DD _ _) (by rw[U]; unfold dW; rw[Ao]);rw[dj] at this;exact this
def FD.gU{h:bm}{ns:Gs}{T:Cell}(A:FD h ns T):∃ fr,AI.freeze h eA T=some (dI 6 cV (jk ns),fr):=by
 rcases A with ⟨rfl,rfl⟩|⟨M,j,_,rfl,U⟩
 ·exact⟨[],rfl⟩
 ·refine⟨[.im j],?_⟩;have e:jk ns = .mk false ns:=by cases ns with|nil=>exact absurd rfl M|cons _ _=>rfl
  rw[e];have:=qE9 (h:=h) 28 j 6 none (ns.map cV) (λr hr=>by obtain⟨p,_,rfl⟩:=fk.1 hr; exact JK _) (by rw[U]; unfold jA; rw[Ao]);rw[dj] at this;exact this
def qSj{h:bm}{L:List Tok}{s:RS}{main:TT}{ns:Es}{gs:Gs}{T G:Cell}(hp:s.p<=900000)(hL:L.length<=1000)(A:Ps h L s main ns gs T G) :
  ca tab.get S 13 0 7 [pI 0,pI 1,pI 2] h=some (if nV (mO L s)=0 then .dq [.agg (bp (SC.row ⟨main,jk ns,jk gs⟩)),.c (.p (.int .i64 0))] else .dq [.agg (bp SC.zero.row),.c (.p (.int .i64 (nV (mO L s))))],[]):=by
 have M:=A.put (t:=mO L s);have aa:∀ {β:Type}{k:KO β}{d:Nat},bE Om (F_ 54) [pI 1] h d k=k (kI (nV (mO L s))) (h.put (.im 1) (rO L (mO L s))):=λ{β k d} =>
  ny 54 (.im 1) 0 [] [] _ _ _ rfl rfl A.g1 (dS L _) (dS L _) rfl (qXP L s)
 generalize h.put (.im 1) (rO L (mO L s))=h1 at *;obtain⟨m1,m2,m3,m4,hm⟩:=nw main;have U:=M.g0;have B2:=M.g2;rw[hm] at B2;change h1.get (.im 2)=some (.cells [.p m1,.p m2,.p m3,.p m4,T,G] 0) at B2;have P6:∀ a b c d e f:Cell,dm mi 0 [a,b,c,d,e,f]=[a,b,c,d,e,f]:=λ_ _ _ _ _ _=>yf _ _ rfl
 by_cases he:nV (mO L s)=0
 ·rw[bF he];have g0:(h1.put (.im 0) (.cells [.p m1,.p m2,.p m3,.p m4,T,G] 0)).get (.im 0)=some (.cells [.p m1,.p m2,.p m3,.p m4,T,G] 0):=bm.bX U cb;have hT:FC (h1.put (.im 0) (.cells [.p m1,.p m2,.p m3,.p m4,T,G] 0)) ns T:=M.tT.dY λr hr=>by
   obtain⟨j,rfl,hj,_⟩:=M.tT.ref r hr;exact bm.cz U (λe=>by cases e; omega)
  have hG:FD (h1.put (.im 0) (.cells [.p m1,.p m2,.p m3,.p m4,T,G] 0)) gs G:=M.tG.dY λr hr=>by
   obtain⟨j,rfl,hj,_⟩:=M.tG.ref r hr;exact bm.cz U (λe=>by cases e; omega)
  obtain⟨f1,e1⟩:=hT.gU;obtain⟨f2,e2⟩:=hG.gU;have fin:bS true 0 [.agg [.p m1,.p m2,.p m3,.p m4,T,G],.c (.p (.int .i64 0))] (h1.put (.im 0) (.cells [.p m1,.p m2,.p m3,.p m4,T,G] 0))=some (.dq [.agg (bp (SC.row ⟨main,jk ns,jk gs⟩)),.c (.p (.int .i64 0))],[]):=by
   refine qMy (fr:=f1++f2) ?_ (by simp only[jr]);generalize h1.put (.im 0) (.cells [.p m1,.p m2,.p m3,.p m4,T,G] 0)=h9 at e1 e2 ⊢;have em:([.p m1,.p m2,.p m3,.p m4,T,G]:List Cell).mapM (AI.freeze h9 eA)=some [(m1,[]),(m2,[]),(m3,[]),(m4,[]),(dI 5 (λp=>eh p.1 p.2) (jk ns),f1),(dI 6 cV (jk gs),f2)]:=by
    have fp:∀ x:bL,AI.freeze h9 eA (.p x)=some (x,[]):=λx=>rfl
    simp only[ek,gg,fp,e1,e2,gC,rL,eG]
   show([cN.agg [.p m1,.p m2,.p m3,.p m4,T,G],.c (.p (.int .i64 0))].mapM (fJ h9)).map _=_;have e3:fJ h9 (.agg [.p m1,.p m2,.p m3,.p m4,T,G])=some (.agg (bp (SC.row ⟨main,jk ns,jk gs⟩)),f1++f2):=by
    show(List.mapM (AI.freeze h9 eA) [.p m1,.p m2,.p m3,.p m4,T,G]).map _=_;rw[em];unfold SC.row;rw[hm];simp[bp]
   have e4:fJ h9 (.c (.p (.int .i64 0)))=some (.c (.p (.int .i64 0)),[]):=rfl;simp only[ek,gg,e3,e4,gC,rL,eG];simp
  rw[Je,Et];simp only[bW,rA,aa,he,U,B2,P6,g0,cB];exact fin
 ·rw[bA he];rw[Je,Et];have g0:=bm.bX (o:=.cells mi 0) U cb;simp only[bW,rA,aa,he,U,P6,g0,cB];rfl
open Go Go.AI
def YT{β:Type}{kt:KT β}{h:bm}{d:Nat}{x:TT}(ok:pJ x):br Om (.call (.k (F_ 37)) [.k (kA x.row)]) h d kt=kt (kS (cn x)) h cj :=
 Hg 37 [kA x.row] _ (by simp only[jr]) ok (by simp only[jr])
def qNa(xs:List (LB))(c:Cell)(G:fh 1 c (xs.map dg))(h:bm)(hs:([123]++Lib.join xs eO++[125]).length<=1000000000)(hn:xs.length<=1000):ca tab.get S 98 0 3 [.v (.c c)] h=some (kS ([123]++Lib.join xs eO++[125]),[]):=by
 simp only[bV,di,fm] at hs;have A:IM 40 [.v (.c c),kS [44,32]] (kS (Lib.join xs eO)):=λ{β k h d} =>
  (G.Kf 40 [kS [44,32]]).trans (j6 40 _ _ rfl (qQJ xs eO bn bn) rfl)
 have s1:([123]:LB).length+(Lib.join xs eO).length<=4611686018427387904:=cM
 have s2:([123]++Lib.join xs eO).length+([125]:LB).length<=4611686018427387904:=cM
 have M:∀ {β:Type}{h:bm}{k:KO β},bw .add 0 (kS [123]) (kS (Lib.join xs eO)) h k=k (kS ([123]++Lib.join xs eO)) h:=λ{β h k}=>vA 0 _ _ s1
 have U:∀ {β:Type}{h:bm}{k:KO β},bw .add 0 (kS ([123]++Lib.join xs eO)) (kS [125]) h k=k (kS ([123]++Lib.join xs eO++[125])) h:=λ{β h k}=>vA 0 _ _ s2
 rw[SV,Bm];simp only[A,M,U,gV,ZD]
structure CB (t:TT) (h:bm):Prop where
 a1:h.get (.own 1 1)=some (.cells (bp t.row) 0)
def qMD(t:TT)(sm:tk t)(ok:∀ x∈t.kids.list,pJ x)(hs:(s8 t).length<=1000000000) :
  ∀ (i:Nat) (acc:List (LB)) (c:Cell) (h:bm),acc.length<=i->acc++lY (t.names.list.drop i) (t.kids.list.drop i)=lY t.names.list t.kids.list->AI.GS [30] 1 c (acc.map dg) h->(acc=[]->c = .p .bq)->(acc≠[]->∃ r,c = .gm 1 (acc.map dg) r)->CB t h ->
   ca tab.get S 98 0 1 [q1,.v (.c c),tsP t.kids,kI (t.kids.len:Int),kI (i:Int)] h=some (kS (s8 t),[]):=by
 obtain⟨s1,s2,_⟩:=(Og t).1 sm;have bears:∀ (acc:List (LB)) (c:Cell),(acc=[]->c = .p .bq)->(acc≠[]->∃ r,c = .gm 1 (acc.map dg) r)->fh 1 c (acc.map dg):=by
  intro acc c h1 M;by_cases h:acc=[]
  ·exact .inl ⟨by rw[h]; rfl,h1 h⟩
  ·exact .inr ⟨by simpa using h,M h⟩
 have fin:∀ (acc:List (LB)) (c:Cell) (h:bm),acc=lY t.names.list t.kids.list->fh 1 c (acc.map dg)->ca tab.get S 98 0 3 [.v (.c c)] h=some (kS (s8 t),[]):=by
  intro acc c h e G;have:=qNa acc c G h (by rw[e]; exact hs) (by rw[e]; have:=qKl t.names.list t.kids.list; have:t.kids.list.length<=1000:=s2; omega);rw[this,e]; rfl
 refine CI t.kids.len (λi hi acc c h hl he G U c1 H=>?_) (λi hi A acc c h hl he G U c1 H=>?_) <;> rw[SW,Bn]
 ·have h1:¬ (i:Int)<(t.kids.len:Int):=bn
  have e1:t.kids.list.drop i=[]:=tP hi;rw[e1,qJO,fa] at he;simp only[bW,rA,rC,rD,rE,h1];exact fin acc c h he (bears acc c U c1)
 ·have h1:(i:Int)<(t.kids.len:Int):=bn
  obtain⟨x,hx,dx,mx⟩:=o9 (l:=t.kids.list) (i:=i) hi;have P4:=Xs _ (TT.ct x);by_cases M:(i:Int)<(t.names.len:Int)
  ·obtain⟨n,hn,dn,mn⟩:=o9 (l:=t.names.list) (i:=i) (by show i<t.names.len; omega);rw[dx,dn,lY] at he;have hm:(n++tI++cn x)∈lY t.names.list t.kids.list:=qKV _ _ i n x hn hx;have hj:=qS3 _ _ hm;have aa:(n++tI++cn x).length<=1000000000:=by
    unfold s8 at hs;simp only[bV,di,fm] at hs hj ⊢;omega
   have ab:=aa;simp only[bV] at ab;have a1:n.length+([58,32]:LB).length<=4611686018427387904:=cM
   have a2:(n++[58,32]).length+(cn x).length<=4611686018427387904:=cM
   have A1:∀ {β:Type}{h:bm}{k:KO β},bw .add 0 (kS n) (kS [58,32]) h k=k (kS (n++[58,32])) h:=λ{β h k}=>vA 0 _ _ a1
   have A2:∀ {β:Type}{h:bm}{k:KO β},bw .add 0 (kS (n++[58,32])) (kS (cn x)) h k=k (kS (n++[58,32]++cn x)) h:=λ{β h k}=>vA 0 _ _ a2
   have H5:CB t ((h.own 5 (h.gen 5+1) (.cells z4 0)).own 5 (h.gen 5+1) (.cells (bp x.row) 0)):=⟨(bm.bN _ 5 _ _ 1 1 bu).trans ((bm.bN _ 5 _ _ 1 1 bu).trans H.a1)⟩;have g5:((h.own 5 (h.gen 5+1) (.cells z4 0)).own 5 (h.gen 5+1) (.cells (bp x.row) 0)).get (.own 5 (h.gen 5+1))=some (.cells (bp x.row) 0):=Vd _ 5 _ _ 0 bu;have G5:AI.GS [30] 1 c (acc.map dg) ((h.own 5 (h.gen 5+1) (.cells z4 0)).own 5 (h.gen 5+1) (.cells (bp x.row) 0)):=(G.own _ _ bu).own _ _ bu;have B:∀ {β:Type}{O:bD}{h:bm}{d:Nat}{kt:KT β},br O (.cm 1 1 [.p (.str [])] [(0,.k (kS (n++[58,32]++cn x)))] false) h d kt=kt (j7 1 true [[.str (n++[58,32]++cn x)]]) h cj:=Yn _ _ rfl;obtain⟨c',h',t',G',e',T',K',I',X'⟩:=sS (d:=30) (by':=16) (new:=[[.str (n++[58,32]++cn x)]]) (b:=.slice 1 true [[.str (n++[58,32]++cn x)]]) (.inr ⟨_,rfl⟩) G5 bu (λr hr=>by simp at hr; rw[hr]; rfl) cM bu;have H':CB t h':=⟨K' 1 1 _ bu H5.a1⟩;simp only[A1,A2,bW,rA,rC,rD,rE,D1,h1,M,hx,hn,P4,H.a1,H5.a1,g5,YT (ok x mx),B,e'];rw[IQ,yQ];simp only[bW,sT i bn];refine A (acc++[n++[58,32]++cn x]) c' h' cM (by rw[eH]; exact he) (by rw[gG]; exact G') (λe=>absurd e bR) (λ_=>?_) H';obtain⟨r,e⟩:=X' (.inl bR);exact⟨r,by rw[e,gG]; rfl⟩
  ·have e2:t.names.list.drop i=[]:=tP (by show t.names.len<=i; omega);have e3:t.names.list.drop (i+1)=[]:=tP (by show t.names.len<=i+1; omega);rw[e2,XU,fa] at he;have H5:CB t ((h.own 5 (h.gen 5+1) (.cells z4 0)).own 5 (h.gen 5+1) (.cells (bp x.row) 0)):=⟨(bm.bN _ 5 _ _ 1 1 bu).trans ((bm.bN _ 5 _ _ 1 1 bu).trans H.a1)⟩;simp only[bW,rA,rC,rD,rE,D1,h1,M,hx,P4,H.a1];rw[IQ,yQ];simp only[bW,sT i bn];exact A acc c _ bn (by rw[e3,XU,fa]; exact he) ((G.own _ _ bu).own _ _ bu) U c1 H5
def qLS(t:TT)(sm:tk t)(ok:∀ x∈t.kids.list,pJ x)(hs:(s8 t).length<=1000000000):Om 98 [kA t.row] []=some (kS (s8 t),[]):=by
 refine(gD rfl).trans ?_;show ca tab.get S 98 0 0 [kA t.row] h0=_;rw[SX,Bo];simp only[bW,rA,rC];exact qMD t sm ok hs 0 [] (.p .bq) _ (cB _) rfl (.inl ⟨rfl,rfl⟩) (λ_=>rfl) (λe=>absurd rfl e) ⟨rfl⟩
def SR:Nat->TT->Prop
 |0,_=>False
 |n+1,t=>(cn t).length<=1000000000/\(s8 t).length<=1000000000/\(lI t.kids.list).length<=1000000000/\∀ x∈t.kids.list,SR n x
def qM8:∀ (n:Nat) (t:TT),SR n t->tk t->pJ t
 |0,_,h,_=>h.elim
 |n+1,t,hw,sm=>by
  obtain⟨w1,w2,w3,w4⟩:=hw;obtain⟨s1,s2,s3⟩:=(Og t).1 sm;have ok:∀ x∈t.kids.list,pJ x:=λx hx=>qM8 n x (w4 x hx) (s3 x hx)
  have aa:IM 98 [kA t.row] (kS (s8 t)):=j6 98 _ _ (by simp only[jr]) (qLS t sm ok w2) rfl;have ab:∀ {β:Type}{kt:KT β}{h:bm}{d:Nat},br Om (.call (.k (F_ 98)) [.k (kA t.row)]) h d kt=kt (kS (s8 t)) h cj:=Hg 98 [kA t.row] _ (by simp only[jr]) (qLS t sm ok w2) rfl;refine(gD rfl).trans ?_;show ca tab.get S 37 0 0 [kA t.row] h0=_;rw[TR,BC,Cd];by_cases A:t.kind=9
  ·rw[bF A];simp only[bW,rA,rC,rH,A]
  rw[bA A];by_cases M:t.kind=7
  ·rw[bF M];simp only[bW,rA,rC,rH,M,aa]
  rw[bA M];by_cases U:t.kind=8
  ·rw[bF U];have u8:cr 8=[85,110,105,111,110]:=rfl;have A1:∀ {β:Type}{h:bm}{k:KO β},bw .add 0 (kS [85,110,105,111,110]) (kS [32]) h k=k (kS [85,110,105,111,110,32]) h:=λ{β h k}=>vA 0 _ _ bu
   have A2:∀ {β:Type}{h:bm}{k:KO β},bw .add 0 (kS [85,110,105,111,110,32]) (kS (s8 t)) h k=k (kS ([85,110,105,111,110,32]++s8 t)) h:=λ{β h k}=>vA 0 _ _ cM
   simp only[A1,A2,bW,rA,rC,rH,U,YS,u8,ab]
  rw[bA U];simp only[bW,rA,rC,A,M,U,u32];have ht:cn t=cr t.kind++lI t.kids.list:=by rw[Cd,bA A,bA M,bA U]
  have:=qSs [] t.kids s2 ok 0 (cr t.kind) ((h0.own 1 1 (.cells (bp t.row) 0))) (by rw[eI,<- ht]; exact w1);rw[eI] at this;exact this
def ya(a b:TT):Prop:=Om 55 [kA a.row,kA b.row] []=some (kB (kb a b),[])
abbrev CH:bt:=.v (.c (.ptr (.own 2 1) 0))
abbrev CG:bt:=.v (.c (.ptr (.own 3 1) 0))
abbrev tC(a:TT):List Cell:=[.p (.int .i64 a.kind),.p (.str a.name),.p (dI 1 dg a.names),.p (dI 4 TT.row a.kids)]
def qTX(a:TT):bp a.row=tC a:=by rw[TT.fD]; rfl
def qRU(a b:TT)(aa:a.names.len=b.names.len)(hl:a.names.len<=1000)(h:bm)(g2:h.get (.own 2 1)=some (.cells (tC a) 0))(g3:h.get (.own 3 1)=some (.cells (tC b) 0)) :
  ∀ i:Nat,ca tab.get S 55 0 1 [CH,CG,kI (i:Int)] h=if a.names.list.drop i=b.names.list.drop i then ca tab.get S 55 0 3 [CH,CG,kI 0] h else some (kB false,[]):=by
 refine CI a.names.len (λi hi=>?_) (λi hi M=>?_) <;> rw[Tj,Kt]
 ·have h1:¬ (i:Int)<(a.names.len:Int):=bn
  have e1:a.names.list.drop i=[]:=tP hi;have e2:b.names.list.drop i=[]:=tP (by show b.names.len<=i; omega);rw[e1,e2,bF rfl];simp only[bW,g2,h1];rw[Ti,Ks]
 ·have h1:(i:Int)<(a.names.len:Int):=bn
  obtain⟨x,hx,dx,mx⟩:=o9 (l:=a.names.list) (i:=i) hi;obtain⟨y,U,dy,my⟩:=o9 (l:=b.names.list) (i:=i) (by show i<b.names.len; omega);rw[dx,dy];by_cases A:x=y
  ·subst A;have:(x::a.names.list.drop (i+1)=x::b.names.list.drop (i+1))=(a.names.list.drop (i+1)=b.names.list.drop (i+1)):=bR
   simp only[this];rw[<- M];simp only[bW,g2,g3,h1,hx,U,sT i bn]
  ·rw[bA (by simp[A])];simp only[bW,g2,g3,h1,hx,U,A]
def qO6(a b:TT)(U:a.kids.len=b.kids.len)(hl:a.kids.len<=1000)(ok:∀ x∈a.kids.list,∀ y∈b.kids.list,ya x y)(h:bm)(g2:h.get (.own 2 1)=some (.cells (tC a) 0))(g3:h.get (.own 3 1)=some (.cells (tC b) 0)) :
  ∀ i:Nat,ca tab.get S 55 0 3 [CH,CG,kI (i:Int)] h=some (kB (iJ (a.kids.list.drop i) (b.kids.list.drop i)),[]):=by
 refine CI a.kids.len (λi hi=>?_) (λi hi A=>?_) <;> rw[Th,Kr]
 ·have h1:¬ (i:Int)<(a.kids.len:Int):=bn
  have e1:a.kids.list.drop i=[]:=tP hi;have e2:b.kids.list.drop i=[]:=tP (by show b.kids.len<=i; omega);rw[e1,e2];simp only[bW,g2,h1,iJ]
 ·have h1:(i:Int)<(a.kids.len:Int):=bn
  obtain⟨x,hx,dx,mx⟩:=o9 (l:=a.kids.list) (i:=i) hi;obtain⟨y,M,dy,my⟩:=o9 (l:=b.kids.list) (i:=i) (by show i<b.kids.len; omega);rw[dx,dy,iJ];have cc:IM 55 [kA x.row,kA y.row] (kB (kb x y)):=j6 55 _ _ (by simp only[jr]) (ok x mx y my) rfl;cases hs:kb x y
  ·simp only[bW,g2,g3,h1,hx,M,cc,hs]
  ·simp only[bW,g2,g3,h1,hx,M,cc,hs,sT i bn,A]
def qRV:∀ (n:Nat) (a b:TT),SizeOf.sizeOf a<n->tk a->tk b->ya a b:=by
 intro n
 induction n with
 |zero=>intro a b h; omega
 |succ n ih =>
  intro a b hs sa sb;obtain⟨a1,a2,a3⟩:=(Og a).1 sa;obtain⟨b1,b2,b3⟩:=(Og b).1 sb;have ok:∀ x∈a.kids.list,∀ y∈b.kids.list,ya x y:=λx hx y hy=>ih x y (by have:=TT.mE hx; omega) (a3 x hx) (b3 y hy)
  refine(gD rfl).trans ?_;show ca tab.get S 55 0 0 [kA a.row,kA b.row] h0=_;rw[Tm,Ku,qLg];rw[show kA a.row = .v (.agg (tC a)) by rw[<- qTX],show kA b.row = .v (.agg (tC b)) by rw[<- qTX]];by_cases h1:a.kind=b.kind
  ·by_cases M:a.name=b.name
   ·by_cases U:(a.names.len:Int)=(b.names.len:Int)
    ·by_cases h4:(a.kids.len:Int)=(b.kids.len:Int)
     ·have NL:=qRU a b bn a1 ((h0.own 2 1 (.cells (tC a) 0)).own 3 1 (.cells (tC b) 0)) rfl rfl 0;have KL:=qO6 a b bn a2 ok ((h0.own 2 1 (.cells (tC a) 0)).own 3 1 (.cells (tC b) 0)) rfl rfl 0;rw[eI,eI] at NL KL;have hh:ca tab.get S 55 0 1 [CH,CG,kI 0] ((h0.own 2 1 (.cells (tC a) 0)).own 3 1 (.cells (tC b) 0))=some (kB (((decide (a.kind=b.kind)&&decide (a.name=b.name))&&decide (a.names.list=b.names.list))&&iJ a.kids.list b.kids.list),[]):=by
       refine NL.trans ?_;by_cases A:a.names.list=b.names.list
       ·rw[bF A];refine KL.trans ?_;rw[cI h1,cI M,cI A]; rfl
       ·rw[bA A,de A];rw[lM,fH]
      rw[<- hh];simp only[bW,rA,rC,rE,h1,M,U,h4]
     ·have A:iJ a.kids.list b.kids.list=false:=qFv _ _ (λe=>h4 (by show((a.kids.list.length:Nat):Int)=_; rw[e]; rfl));rw[A,lM];simp only[bW,rA,rC,rE,h1,M,U,h4]
    ·have A:a.names.list≠b.names.list:=λe=>U (by show((a.names.list.length:Nat):Int)=_; rw[e]; rfl)
     rw[de A,lM,fH];simp only[bW,rA,rC,rE,h1,M,U]
   ·simp only[bW,rA,rC,rE,h1,M]
  ·simp only[bW,rA,rC,rE,h1]
def yC:List (LB):=[[100,97,116,97],[116,121,112,101],[102,110],[73,110,116],[66,111,111,108],[84,101,120,116],[76,105,115,116,60],[77,97,112,60],[79,112,116,60],[62],[123],[125],[85,110,105,111,110],[97],[98],[58],[44],[59],[61],[40],[41],[45,62],[65],[55],[34,120,34]]
def tq(n:Int):LB:=yC.getD (cK n 25).toNat []
def uq(n:Int):LB:=tq n++[32]
def DQ(l:List Int):LB:=(l.take 50).flatMap uq
def qQ9(n:Int):yC[(cK n 25).toNat]?=some (tq n):=by
 have hb:=DH n 25 bu;have:(cK n 25).toNat<yC.length:=by show _<25; omega
 unfold tq;rw[na,fQ this]; rfl
def qNI(n:Int):(tq n).length<=5:=by
 have hm:tq n∈yC:=mY (qQ9 n);have:∀ x∈yC,x.length<=5:=bu
 exact this _ hm
abbrev SP(s:Sl Int):bt:=.v (.c (.p (dI 1 wN s)))
abbrev DP:bt:=j7 1 true (yC.map dg)
def RV{β:Type}{h:bm}{k:KO β}(a b:LB)(hl:a.length+b.length<=4611686018427387904):bw .add 0 (kS a) (kS b) h k=k (kS (a++b)) h:=by
 simp (config:={ maxSteps:=10000000 }) only[bW,cI hl]
def qJz(s:Sl Int)(h:bm):∀ (m i:Nat) (acc:LB),i+m=50->acc.length<=10*i ->
  ca tab.get S 16 0 1 [SP s,DP,kS acc,kI (i:Int)] h=some (kS (acc++((s.list.drop i).take m).flatMap uq),[])
 |0,i,acc,hi,ha=>by
  have q:¬ (i:Int)<50:=bn
  rw[Jb,Ep,Aq,jJ,fa];by_cases h1:(i:Int)<(s.len:Int)
  ·simp only[bW,h1,q]
  ·simp only[bW,h1,q]
 |m+1,i,acc,hi,ha=>by
  have q:(i:Int)<50:=bn
  rw[Jb,Ep];by_cases h1:(i:Int)<(s.len:Int)
  ·obtain⟨x,hx,dx,mx⟩:=o9 (l:=s.list) (i:=i) (by show i<s.len; omega);have hb:=DH x 25 bu;have hp:=qQ9 x;have pl:=qNI x;have AT:∀ (β:Type) (A:KO β) (M:bm),bU 1 DP (kI (cK x 25)) M A=A (.v (.c (.p (.dc (dg (tq x)) 0)))) M:=λβ A M=>by
    have:(yC.map dg)[(cK x 25).toNat]?=some (dg (tq x)):=by rw[dP,hp]; rfl
    have e:=Vh (h:=M) (k:=A) 1 true (yC.map dg) (cK x 25).toNat _ this
    rwa [show(((cK x 25).toNat:Nat):Int)=cK x 25 by omega] at e
   have LN:∀ (β:Type) (A:KO β) (M:bm),cP Om 2 DP M 24 A=A (kI 25) M:=λ_ _ _=>rfl
   have U:=λ(β:Type) (A:KO β) (M:bm) (d:Nat)=>CC (k:=A) (h:=M) (d:=d) x 25 bu bu
   have V1:∀ (β:Type) (A:KO β) (M:bm),bw .add 0 (kS acc) (kS (tq x)) M A=A (kS (acc++tq x)) M:=λβ A M=>RV _ _ bn
   have V2:∀ (β:Type) (A:KO β) (M:bm),bw .add 0 (kS (acc++tq x)) (kS [32]) M A=A (kS (acc++tq x++[32])) M:=λβ A M=>RV _ _ cM
   rw[dx,vj,eJ];have ih:=qJz s h m (i+1) (acc++uq x) bn (by unfold uq; simp; omega);rw[show acc++(uq x++((s.list.drop (i+1)).take m).flatMap uq)=acc++uq x++((s.list.drop (i+1)).take m).flatMap uq by simp];rw[<- ih];unfold uq;rw[<- eH];generalize aa:DP=MP at *;generalize tq x=px at *;simp only[bW,h1,q,hx,LN,U,AT,V1,V2,sT i bn]
  ·have e:s.list.drop i=[]:=kT (by show s.len<=i; omega);rw[e,List.take_nil,jJ,fa];simp only[bW,h1]
def qXg(s:Sl Int):Om 16 [SP s] []=some (kS (DQ s.list),[]):=by
 refine(gD rfl).trans ?_;show ca tab.get S 16 0 0 [SP s] h0=_;have U:∀ (β:Type) (A:KO β) (M:bm),bQ Om (.cm 1 25 [.p (.str [])] [(0,.k (kS [100,97,116,97])),(1,.k (kS [116,121,112,101])),(2,.k (kS [102,110])),(3,.k (kS [73,110,116])),(4,.k (kS [66,111,111,108])),(5,.k (kS [84,101,120,116])),(6,.k (kS [76,105,115,116,60])),(7,.k (kS [77,97,112,60])),(8,.k (kS [79,112,116,60])),(9,.k (kS [62])),(10,.k (kS [123])),(11,.k (kS [125])),(12,.k (kS [85,110,105,111,110])),(13,.k (kS [97])),(14,.k (kS [98])),(15,.k (kS [58])),(16,.k (kS [44])),(17,.k (kS [59])),(18,.k (kS [61])),(19,.k (kS [40])),(20,.k (kS [41])),(21,.k (kS [45,62])),(22,.k (kS [65])),(23,.k (kS [55])),(24,.k (kS [34,120,34]))] false) M 6 A=A DP M:=λ_ _ _=>qg _ _ rfl
 rw[TY,KN,U];have:=qJz s h0 50 0 [] bn bu;rw[eI,kK] at this;exact this
def u15{β:Type}{k:KO β}{h:bm}{d:Nat}(s:Sl Int):bE Om (F_ 16) [SP s] h d k=k (kS (DQ s.list)) h:=j6 16 _ _ (by simp only[jr]) (qXg s) rfl
def qVV(l:List Int):(DQ l).length<=300:=by
 unfold DQ;have:∀ l:List Int,(l.flatMap uq).length<=6*l.length:=by
  intro l
  induction l with
  |nil=>exact eV _
  |cons x l A =>
   have:=qNI x;rw[eJ,bV,di];unfold uq at A ⊢;simp at A ⊢; omega
 have M:=this (l.take 50);have U:(l.take 50).length<=50:=cM
 omega
def fK(w:LB):Bool:=match w with
 |[]=>false
 |c::_=>dR c.toNat&&w.all (λb=>isWord b.toNat)&&Nat.ble w.length 16
def uO(r:LB):Prop:=∀ b t,r=b::t->isWord b.toNat=false
def qHv(p:Nat->Bool):∀ (w r:LB),(∀ b∈w,p b.toNat=true)->(∀ b t,r=b::t->p b.toNat=false)->cp p (w++r)=w.length
 |[],r,_,h=>by
  cases r with
  |nil=>rfl
  |cons b t=>simp[cp,h b t rfl]
 |b::w,r,h1,A=>by
  have:=qHv p w r (λx hx=>h1 x (ia _ hx)) A;simp[cp,h1 b (iR ..),this]
def qPQ(n:Nat)(h:dR n=true):dJ n=false:=by
 cases hb:dJ n with
 |false=>rfl
 |true =>
  exfalso;unfold dR at h;unfold dJ at hb;simp only[qP,fj,xN,oF] at h hb;omega
def qQl{w:LB}(hw:fK w=true){r:LB}(A:uO r)(f i:Nat)(acc:List Tok):eu (f+1) (w++r) i acc=eu f r (i+w.length) (acc++[⟨1,w,0,(i:Int)⟩]):=by
 cases w with
 |nil=>cases hw
 |cons c q =>
  unfold fK at hw;simp only[fj,oF,lU] at hw;obtain⟨⟨h1,M⟩,h3⟩:=hw;have U:cp dJ (c::(q++r))=0:=by simp[cp,qPQ _ h1]
  have hl:=qHv isWord (c::q) r M A;have ho:lh (c::(q++r))=⟨⟨1,c::q,0,0⟩,((c::q).length:Nat),0⟩:=by
   show(if dR c.toNat then pj (c::(q++r)) else _)=_;rw[bF h1];unfold pj;rw[show c::(q++r)=(c::q)++r from rfl,hl,bA bn,List.take_left'];rfl
  rw[qL,eu];simp only[U,eI];simp only[ho,gH,fx,oJ];rw[show(c::(q++r))=(c::q)++r from rfl,List.drop_left'];rfl
def Dx(c:UInt8):Bool:=Nat.beq c.toNat 60||Nat.beq c.toNat 62||Nat.beq c.toNat 123||Nat.beq c.toNat 125||Nat.beq c.toNat 44||Nat.beq c.toNat 58||Nat.beq c.toNat 59||Nat.beq c.toNat 40||Nat.beq c.toNat 41||Nat.beq c.toNat 61
def qGC{c:UInt8}(h:Dx c=true):c=60\/c=62\/c=123\/c=125\/c=44\/c=58\/c=59\/c=40\/c=41\/c=61:=by
 unfold Dx at h;simp only[qP,xN] at h
 rcases h with ((((((((h|h)|h)|h)|h)|h)|h)|h)|h)|h
 ·exact .inl (jj.1 h)
 ·exact .inr (.inl (jj.1 h))
 ·exact .inr (.inr (.inl (jj.1 h)))
 ·exact .inr (.inr (.inr (.inl (jj.1 h))))
 ·exact .inr (.inr (.inr (.inr (.inl (jj.1 h)))))
 ·exact .inr (.inr (.inr (.inr (.inr (.inl (jj.1 h))))))
 ·exact .inr (.inr (.inr (.inr (.inr (.inr (.inl (jj.1 h)))))))
 ·exact .inr (.inr (.inr (.inr (.inr (.inr (.inr (.inl (jj.1 h))))))))
 ·exact .inr (.inr (.inr (.inr (.inr (.inr (.inr (.inr (.inl (jj.1 h)))))))))
 ·exact .inr (.inr (.inr (.inr (.inr (.inr (.inr (.inr (.inr (jj.1 h)))))))))
def qRZ{c:UInt8}(r:LB)(h1:dR c.toNat=false)(A:isDigit c.toNat=false)(M:c.toNat≠45)(U:c.toNat≠34):lh (c::r)=ig (c::r):=by
 have hn:eE (c::r)=false:=by
  show(isDigit c.toNat||(decide (c.toNat=45)&&_))=false;rw[A,de M,fH,oE]
 show(if dR c.toNat=true then pj (c::r) else if eE (c::r)=true then fL (c::r) else if c.toNat=34 then kF (c::r) else ig (c::r))=_;rw[h1,hn,bA bu,bA bu,bA U]
def qQK{c:UInt8}(hc:Dx c=true)(r:LB)(U:c=58->r.head?≠some 61)(f i:Nat)(acc:List Tok):eu (f+1) (c::r) i acc=eu f r (i+1) (acc++[⟨4,[c],0,(i:Int)⟩]):=by
 have ho:lh (c::r)=⟨⟨4,[c],0,0⟩,1,0⟩:=by
  have h2:¬ (c::r).take 2=ua:=by
   intro e;cases r with
   |nil=>cases e
   |cons b t =>
    have e':[c,b]=[58,61]:=e;injection e' with M A
    injection A with A e3
    exact U M (by rw[A]; rfl)
  rcases qGC hc with rfl|rfl|rfl|rfl|rfl|rfl|rfl|rfl|rfl|rfl
  all_goals
   rw[qRZ r bu bu bu bu];unfold ig
   rw[bA (by
    intro e;cases r with
    |nil=>cases e
    |cons b t=>injection e with M A; cases M),bA h2]
   rfl
 have hk:cp dJ (c::r)=0:=by
  rcases qGC hc with rfl|rfl|rfl|rfl|rfl|rfl|rfl|rfl|rfl|rfl <;> rfl
 rw[eu];simp only[hk,eI];simp only[ho,gH,fx];rfl
def qNp(f:Nat)(s:LB)(i:Nat)(acc:List Tok):eu (f+1) (32::s) i acc=eu (f+1) s (i+1) acc:=by
 have e:cp dJ (32::s)=cp dJ s+1:=by simp[cp]; rfl
 unfold eu;simp only[e,Au,show i+(cp dJ s+1)=i+1+cp dJ s by omega]
abbrev TW:=Int×LB
def tw(t:Tok):TW:=(t.kind,t.text)
def Rd(s:LB)(ws:List TW)(r:LB):Prop:=ws.length+r.length<=s.length/\∀ f i acc,∃ l A,l.map tw=ws/\eu (f+ws.length) s i acc=eu f r A (acc++l)
def Rd.name{w:LB}(hw:fK w=true){r:LB}(A:uO r):Rd (w++r) [(1,w)] r:=by
 refine⟨?_,λf i acc=>⟨[⟨1,w,0,(i:Int)⟩],_,rfl,qQl hw A f i acc⟩⟩;cases w with
 |nil=>cases hw
 |cons c q=>simp; omega
def Rd.sign{c:UInt8}(hc:Dx c=true)(r:LB)(A:c=58->r.head?≠some 61):Rd (c::r) [(4,[c])] r :=
 ⟨cM,λf i acc=>⟨[⟨4,[c],0,(i:Int)⟩],_,rfl,qQK hc r A f i acc⟩⟩
def Rd.trans{s m r:LB}{a b:List TW}(h1:Rd s a m)(A:Rd m b r):Rd s (a++b) r:=by
 refine⟨by have:=h1.1; have:=A.1; rw[bV]; omega,λf i acc=>?_⟩;obtain⟨M,i1,U,e2⟩:=h1.2 (f+b.length) i acc;obtain⟨l2,i2,e3,e4⟩:=A.2 f i1 (acc++M);refine⟨M++l2,i2,by rw[gG,U,e3],?_⟩;rw[bV,show f+(a.length+b.length)=f+b.length+a.length by omega,e2,e4,eH]
def Rd.blank{s r:LB}{a:List TW}(h1:Rd s a r)(M:a≠[]):Rd (32::s) a r:=by
 refine⟨by have:=h1.1; rw[di]; omega,λf i acc=>?_⟩;obtain⟨U,i1,e1,A⟩:=h1.2 f (i+1) acc;refine⟨U,i1,e1,?_⟩;obtain⟨x,xs,rfl⟩:∃ x xs,a=x::xs:=by cases a with|nil=>exact absurd rfl M|cons x xs=>exact⟨x,xs,rfl⟩
 rw[di,<- n5] at A ⊢;rw[qNp];exact A
def DT:List (LB):=[cr 1,cr 2,cr 3,cr 4,cr 5,cr 6,cr 8]
def jP(l:Es):Prop:=∀ i p q,l[i]?=some p->l[i+1]?=some q->cX p.1 q.1=true
def WF:Nat->TT->Prop
 |0,_=>False
 |n+1,t=>(∃ k:Int,(k=1\/k=2\/k=3)/\t=gw k)\/(∃ w,fK w=true/\w∉DT/\t = .mk 9 w .nil .nil)\/(∃ (k:Int) (x:TT),(k=4\/k=5\/k=6)/\WF n x/\t = .mk k [] .nil (.mk true [x])) \/
  (∃ (k:Int) (l:Es),(k=7\/k=8)/\l.length<=1000/\(∀ p∈l,fK p.1=true/\WF n p.2)/\jP l/\t=fe k l)
def lu(sub:TT->List TW):Es->List TW
 |[]=>[]
 |[p]=>(1,p.1)::(4,[58])::sub p.2
 |p::q::l=>((1,p.1)::(4,[58])::sub p.2)++(4,[44])::lu sub (q::l)
def eN:Nat->TT->List TW
 |0,_=>[]
 |n+1,t=>if t.kind=9 then [(1,t.name)] else if t.kind=7 then (4,[123])::(lu (eN n) (t.names.list.zip t.kids.list)++[(4,[125])]) else if t.kind=8 then (1,cr 8)::(4,[123])::(lu (eN n) (t.names.list.zip t.kids.list)++[(4,[125])])
  else match t.kids.list with
   |[]=>[(1,cr t.kind)]
   |x::_=>(1,cr t.kind)::(4,[60])::(eN n x++[(4,[62])])
def JO(n:Nat)(t:TT):eN (n+1) t=if t.kind=9 then [(1,t.name)] else if t.kind=7 then (4,[123])::(lu (eN n) (t.names.list.zip t.kids.list)++[(4,[125])]) else if t.kind=8 then (1,cr 8)::(4,[123])::(lu (eN n) (t.names.list.zip t.kids.list)++[(4,[125])])
  else match t.kids.list with
   |[]=>[(1,cr t.kind)]
   |x::_=>(1,cr t.kind)::(4,[60])::(eN n x++[(4,[62])]):=rfl
def wI{α:Type}(l:List α):(grown l).list=l:=by cases l <;> rfl
def Xp(k:Int)(l:Es):(fe k l).names.list.zip (fe k l).kids.list=l:=by
 show(grown (l.map (·.1))).list.zip (grown (l.map (·.2))).list=l;rw[wI,wI]
 induction l with
 |nil=>rfl
 |cons p l A=>simp[A]
def jB:Es->LB
 |[]=>[]
 |[p]=>p.1++58::32::cn p.2
 |p::q::l=>p.1++58::32::(cn p.2++44::32::jB (q::l))
def qKY:∀ l:Es,Lib.join (lY (l.map (·.1)) (l.map (·.2))) eO=jB l
 |[]=>rfl
 |[p]=>by
  show Lib.join [p.1++tI++cn p.2] eO=_;rw[Lib.join_one];simp[jB,tI]
 |p::q::l=>by
  have M:=qKY (q::l);show Lib.join ((p.1++tI++cn p.2)::(q.1++tI++cn q.2)::lY (l.map (·.1)) (l.map (·.2))) eO=_;have e:∀ (x y:LB) (r:List (LB)),Lib.join (x::y::r) eO=x++eO++Lib.join (y::r) eO:=λx y r=>by
   simp[Lib.join,List.intercalate,List.intersperse]
  rw[e];have A:Lib.join ((q.1++tI++cn q.2)::lY (l.map (·.1)) (l.map (·.2))) eO=jB (q::l):=M;rw[A];simp[jB,tI,eO]
def Xd(k:Int)(l:Es):s8 (fe k l)=123::(jB l++[125]):=by
 unfold s8;rw[show(fe k l).names.list=l.map (·.1) from wI _,show(fe k l).kids.list=l.map (·.2) from wI _,qKY];simp
def R5{c:UInt8}(hc:Dx c=true)(r:LB):uO (c::r):=by
 intro b t e;injection e with A M
 subst A
 rcases qGC hc with rfl|rfl|rfl|rfl|rfl|rfl|rfl|rfl|rfl|rfl <;> decide
def qMO{n:Nat}{t:TT}(h:WF n t):eN n t≠[]:=by
 cases n with
 |zero=>exact h.elim
 |succ n =>
  unfold eN;split
  ·simp
  split
  ·simp
  split
  ·simp
  split <;> simp
def qPq{n:Nat}(M:∀ t,WF n t->∀ r,uO r->Rd (cn t++r) (eN n t) r):∀ (l:Es),l≠[]->(∀ p∈l,fK p.1=true/\WF n p.2)->∀ r,Rd (jB l++125::r) (lu (eN n) l) (125::r)
 |[],h,_,_=>absurd rfl h
 |[p],_,hp,r=>by
  obtain⟨h1,A⟩:=hp p (iR ..);have a:=Rd.name h1 (r:=58::32::(cn p.2++125::r)) (R5 bu _);have b:=Rd.sign (c:=58) bu (32::(cn p.2++125::r)) (λ_=>bR);have c:=(M p.2 A (125::r) (R5 bu _)).blank (qMO A);have:=a.trans (b.trans c)
  simpa [jB,lu] using this
 |p::q::l,_,hp,r=>by
  obtain⟨h1,A⟩:=hp p (iR ..);have U:=qPq M (q::l) bR (λx hx=>hp x (ia _ hx)) r;have a:=Rd.name h1 (r:=58::32::(cn p.2++44::32::(jB (q::l)++125::r))) (R5 bu _);have b:=Rd.sign (c:=58) bu (32::(cn p.2++44::32::(jB (q::l)++125::r))) (λ_=>bR);have c:=(M p.2 A (44::32::(jB (q::l)++125::r)) (R5 bu _)).blank (qMO A);have d:=Rd.sign (c:=44) bu (32::(jB (q::l)++125::r)) cb;have e:=U.blank (by cases l <;> simp[lu]);have:=a.trans (b.trans (c.trans (d.trans e)))
  simpa [jB,lu] using this
def qFj(k:Int)(A:k=1\/k=2\/k=3\/k=4\/k=5\/k=6\/k=8):fK (cr k)=true:=by
 rcases A with rfl|rfl|rfl|rfl|rfl|rfl|rfl <;> decide
def RX:∀ (n:Nat) (t:TT),WF n t->∀ r,uO r->Rd (cn t++r) (eN n t) r
 |0,t,h,_,_=>h.elim
 |n+1,t,h,r,hr=>by
  have ih:=RX n
  rcases h with ⟨k,U,rfl⟩|⟨w,hw,_,rfl⟩|⟨k,x,U,hx,rfl⟩|⟨k,l,U,hl,hp,_,rfl⟩
  ·have A:cn (gw k)=cr k:=by
    rw[Cd];show(if k=9 then _ else if k=7 then _ else if k=8 then _ else cr k++lI [])=_;rw[bA bn,bA bn,bA bn];simp[lI]
   have M:eN (n+1) (gw k)=[(1,cr k)]:=by
    rw[JO];show(if k=9 then _ else if k=7 then _ else if k=8 then _ else _)=_;rw[bA bn,bA bn,bA bn]; rfl
   rw[A,M];exact Rd.name (qFj k bn) hr
  ·exact Rd.name hw hr
  ·have A:cn (.mk k [] .nil (.mk true [x]))=cr k++60::(cn x++[62]):=by
    rw[Cd];show(if k=9 then _ else if k=7 then _ else if k=8 then _ else cr k++lI [x])=_;rw[bA bn,bA bn,bA bn];simp[lI]
   have M:eN (n+1) (.mk k [] .nil (.mk true [x]))=(1,cr k)::(4,[60])::(eN n x++[(4,[62])]):=by
    rw[JO];show(if k=9 then _ else if k=7 then _ else if k=8 then _ else _)=_;rw[bA bn,bA bn,bA bn]; rfl
   rw[A,M];have a:=Rd.name (qFj k bn) (r:=60::(cn x++62::r)) (R5 bu _);have b:=Rd.sign (c:=60) bu (cn x++62::r) cb;have c:=ih x hx (62::r) (R5 bu _);have d:=Rd.sign (c:=62) bu r cb;have:=a.trans (b.trans (c.trans d))
   simpa using this
  ·have F:Rd (123::(jB l++[125])++r) ((4,[123])::(lu (eN n) l++[(4,[125])])) r:=by
    have a:=Rd.sign (c:=123) bu (jB l++125::r) cb;have d:=Rd.sign (c:=125) bu r cb;by_cases h0:l=[]
    ·subst h0;have:=a.trans d
     simpa [jB,lu] using this
    ·have b:=qPq ih l h0 hp r;have:=a.trans (b.trans d)
     simpa using this
   rcases U with rfl|rfl
   ·have A:cn (fe 7 l)=s8 (fe 7 l):=by rw[Cd]; rfl
    have M:eN (n+1) (fe 7 l)=(4,[123])::(lu (eN n) l++[(4,[125])]):=by
     rw[JO];rw[Xp]; rfl
    rw[A,M,Xd];exact F
   ·have A:cn (fe 8 l)=cr 8++32::s8 (fe 8 l):=by rw[Cd]; rfl
    have M:eN (n+1) (fe 8 l)=(1,cr 8)::(4,[123])::(lu (eN n) l++[(4,[125])]):=by
     rw[JO];rw[Xp]; rfl
    rw[A,M,Xd];have a:=Rd.name (qFj 8 bn) (r:=32::(123::(jB l++[125])++r)) (λb t e=>by injection e with A M; subst A; decide);have:=a.trans (F.blank bR)
    simpa using this
def Pos(L:List Tok)(s:RS)(ws:List TW):Prop:=s.e=0/\(L.map tw).drop s.p=ws
def fA(s:RS)(k:Nat):RS:={ s with p:=s.p+k }
def Pos.Cw{L:List Tok}{s:RS}{a b:List TW}(h:Pos L s (a++b)):Pos L (fA s a.length) b:=by
 refine⟨h.1,?_⟩;show(L.map tw).drop (s.p+a.length)=b;rw[<- pE,h.2,List.drop_left'];rfl
def vz(s:RS)(a b:Nat):fA (fA s a) b=fA s (a+b):=by unfold fA; simp[n5]
def AV(s:RS):bJ s=fA s 1:=rfl
section
variable {L:List Tok} {s:RS} {k:Int} {x:LB} {w:List TW}
def Pos.at(h:Pos L s ((k,x)::w)):∃ t,L[s.p]?=some t/\t.kind=k/\t.text=x:=by
 have A:((L.map tw).drop s.p)[0]?=some (k,x):=by rw[h.2]; rfl
 rw[n6,gH,dP] at A;cases ht:L[s.p]? with
 |none=>rw[ht] at A; cases A
 |some t =>
  rw[ht] at A;have:tw t=(k,x):=kr A;exact⟨t,rfl,dh Prod.fst this,dh Prod.snd this⟩
def Pos.jH(h:Pos L s ((k,x)::w)):(cq L s).kind=k/\(cq L s).text=x:=by
 obtain⟨t,h1,A,M⟩:=h.at;unfold cq;rw[bF h.1,h1];exact⟨A,M⟩
def Pos.lt(h:Pos L s ((k,x)::w)):s.p<L.length:=by
 obtain⟨t,h1,_⟩:=h.at;exact(cQ.1 h1).1
def Pos.next(h:Pos L s ((k,x)::w)):Pos L (bJ s) w:=Pos.Cw (a:=[(k,x)]) h
def Pos.is(h:Pos L s ((k,x)::w))(k':Int)(y:LB):dU k' L s y=(decide (k=k')&&decide (x=y)):=by
 unfold dU;rw[h.jH.1,h.jH.2]
def Pos.take(h:Pos L s ((4,x)::w)):dU 4 L s x=true/\bZ 4 L s x=bJ s:=by
 have:dU 4 L s x=true:=by rw[h.is]; simp
 exact⟨this,by unfold bZ; rw[bF this]⟩
def Pos.vJ(h:Pos L s ((4,x)::w)):cU (bZ 4 L s x) (dU 4 L s x)=bJ s:=by
 rw[h.take.1,h.take.2]; rfl
end
def Pos.col{L:List Tok}{s:RS}{nm:LB}{w:List TW}(h:Pos L s ((1,nm)::(4,[58])::w)):jh L s=fA s 2/\(cq L s).text=nm:=by
 refine⟨?_,h.jH.2⟩;have h1:dQ L s=bJ s:=by
  unfold dQ;rw[h.jH.1]; rfl
 have A:=h.next;unfold jh;rw[h1,A.vJ];rfl
def nD(sub:TT->List TW):Es->List TW
 |[]=>[]
 |q::l=>(4,[44])::(1,q.1)::(4,[58])::(sub q.2++nD sub l)
def qJe(sub:TT->List TW):∀ (p:LB×TT) (l:Es),lu sub (p::l)=(1,p.1)::(4,[58])::(sub p.2++nD sub l)
 |p,[]=>by simp[lu,nD]
 |p,q::l=>by
  show((1,p.1)::(4,[58])::sub p.2)++(4,[44])::lu sub (q::l)=_;rw[qJe sub q l];simp[nD]
def vv(L:List Tok)(sub:RS->TT×RS)(ok:RS->Prop)(A:TT->List TW)(t:TT):Prop:=∀ s rest,Pos L s (A t++rest)->sub s=(t,fA s (A t).length)/\ok s
def qLI{L:List Tok}{sub:RS->TT×RS}{ok:RS->Prop}{A:TT->List TW}{p:LB×TT}(K:vv L sub ok A p.2){s:RS}{rest:List TW}(h:Pos L s ((1,p.1)::(4,[58])::(A p.2++rest))) :
  dz sub L s=(p,fA s (2+(A p.2).length))/\ok (jh L s)/\Pos L (fA s (2+(A p.2).length)) rest:=by
 obtain⟨h1,U⟩:=h.col;have M:Pos L (fA s 2) (A p.2++rest):=Pos.Cw (a:=[(1,p.1),(4,[58])]) h;obtain⟨h4,h5⟩:=K _ _ M;refine⟨?_,by rw[h1]; exact h5,?_⟩
 ·unfold dz;rw[h1,U,h4,vz]
 ·have:=M.Cw
  rwa [vz] at this
def qMu{L:List Tok}{sub:RS->TT×RS}{ok:RS->Prop}{A:TT->List TW}:∀ (l:Es),(∀ p∈l,vv L sub ok A p.2)->∀ (f:Nat) (s:RS) (acc:Es) (rest:List TW),(nD A l).length<f->Pos L s (nD A l++(4,[125])::rest) ->
  gu sub L [125] f s acc=(acc++l,fA s ((nD A l).length+1))/\oi sub ok L f s
 |[],_,0,s,acc,rest,M,_=>bn
 |[],_,f+1,s,acc,rest,M,h=>by
  have h:Pos L s ((4,[125])::rest):=h;have hi:dU 4 L s [44]=false:=by rw[h.is]; rfl
  refine⟨?_,?_⟩
  ·unfold gu;rw[bA (by rw[hi]; decide),h.vJ,fa]; rfl
  ·unfold oi;intro e;rw[hi] at e; cases e
 |q::l,K,0,s,acc,rest,M,_=>bn
 |q::l,K,f+1,s,acc,rest,M,h=>by
  have h':Pos L s ((4,[44])::(1,q.1)::(4,[58])::(A q.2++(nD A l++(4,[125])::rest))):=by
   have:=h;simp only[nD,qL,eH] at this;exact this
  obtain⟨hi,ht⟩:=h'.take;obtain⟨h1,U,h3⟩:=qLI (K q (iR ..)) h'.next;have hlen:(nD A (q::l)).length=3+(A q.2).length+(nD A l).length:=by simp[nD]; omega
  obtain⟨h4,h5⟩:=qMu l (λp hp=>K p (ia _ hp)) f _ (acc++[q]) rest bn h3;refine⟨?_,?_⟩
  ·unfold gu;rw[bF hi,h1];show gu sub L [125] f (fA (bJ s) (2+(A q.2).length)) (acc++[q])=_;rw[h4,AV,vz,vz,eH,hlen]
   congr 2
   omega
  ·unfold oi;intro _;rw[h1];exact⟨U,h5⟩
def qMg{L:List Tok}{s:RS}{a b:List TW}(h:Pos L s (a++b)):a.length<=L.length:=by
 have:=dh List.length h.2;rw[j0,dj,bV] at this;omega
def qWw{L:List Tok}{sub:RS->TT×RS}{ok:RS->Prop}{A:TT->List TW}(l:Es)(K:∀ p∈l,vv L sub ok A p.2){s:RS}{rest:List TW}(h:Pos L s (lu A l++(4,[125])::rest)) :
  ic sub L [125] s=(l,fA s ((lu A l).length+1))/\yp sub ok L [125] s:=by
 cases l with
 |nil =>
  have h:Pos L s ((4,[125])::rest):=h;refine⟨?_,λe=>by rw[h.take.1] at e; cases e⟩;unfold ic;rw[bF h.take.1]; rfl
 |cons p l =>
  rw[qJe] at h ⊢;have h':Pos L s ((1,p.1)::(4,[58])::(A p.2++(nD A l++(4,[125])::rest))):=by
   have:=h;simp only[qL,eH] at this;exact this
  have hi:dU 4 L s [125]=false:=by rw[h'.is]; rfl
  obtain⟨h1,U,M⟩:=qLI (K p (iR ..)) h';have hle:=qMg M;obtain⟨h4,h5⟩:=qMu l (λq hq=>K q (ia _ hq)) (L.length+2) _ [p] rest bn M;refine⟨?_,λ_=>⟨U,?_⟩⟩
  ·unfold ic;rw[bA (by rw[hi]; decide),h1];show gu sub L [125] (L.length+2) (fA s (2+(A p.2).length)) [p]=_;rw[h4,vz]
   congr 2
   simp; omega
  ·rw[h1]; exact h5
def RI(l:Es)(a b:Nat):Prop:=∀ p q,l[a]?=some p->l[b]?=some q->cX q.1 p.1=false
def X8(l:Es)(h:l.length<=1000):Ord pP (dB l):=(qFV l h).1
def qQs(l:Es)(h:l.length<=1000)(j:Nat)(hj:j+1<l.length):RI (dB l) j (j+1):=λp q hp A=>by
 have o:=xI.1 (X8 l h);obtain⟨h1,M⟩:=cQ.1 hp;obtain⟨U,e2⟩:=cQ.1 A;have:=o j (j+1) h1 U bn;rw[M,e2] at this;exact this
def qOd(l:Es)(p:LB×TT)(h:p∈dB l):p∈l:=(Sm l).mem_iff.1 h
def qFZ:∀ {l:Es},jP l->l.Pairwise λp q=>pP p q=true
 |[],_=>List.Pairwise.nil
 |[a],_=>Fo _ _
 |a::b::l,h=>by
  have A:=qFZ (l:=b::l) (λi p q hp U=>h (i+1) p q hp U);have M:pP a b=true:=h 0 a b rfl rfl;refine kv.2 ⟨λx hx=>?_,A⟩
  rcases dK.1 hx with rfl|hx
  ·exact M
  ·have bx:=(kv.1 A).1 x hx;cases hc:pP a x
   ·have:=qMc b x a (qNB _ _ bx) hc;rw[M] at this; cases this
   ·rfl
def qKa:∀ (l Z:Es),(l.Pairwise λp q=>pP p q=true)->Ord pP Z->Z.Perm l->Z=l
 |[],Z,_,_,p=>vf.1 p
 |a::l,[],_,_,p=>by have:=p.length_eq; simp at this
 |a::l,z::Z,s,o,p=>by
  have s':=kv.1 s;have o':=kv.1 o;have e:z=a:=by
   rcases dK.1 (p.mem_iff.1 (iR)) with e|hz
   ·exact e
   ·rcases dK.1 (p.mem_iff.2 (iR (a:=a) (l:=l))) with e|M
    ·exact e.symm
    ·have h1:=s'.1 z hz;have A:=o'.1 a M;rw[h1] at A; cases A
  subst e;rw[qKa l Z s'.2 o'.2 (Fj p)]
def qLz{l:Es}(hl:l.length<=1000)(h:jP l):dB l=l:=qKa l _ (qFZ h) (X8 l hl) (Sm l)
def qQW{l:Es}(h:jP l)(i:Nat):qQ l i=false:=by
 cases i with
 |zero=>rfl
 |succ j =>
  show(match l[j]?,l[j+1]? with|some q,some p=>decide (q.1=p.1)|_,_=>false)=false;split
  ·rename_i q p A hp;rw[de];intro e;have:=h j q p A hp;rw[e,Vk] at this;cases this
  ·rfl
def ZU{l:Es}(h:jP l)(b:Bool):∀ n,qb l b n=b
 |0=>rfl
 |n+1=>by
  show(qb l b n||qQ l n)=b;rw[qQW h,oE]; exact ZU h b n
def qRJ{L:List Tok}{sub:RS->TT×RS}{ok:RS->Prop}{A:TT->List TW}(k:Int)(l:Es)(hl:l.length<=1000)(hs:jP l)(K:∀ p∈l,vv L sub ok A p.2){s:RS}{rest:List TW}(h:Pos L s ((4,[123])::(lu A l++[(4,[125])]++rest))) :
  jz sub L k s=(fe k l,fA s ((lu A l).length+2))/\sO sub ok L s:=by
 have ho:iC L s=fA s 1:=h.vJ;have h2:Pos L (fA s 1) (lu A l++(4,[125])::rest):=by
  have:=h.next
  simpa [AV] using this
 obtain⟨U,h4⟩:=qWw l K h2;refine⟨?_,?_⟩
 ·unfold jz;rw[ho,U];have M:dB l=l:=qLz hl hs;show(fe k (dB l),_)=_;rw[M,ZU hs,vz]
  congr 1
  show fA s (1+((lu A l).length+1))=_;rw[show 1+((lu A l).length+1)=(lu A l).length+2 by omega]
 ·unfold sO;rw[ho];exact⟨h4,by rw[U]; exact hl⟩
def UP{L:List Tok}{s:RS}{k:Int}{x:LB}{w:List TW}(h:Pos L s ((k,x)::w))(hb:k=1\/(k=4/\x=[123])){d:Int}(hd:d<=12):j8 d L s=s:=by
 have A:pC (cq L s)=true:=by
  unfold pC;rw[h.jH.1,h.jH.2]
  rcases hb with rfl|⟨rfl,rfl⟩ <;> rfl
 unfold j8;rw[A,gS,bA (by rw[dF]; omega)];rfl
def qV8{w:LB}(h:w∉DT):w≠cr 1/\w≠cr 2/\w≠cr 3/\w≠cr 4/\w≠cr 5/\w≠cr 6/\w≠cr 8:=by
 unfold DT at h;simp only[dK,lL,lK,oG] at h;exact⟨h.1,h.2.1,h.2.2.1,h.2.2.2.1,h.2.2.2.2.1,h.2.2.2.2.2.1,h.2.2.2.2.2.2⟩
def qMn(L:List Tok):∀ (n:Nat) (t:TT),WF n t->∀ (m:Nat),n<=m->∀ (d:Int),d+n<=13->vv L (gi L m d) (okF L m d) (eN n) t
 |0,t,h,_,_,_,_=>h.elim
 |n+1,t,h,0,hm,_,_=>bn
 |n+1,t,h,m+1,hm,d,hd=>by
  have ih:=λx hx=>qMn L n x hx m bn (d+1) bn
  have A:d<=12:=bn
  intro s rest P;show nh (gi L m (d+1)) d L s=_/\yB (gi L m (d+1)) (okF L m (d+1)) d L s
  rcases h with ⟨k,U,rfl⟩|⟨w,hw,aa,rfl⟩|⟨k,x,U,hx,rfl⟩|⟨k,l,U,hl,hp,hs,rfl⟩
  ·have e2:eN (n+1) (gw k)=[(1,cr k)]:=by
    rw[JO];show(if k=9 then _ else if k=7 then _ else if k=8 then _ else _)=_;rw[bA bn,bA bn,bA bn]; rfl
   rw[e2] at P ⊢;have P:Pos L s ((1,cr k)::rest):=P;have M:=UP P (.inl rfl) A;have kw:∀ a:Int,(a=4\/a=5\/a=6\/a=8)->cr k≠cr a:=λa ha=>by
    rcases U with rfl|rfl|rfl <;> rcases ha with rfl|rfl|rfl|rfl <;> decide
   refine⟨?_,?_⟩
   ·unfold nh;rw[M,bA (λh=>h P.1),P.jH.1,P.jH.2,bA bu];unfold pR
    rcases U with rfl|rfl|rfl
    ·rw[bF rfl]; rfl
    ·rw[bA bu,bF rfl]; rfl
    ·rw[bA bu,bA bu,bF rfl]; rfl
   ·intro _;rw[P.jH.1,P.jH.2];refine⟨cb,λ_=>⟨λe=>absurd e (kw 8 bn),λe=>?_⟩⟩
    rcases e with e|e|e
    ·exact absurd e (kw 4 bn)
    ·exact absurd e (kw 5 bn)
    ·exact absurd e (kw 6 bn)
  ·have P:Pos L s ((1,w)::rest):=P;have M:=UP P (.inl rfl) A;obtain⟨k1,k2,k3,k4,k5,k6,k8⟩:=qV8 aa;refine⟨?_,?_⟩
   ·unfold nh;rw[M,bA (λh=>h P.1),P.jH.1,P.jH.2,bA bu];unfold pR;rw[bA k1,bA k2,bA k3,bA k8,bA k4,bA k5,bA k6];rfl
   ·intro _;rw[P.jH.1,P.jH.2];refine⟨cb,λ_=>⟨λe=>absurd e k8,λe=>?_⟩⟩
    rcases e with e|e|e
    ·exact absurd e k4
    ·exact absurd e k5
    ·exact absurd e k6
  ·have e2:eN (n+1) (.mk k [] .nil (.mk true [x]))=(1,cr k)::(4,[60])::(eN n x++[(4,[62])]):=by
    rw[JO];show(if k=9 then _ else if k=7 then _ else if k=8 then _ else _)=_;rw[bA bn,bA bn,bA bn]; rfl
   rw[e2] at P ⊢;have P:Pos L s ((1,cr k)::(4,[60])::(eN n x++(4,[62])::rest)):=by simpa using P
   have M:=UP P (.inl rfl) A;have P1:=P.next;have ha:kR L (bJ s)=bJ (bJ s):=P1.vJ;have P2:=P1.next;obtain⟨h1,h2⟩:=ih x hx _ _ P2;have P3:=P2.Cw;have he:zJ L (fA (bJ (bJ s)) (eN n x).length)=bJ (fA (bJ (bJ s)) (eN n x).length):=P3.vJ;have kw:∀ a:Int,(a=1\/a=2\/a=3\/a=8)->cr k≠cr a:=λa ha=>by
    rcases U with rfl|rfl|rfl <;> rcases ha with rfl|rfl|rfl|rfl <;> decide
   refine⟨?_,?_⟩
   ·unfold nh;rw[M,bA (λh=>h P.1),P.jH.1,P.jH.2,bA bu];unfold pR;rw[bA (kw 1 bn),bA (kw 2 bn),bA (kw 3 bn),bA (kw 8 bn)];have fin:ofM (gi L m (d+1)) L k (bJ s)=(.mk k [] .nil (.mk true [x]),fA s ((1,cr k)::(4,[60])::(eN n x++[((4:Int),([62]:LB))])).length):=by
     unfold ofM;rw[ha,h1];show(_,zJ L (fA (bJ (bJ s)) (eN n x).length))=_;rw[he,AV,AV,AV,vz,vz,vz]
     congr 2
     simp; omega
    rcases U with rfl|rfl|rfl
    ·rw[bF rfl]; exact fin
    ·rw[bA bu,bF rfl]; exact fin
    ·rw[bA bu,bA bu,bF rfl]; exact fin
   ·intro _;rw[P.jH.1,P.jH.2,M];refine⟨cb,λ_=>⟨λe=>absurd e (kw 8 bn),λ_=>?_⟩⟩;rw[ha]; exact h2
  ·have K:∀ p∈l,vv L (gi L m (d+1)) (okF L m (d+1)) (eN n) p.2:=λp ab=>ih p.2 (hp p ab).2
   rcases U with rfl|rfl
   ·have e2:eN (n+1) (fe 7 l)=(4,[123])::(lu (eN n) l++[(4,[125])]):=by
     rw[JO,Xp]; rfl
    rw[e2] at P ⊢;have M:=UP P (.inr ⟨rfl,rfl⟩) A;obtain⟨h1,h2⟩:=qRJ 7 l hl hs K P;refine⟨?_,?_⟩
    ·unfold nh;rw[M,bA (λh=>h P.1),P.jH.1,bF rfl,h1]
     congr 2
     simp
    ·intro _;rw[P.jH.1,M];exact⟨λ_=>h2,λe=>absurd rfl e⟩
   ·have e2:eN (n+1) (fe 8 l)=(1,cr 8)::(4,[123])::(lu (eN n) l++[(4,[125])]):=by
     rw[JO,Xp]; rfl
    rw[e2] at P ⊢;have M:=UP P (.inl rfl) A;have P1:=P.next;obtain⟨h1,h2⟩:=qRJ 8 l hl hs K P1;refine⟨?_,?_⟩
    ·unfold nh;rw[M,bA (λh=>h P.1),P.jH.1,P.jH.2,bA bu];unfold pR;rw[bA bu,bA bu,bA bu,bF rfl,h1,AV,vz]
     congr 2
     simp; omega
    ·intro _;rw[P.jH.1,P.jH.2,M];refine⟨cb,λ_=>⟨λ_=>h2,λe=>?_⟩⟩
     rcases e with e|e|e <;> exact absurd e bu
def qEM:∀ (n:Nat) (s acc:LB) (i:Nat),s.length<=n->(fc s acc i).t.kind≠1
 |_,[],acc,i,_=>by show(0:Int)≠1; decide
 |_,[c],acc,i,_=>by
  unfold fc;split
  ·show(0:Int)≠1; decide
  split
  ·split
   ·show(0:Int)≠1; decide
   ·show(2:Int)≠1; decide
  ·show(0:Int)≠1; decide
 |0,c::d::s,acc,i,h=>by simp at h
 |n+1,c::d::s,acc,i,h=>by
  have h:s.length+2<=n+1:=h;unfold fc;split
  ·show(0:Int)≠1; decide
  split
  ·split
   ·show(0:Int)≠1; decide
   ·show(2:Int)≠1; decide
  split
  ·split
   ·show(0:Int)≠1; decide
   ·exact qEM n s _ _ bn
  ·exact qEM n (d::s) _ _ (by show s.length+1<=n; omega)
def qJJ(s:LB)(h:(lh s).t.kind=1):fK (lh s).t.text=true:=by
 cases s with
 |nil=>exact absurd h (by show ¬ (0:Int)=1; decide)
 |cons c r =>
  have e:lh (c::r)=if dR c.toNat=true then pj (c::r) else if eE (c::r)=true then fL (c::r) else if c.toNat=34 then kF (c::r) else ig (c::r):=rfl
  rw[e] at h ⊢;split at h
  ·rename_i hl;rw[bF hl];unfold pj at h ⊢;split at h
   ·exact absurd h (by show ¬ (0:Int)=1; decide)
   ·rename_i A;rw[bA A];show fK ((c::r).take (cp isWord (c::r)))=true;have hw:isWord c.toNat=true:=by unfold isWord; rw[hl]; rfl
    have U:cp isWord (c::r)=cp isWord r+1:=by simp[cp,hw]
    have M:=ZV isWord (c::r);rw[U] at M A ⊢;rw[vj] at M ⊢;unfold fK;simp only[fj,lU,oF];refine⟨⟨hl,M⟩,?_⟩;rw[di,ji];omega
  ·split at h
   ·exfalso;unfold fL at h;split at h
    ·exact absurd h (by show ¬ (0:Int)=1; decide)
    split at h
    ·exact absurd h (by show ¬ (0:Int)=1; decide)
    ·exact absurd h (by show ¬ (3:Int)=1; decide)
   ·split at h
    ·exact absurd h (qEM _ _ _ _ (cB _))
    ·exfalso;unfold ig at h;split at h
     ·exact absurd h (by show ¬ (4:Int)=1; decide)
     split at h
     ·exact absurd h (by show ¬ (4:Int)=1; decide)
     ·dsimp only at h;split at h
      ·exact absurd h (by show ¬ (4:Int)=1; decide)
      ·exact absurd h (by show ¬ (0:Int)=1; decide)
def jF(L:List Tok):Prop:=∀ t∈L,t.kind=1->fK t.text=true
def qIB:∀ (f:Nat) (s:LB) (i:Nat) (acc l:List Tok),jF acc->eu f s i acc = .ok l->jF l
 |0,s,i,acc,l,h,e=>by cases e; exact h
 |f+1,s,i,acc,l,h,e=>by
  rw[eu] at e;dsimp only at e;split at e
  ·cases e; exact h
  ·rename_i c r hs;split at e
   ·refine qIB f _ _ _ l ?_ e;intro t ht A
    rcases fb.1 ht with h1|h1
    ·exact h t h1 A
    ·rw[fY.1 h1] at A ⊢;exact qJJ _ A
   ·cases e
def qMH(src:LB):jF (bP src).1:=by
 unfold bP;split
 ·intro t ht; cases ht
 ·rename_i l he;unfold jO at he;split at he
  ·cases he
  ·unfold ka at he;split at he
   ·cases he
   ·rename_i M A;split at he
    ·cases he
    ·cases he;exact qIB _ _ _ _ _ (λt ht=>by cases ht) A
def Good(s:RS):Prop:=s.e=0/\s.tw=false
def CN{s:RS}{b:Bool}(h:Good (cU s b)):b=true/\Good s:=by
 obtain⟨h1,A⟩:=UY h.1;rw[h1] at h;exact⟨h1,h⟩
def FT{k:Int}{L:List Tok}{s:RS}{x:LB}(h:Good (bZ k L s x)):Good s:=by
 unfold bZ at h;split at h
 ·exact h
 ·exact h
def qSv{L:List Tok}{s:RS}(h:Good (jh L s)):Good s/\(cq L s).kind=1:=by
 have h1:=FT (CN h).2;have A:Good (cU s (decide ((cq L s).kind=1))):=h1;obtain⟨M,U⟩:=CN A;exact⟨U,gL M⟩
def qHj{L:List Tok}(v:jF L){s:RS}(h:(cq L s).kind=1):fK (cq L s).text=true:=by
 obtain⟨h1,A⟩:=Ox (L:=L) (s:=s) (by rw[h]; decide);unfold cq at h ⊢;rw[bF h1,fQ A] at h ⊢;exact v _ (qO A) h
def td(n:Nat)(sub:RS->TT×RS)(ok:RS->Prop):Prop:=∀ s,ok s->Good (sub s).2->Good s/\WF n (sub s).1
def QE(n:Nat)(p:LB×TT):Prop:=fK p.1=true/\WF n p.2
def qG0{n:Nat}{L:List Tok}{sub:RS->TT×RS}{ok:RS->Prop}(v:jF L)(S:td n sub ok){s:RS}(o:ok (jh L s))(h:Good (dz sub L s).2):Good s/\QE n (dz sub L s).1:=by
 obtain⟨h1,A⟩:=S _ o h;obtain⟨M,U⟩:=qSv h1;exact⟨M,qHj v U,A⟩
def qGA{n:Nat}{L:List Tok}{sub:RS->TT×RS}{ok:RS->Prop}(v:jF L)(S:td n sub ok)(x:LB):∀ (f:Nat) (s:RS) (acc:Es),oi sub ok L f s->Good (gu sub L x f s acc).2->Good s
 |0,s,acc,_,h=>h
 |f+1,s,acc,lo,h=>by
  unfold gu at h;by_cases hi:dU 4 L s [44]=true
  ·rw[bF hi] at h;obtain⟨A,M⟩:=lo hi;exact(qG0 v S A (qGA v S x f _ _ M h)).1
  ·rw[bA hi] at h;exact FT (CN h).2
def qMZ{n:Nat}{L:List Tok}{sub:RS->TT×RS}{ok:RS->Prop}(v:jF L)(S:td n sub ok)(x:LB):∀ (f:Nat) (s:RS) (acc:Es),oi sub ok L f s->Good (gu sub L x f s acc).2->(∀ p∈acc,QE n p)->∀ p∈(gu sub L x f s acc).1,QE n p
 |0,s,acc,_,h,A=>A
 |f+1,s,acc,lo,h,A=>by
  unfold gu at h ⊢;by_cases hi:dU 4 L s [44]=true
  ·rw[bF hi] at h ⊢;obtain⟨o1,U⟩:=lo hi;have h1:=qGA v S x f _ _ U h;have h2:=(qG0 v S o1 h1).2;refine qMZ v S x f _ _ U h λp hp=>?_
   rcases fb.1 hp with M|M
   ·exact A p M
   ·rw[fY.1 M]; exact h2
  ·rw[bA hi] at h ⊢;exact A
def qWa{n:Nat}{L:List Tok}{sub:RS->TT×RS}{ok:RS->Prop}(v:jF L)(S:td n sub ok)(x:LB){s:RS}(ro:yp sub ok L x s)(h:Good (ic sub L x s).2):Good s/\∀ p∈(ic sub L x s).1,QE n p:=by
 unfold ic at h ⊢;cases hx:dU 4 L s x with
 |true =>
  rw[hx,bF rfl] at h;rw[bF rfl];exact⟨h,λp hp=>by cases hp⟩
 |false =>
  rw[hx,bA bu] at h;rw[bA bu];obtain⟨M,A⟩:=ro hx;have h1:=qGA v S x _ _ _ A h;obtain⟨U,h3⟩:=qG0 v S M h1;exact⟨U,qMZ v S x _ _ _ A h λp hp=>by rw[fY.1 hp]; exact h3⟩
def XL:∀ (n:Nat) (l:Es) (b:Bool),qb l b n=false->b=false/\∀ i,i<n->qQ l i=false
 |0,l,b,h=>⟨h,λi hi=>bn⟩
 |n+1,l,b,h=>by
  have h:(qb l b n||qQ l n)=false:=h;rw[nj] at h;obtain⟨h1,A⟩:=XL n l b h.1;refine⟨h1,λi hi=>?_⟩;by_cases e:i=n
  ·rw[e]; exact h.2
  ·exact A i bn
def qJQ{l:Es}(h:∀ i,i<l.length->qQ l i=false)(ho:∀ j,j+1<l.length->RI l j (j+1)):jP l:=by
 intro i p q hp A;have hl:i+1<l.length:=(cQ.1 A).1;have h1:=ho i hl p q hp A;have h2:=h (i+1) hl;have U:(match l[i]?,l[i+1]? with|some q,some p=>decide (q.1=p.1)|_,_=>false)=false:=h2;rw[hp,A] at U;have M:p.1≠q.1:=sH U;cases hb:cX p.1 q.1 with
 |true=>rfl
 |false=>exact absurd (Vl _ _ hb h1) M
def qPn{n:Nat}{L:List Tok}{sub:RS->TT×RS}{ok:RS->Prop}(v:jF L)(S:td n sub ok)(k:Int)(A:k=7\/k=8){s:RS}(ro:sO sub ok L s)(h:Good (jz sub L k s).2):Good s/\WF (n+1) (jz sub L k s).1:=by
 obtain⟨h1,M⟩:=XL _ _ _ h.2;have U:Good (ic sub L [125] (iC L s)).2:=⟨h.1,h1⟩;obtain⟨h3,h4⟩:=qWa v S [125] ro.1 U;refine⟨FT (CN h3).2,.inr (.inr (.inr ⟨k,dB (ic sub L [125] (iC L s)).1,A,?_,λp hp=>h4 p (qOd _ p hp),qJQ M (λj hj=>qQs _ ro.2 j (by rw[qEz] at hj; exact hj)),rfl⟩))⟩;rw[qEz];exact ro.2
def Zx{n:Nat}{L:List Tok}{sub:RS->TT×RS}{ok:RS->Prop}(S:td n sub ok)(k:Int)(A:k=4\/k=5\/k=6){s:RS}(o:ok (kR L s))(h:Good (ofM sub L k s).2):Good s/\WF (n+1) (ofM sub L k s).1:=by
 have h1:Good (sub (kR L s)).2:=FT (CN h).2;obtain⟨M,U⟩:=S _ o h1;exact⟨FT (CN M).2,.inr (.inr (.inl ⟨k,_,A,U,rfl⟩))⟩
def qWe{n:Nat}{L:List Tok}{sub:RS->TT×RS}{ok:RS->Prop}(v:jF L)(S:td n sub ok)(w:LB)(hw:fK w=true){s:RS}(o:CS sub ok L w s)(h:Good (pR sub L w s).2):Good s/\WF (n+1) (pR sub L w s).1:=by
 unfold pR at h ⊢;by_cases k1:w=cr 1
 ·rw[bF k1] at h ⊢; exact⟨h,.inl ⟨1,bn,rfl⟩⟩
 rw[bA k1] at h ⊢;by_cases k2:w=cr 2
 ·rw[bF k2] at h ⊢; exact⟨h,.inl ⟨2,bn,rfl⟩⟩
 rw[bA k2] at h ⊢;by_cases k3:w=cr 3
 ·rw[bF k3] at h ⊢; exact⟨h,.inl ⟨3,bn,rfl⟩⟩
 rw[bA k3] at h ⊢;by_cases A:w=cr 8
 ·rw[bF A] at h ⊢; exact qPn v S 8 (.inr rfl) (o.1 A) h
 rw[bA A] at h ⊢;by_cases M:w=cr 4
 ·rw[bF M] at h ⊢; exact Zx S 4 bn (o.2 (.inl M)) h
 rw[bA M] at h ⊢;by_cases U:w=cr 5
 ·rw[bF U] at h ⊢; exact Zx S 5 bn (o.2 (.inr (.inl U))) h
 rw[bA U] at h ⊢;by_cases k6:w=cr 6
 ·rw[bF k6] at h ⊢; exact Zx S 6 bn (o.2 (.inr (.inr k6))) h
 rw[bA k6] at h ⊢;refine⟨h,.inr (.inl ⟨w,hw,?_,rfl⟩)⟩;unfold DT;simp only[dK,lL,lK,oG];exact⟨k1,k2,k3,M,U,k6,A⟩
def qRB{n:Nat}{L:List Tok}{sub:RS->TT×RS}{ok:RS->Prop}(v:jF L)(S:td n sub ok)(d:Int){s:RS}(o:yB sub ok d L s)(h:Good (nh sub d L s).2):Good s/\WF (n+1) (nh sub d L s).1/\d<=12:=by
 unfold nh at h ⊢;by_cases he:(j8 d L s).e=0
 ·obtain⟨h1,M,h3,h4⟩:=US he;obtain⟨o1,o2⟩:=o he;rw[bA (λh=>h he)] at h ⊢;rw[h1] at h o1 o2 ⊢;by_cases A:(cq L s).kind=4
  ·rw[bF A] at h ⊢;obtain⟨U,h6⟩:=qPn v S 7 (.inl rfl) (o1 A) h;exact⟨U,h6,h4⟩
  ·rw[bA A] at h ⊢;have aa:(cq L s).kind=1:=by
    unfold pC at M;rw[de A,fH,oE,dF] at M;exact M
   obtain⟨U,h6⟩:=qWe v S _ (qHj v aa) (o2 A) h;exact⟨U,h6,h4⟩
 ·rw[bF he] at h;exact absurd h.1 he
def qM1{L:List Tok}(v:jF L):∀ (m:Nat) (d:Int),d+m=14->∀ s,okF L m d s->Good (gi L m d s).2->Good s/\WF (m - 1) (gi L m d s).1
 |0,d,hd,s,o,h=>o.elim
 |1,d,hd,s,o,h=>by
  have:=(qRB (n:=0) v (sub:=gi L 0 (d+1)) (ok:=okF L 0 (d+1)) (λs o _=>o.elim) d o h).2.2;omega
 |m+2,d,hd,s,o,h=>by
  obtain⟨h1,A,M⟩:=qRB (n:=m) v (sub:=gi L (m+1) (d+1)) (ok:=okF L (m+1) (d+1)) (λs o h=>qM1 v (m+1) (d+1) bn s o h) d o h;exact⟨h1,A⟩
def qS9{L:List Tok}{s:RS}(h:nV (mO L s)=0):Good s:=by
 unfold nV at h;split at h
 ·rename_i he; exact absurd h he
 ·rename_i he;have he:(mO L s).e=0:=xH he;have h1:=(UY he).1;unfold mO at h he;rw[h1] at h he;split at h
  ·cases h
  ·rename_i ht;have A:¬ s.tw=true:=ht;exact⟨he,by simpa using A⟩
def FE(t:Tok):Nat:=if t.kind=1\/(t.kind=4/\(t.text=[44]\/t.text=[58])) then 1 else 0
def nC(L:List Tok):Nat:=(L.map FE).sum
def qFg(L:List Tok)(i:Nat)(t:Tok)(h:L[i]?=some t):nC (L.drop i)=FE t+nC (L.drop (i+1)):=by
 obtain⟨h1,A⟩:=cQ.1 h;unfold nC;rw[kV h1,A];simp
def qNO(L:List Tok):∀ (k i:Nat),nC (L.drop (i+k))<=nC (L.drop i)
 |0,i=>cB _
 |k+1,i=>by
  have A:=qNO L k (i+1);rw[show i+1+k=i+(k+1) by omega] at A;cases ht:L[i]? with
  |some t=>rw[qFg L i t ht]; omega
  |none =>
   have h1:L.length<=i:=EY.1 ht;rw[kT (by omega:L.length<=i+(k+1))];exact eV _
def qJG(L:List Tok){i j:Nat}(h:i<=j):nC (L.drop j)<=nC (L.drop i):=by
 have:=qNO L (j - i) i
 rwa [show i+(j - i)=j by omega] at this
def qTt{k:Int}{L:List Tok}{s:RS}{x:LB}(A:k≠0)(h:dU k L s x=true)(hw:∀ t:Tok,t.kind=k->t.text=x->FE t=1):nC (L.drop s.p)=1+nC (L.drop (s.p+1)):=by
 obtain⟨h1,M⟩:=zo A h;have ht:L[s.p]?=some L[s.p]:=fQ M;unfold dU cq at h;rw[bF h1,ht,oS,fj,dF,dF] at h;rw[qFg L _ _ ht,hw _ h.1 h.2]
def qWV{L:List Tok}{s:RS}(h:(jh L s).e=0):nC (L.drop (jh L s).p)+2<=nC (L.drop s.p):=by
 obtain⟨h1,M⟩:=UY h;have hc:jh L s=bJ (dQ L s):=by
  unfold jh bZ;rw[h1]; rfl
 have U:(dQ L s).e=0:=by
  have:(bZ 4 L (dQ L s) [58]).e=0:=M;unfold bZ at this;rw[h1] at this;exact this
 obtain⟨h4,h5⟩:=UY (show(cU s (decide ((cq L s).kind=1))).e=0 from U);have A:=gL h4;obtain⟨h6,h7⟩:=Ox (L:=L) (s:=s) (by rw[A]; decide);have ht:L[s.p]?=some L[s.p]:=fQ h7;unfold cq at A;rw[bF h6,ht,oS] at A;have w1:=qFg L _ _ ht;have:FE L[s.p]=1:=by unfold FE; rw[bF (.inl A)]
 have w2:=qTt bu h1 (λt a b=>by unfold FE; rw[bF (.inr ⟨a,.inr b⟩)]);rw[FK] at w2;have hp:(jh L s).p=s.p+2:=by rw[hc]; show(dQ L s).p+1=_; rw[FK]
 rw[hp];show nC (L.drop (s.p+1+1))+2<=_;omega
def Eb(sub:RS->TT×RS):Prop:=∀ s,(sub s).2.e=0->s.e=0
def qV2(sub:RS->TT×RS)(d:Int)(L:List Tok):Eb (nh sub d L):=by
 intro s h;by_cases he:(j8 d L s).e=0
 ·exact(US he).2.2.1
 ·unfold nh at h;rw[bF he] at h;exact absurd h he
def Z7(L:List Tok):∀ (m:Nat) (d:Int),Eb (gi L m d)
 |0,d=>λs h=>h
 |m+1,d=>qV2 _ d L
def JY(L:List Tok)(s:RS):Nat:=if s.e=0 then nC (L.drop s.p)+2 else 0
def qKT{L:List Tok}{sub:RS->TT×RS}(inv:Inv L sub)(eb:Eb sub)(x:LB):∀ (f:Nat) (s:RS) (acc:Es),I1 L s->(gu sub L x f s acc).1.length*3<=acc.length*3+JY L s
 |0,s,acc,h=>by show acc.length*3<=_; omega
 |f+1,s,acc,h=>by
  unfold gu;by_cases hi:dU 4 L s [44]=true
  ·rw[bF hi];obtain⟨h1,h2⟩:=zo bu hi;have hn:(bJ s).p<=L.length:=h2;obtain⟨h3,h4⟩:=JQ inv hn;have ih:=qKT inv eb x f _ (acc++[(dz sub L (bJ s)).1]) h3;have w:=qTt bu hi (λt a b=>by unfold FE; rw[bF (.inr ⟨a,.inl b⟩)]);have U:JY L s=nC (L.drop s.p)+2:=by unfold JY; rw[bF h1]
   have A:(acc++[(dz sub L (bJ s)).1]).length=acc.length+1:=bR
   rw[A] at ih;have:JY L (dz sub L (bJ s)).2+3<=JY L s:=by
    unfold JY;rw[bF h1];by_cases he:(dz sub L (bJ s)).2.e=0
    ·rw[bF he];have hc:(jh L (bJ s)).e=0:=eb _ he;have w2:=qWV hc;obtain⟨M,_⟩:=JE hn;have hm:=(inv _ M).2;have w3:=qJG L (show(jh L (bJ s)).p<=(dz sub L (bJ s)).2.p from hm);have:(bJ s).p=s.p+1:=rfl;rw[this] at w2;omega
    ·rw[bA he]; omega
   omega
  ·rw[bA hi];show acc.length*3<=_;omega
def ct{L:List Tok}{sub:RS->TT×RS}(inv:Inv L sub)(eb:Eb sub)(x:LB){s:RS}(h:s.p<=L.length)(hw:nC L<=2000):(ic sub L x s).1.length<=1000:=by
 unfold ic;split
 ·show 0<=1000; decide
 ·obtain⟨A,M⟩:=JQ inv h;have:=qKT inv eb x (L.length+2) _ [(dz sub L s).1] A;have hp:JY L (dz sub L s).2<=2002:=by
   unfold JY;split
   ·have:=qJG L (eV (dz sub L s).2.p);rw[eI] at this;omega
   ·omega
  have:[(dz sub L s).1].length=1:=rfl;omega
def qLJ{L:List Tok}{sub:RS->TT×RS}{ok:RS->Prop}(inv:Inv L sub)(ho:∀ s,I1 L s->ok s):∀ (f:Nat) (s:RS),I1 L s->oi sub ok L f s
 |0,_,_=>trivial
 |f+1,s,h=>by
  intro hi;have hn:(bJ s).p<=L.length:=(zo bu hi).2;exact⟨ho _ (JE hn).1,qLJ inv ho f _ (JQ inv hn).1⟩
def qNK{L:List Tok}{sub:RS->TT×RS}{ok:RS->Prop}(hw:nC L<=2000)(inv:Inv L sub)(eb:Eb sub)(ho:∀ s,I1 L s->ok s){s:RS}(h:s.p<=L.length):sO sub ok L s :=
 ⟨λ_=>⟨ho _ (JE (UK h)).1,qLJ inv ho _ _ (JQ inv (UK h)).1⟩,ct inv eb [125] (UK h) hw⟩
def qMP{L:List Tok}{sub:RS->TT×RS}{ok:RS->Prop}(hw:nC L<=2000)(inv:Inv L sub)(eb:Eb sub)(d:Int)(ho:d<=12->∀ s,I1 L s->ok s){s:RS}(h:I1 L s):yB sub ok d L s:=by
 intro he;obtain⟨h1,A,h3,M⟩:=US he;rw[h1];have hp:=h.1 h3;refine⟨λ_=>qNK hw inv eb (ho M) hp,λhk=>?_⟩;have U:(cq L s).kind=1:=by
  unfold pC at A;rw[de hk,fH,oE,dF] at A;exact A
 have hl:=(Ox (L:=L) (s:=s) (by rw[U]; decide)).2;have hn:(bJ s).p<=L.length:=hl;exact⟨λ_=>qNK hw inv eb (ho M) hn,λ_=>ho M _ (sQ [60] ⟨λ_=>hn,bn⟩).1⟩
def ZX{L:List Tok}(hw:nC L<=2000):∀ (m:Nat) (d:Int),d+m=14->0<m->∀ s,I1 L s->okF L m d s
 |0,_,_,h,_,_=>bn
 |1,d,hd,_,s,I=>qMP hw (CL L 0 (d+1)) (Z7 L 0 (d+1)) d (λh=>bn) I
 |m+2,d,hd,_,s,I=>qMP hw (CL L (m+1) (d+1)) (Z7 L (m+1) (d+1)) d (λ_ s I=>ZX hw (m+1) (d+1) bn bn s I) I
def XG:∀ L:List Tok,nC L<=L.length
 |[]=>cB _
 |t::L=>by
  have:=XG L;have h1:FE t<=1:=by unfold FE; split <;> omega
  show FE t+nC L<=L.length+1;omega
def qUX{L:List Tok}(A:L.length<=1000):n8 0 L (gi L 13 1) (I1 L) :=
 ⟨λs I _=>qMX A 13 1 bu bu s I (ZX (by have:=XG L; omega) 13 1 bu bu s I),CL L 13 1⟩
def qJW{L:List Tok}{sub:RS->TT×RS}(inv:Inv L sub):∀ (f:Nat) (s:RS),I1 L s->tR sub (I1 L) L f s
 |0,_,_=>trivial
 |f+1,s,I=>λhi=>by
  have hn:(bJ s).p<=L.length:=(zo bu hi).2;have I':I1 L (bJ s):=⟨λ_=>hn,bn⟩;exact⟨I',qJW inv f _ (inv _ I').1⟩
def Xe{L:List Tok}{s:RS}(h:s.p<L.length):(nB L s).p<=L.length/\s.p<=(nB L s).p:=by
 unfold nB;rw[Cc];unfold bZ;split
 ·exact⟨by show s.p+1<=_; omega,by show s.p<=s.p+1; omega⟩
 ·exact⟨bn,cB _⟩
def Xf{L:List Tok}{sub:RS->TT×RS}(inv:Inv L sub){s:RS}(h:s.p<=L.length):N5 sub (I1 L) L s/\I1 L (ph sub L s).2:=by
 obtain⟨A,q1⟩:=Cb [40] h;obtain⟨U,q2⟩:=R4 inv [41] A;obtain⟨M,q3⟩:=sQ [45,62] U;obtain⟨I4,q4⟩:=inv _ M;exact⟨⟨λ_=>⟨A,qJW inv _ _ (inv _ A).1⟩,M⟩,I4⟩
def Z5{L:List Tok}{sub:RS->TT×RS}(inv:Inv L sub):∀ (f:Nat) (s:RS),I1 L s->AY sub (I1 L) L f s
 |0,_,_=>trivial
 |f+1,s,I=>λhe hp=>by
  have A:(bJ s).p<=L.length:=by show s.p+1<=_; omega
  refine⟨λM=>⟨(Cb [61] A).1,Z5 inv f _ (sQ [59] (inv _ (Cb [61] A).1).1).1⟩,λM=>?_⟩;obtain⟨a,b⟩:=Xf inv (Xe hp).1;exact⟨a,Z5 inv f _ (sQ [59] b).1⟩
def UX{L:List Tok}{sub:RS->TT×RS}(inv:Inv L sub):∀ (f:Nat) (s:RS) (ns:Es) (gs:Gs),I1 L s->I1 L (jL sub L f s ns gs).2/\(jL sub L f s ns gs).1.1.length+(jL sub L f s ns gs).1.2.length<=ns.length+gs.length+f
 |0,s,ns,gs,I=>⟨I,cB _⟩
 |f+1,s,ns,gs,I=>by
  unfold jL;split
  ·rename_i h;obtain⟨he,hp⟩:=h;have A:(bJ s).p<=L.length:=by show s.p+1<=_; omega
   split
   ·obtain⟨a,b⟩:=UX inv f _ (ns++[((cq L (bJ s)).text,(sub (eP [61] L (bJ s))).1)]) gs (sQ [59] (inv _ (Cb [61] A).1).1).1;refine⟨a,qa b ?_⟩;rw[bV,gM]; omega
   ·obtain⟨a,b⟩:=UX inv f _ ns (gs++[(ph sub L (nB L s)).1]) (sQ [59] (Xf inv (Xe hp).1).2).1;refine⟨a,qa b ?_⟩;rw[bV,gM]; omega
  ·exact⟨I,by show ns.length+gs.length<=_; omega⟩
noncomputable def kZ(src:LB):TT×RS:=gi (bP src).1 13 1 (vL (bP src).1 (qf src))
noncomputable def ff(src:LB):(Es×Gs)×RS:=jL (gi (bP src).1 13 1) (bP src).1 ((bP src).1.length+2) (gk (bP src).1 (kZ src).2) [] []
noncomputable def ri(src:LB):(TT×Es×Gs)×RS :=
 (((kZ src).1,cL (ff src).1.1,cT (ff src).1.2),{ (ff src).2 with tw:=yk (cT (ff src).1.2) (qb (cL (ff src).1.1) (ff src).2.tw (cL (ff src).1.1).length) (cT (ff src).1.2).length })
noncomputable def lX(src:LB):Int:=nV (mO (bP src).1 (ri src).2)
noncomputable def rh(src:LB):SC:=if lX src=0 then ⟨(ri src).1.1,jk (ri src).1.2.1,jk (ri src).1.2.2⟩ else SC.zero
def Zw(src:LB):I1 (bP src).1 (qf src):=⟨λ_=>eV _,eV _⟩
def Zu{L:List Tok}{s:RS}(I:I1 L s):I1 L (vL L s):=UO _ (UM bu I).1
def qVR(src:LB):Om 13 [kS src] []=some (.dq [.agg (bp (rh src).row),.c (.p (.int .i64 (lX src)))],[]):=by
 have hL:=Yk src;refine(gD rfl).trans ?_;show ca tab.get S 13 0 0 [kS src] h0=_;have ok:=qUX (L:=(bP src).1) bn;have Id:=Zu (Zw src);have A:=ok.one _ Id Id;obtain⟨U,_⟩:=ok.inv _ Id;obtain⟨h1,A1,e1⟩:=qQr src A (by have:=U.2; omega);have M:I1 (bP src).1 (gk (bP src).1 (gi (bP src).1 13 1 (vL (bP src).1 (qf src))).2):=(sQ [59] U).1;obtain⟨h2,T,G,A2,e2⟩:=qGz ok bn ((bP src).1.length+2) _ [] [] _ _ h1 M (Z5 ok.inv _ _ M) bn (by show 0+0+_<=_; omega) A1;obtain⟨Ir,lr⟩:=UX ok.inv ((bP src).1.length+2) _ [] [] M;change Ps h2 (bP src).1 (ff src).2 (kZ src).1 (ff src).1.1 (ff src).1.2 T G at A2;change I1 (bP src).1 (ff src).2 at Ir;change (ff src).1.1.length+(ff src).1.2.length<=0+0+((bP src).1.length+2) at lr;have hE:lX src=nV (mO (bP src).1 (ri src).2):=rfl;have hS:rh src=if lX src=0 then ⟨(ri src).1.1,jk (ri src).1.2.1,jk (ri src).1.2.2⟩ else SC.zero:=rfl
 have hR:ri src=(((kZ src).1,cL (ff src).1.1,cT (ff src).1.2),{ (ff src).2 with tw:=yk (cT (ff src).1.2) (qb (cL (ff src).1.1) (ff src).2.tw (cL (ff src).1.1).length) (cT (ff src).1.2).length }):=rfl;generalize ri src=R at *;generalize ff src=r at *;generalize kZ src=t at *;obtain⟨h3,A3,e3⟩:=qR7 bn bn A2;have lN:(cL r.1.1).length<=1000:=by rw[qEQ]; omega
 have lG:(cT r.1.2).length<=1000:=by rw[qEP]; omega
 obtain⟨h4,A4,e4⟩:=qMW (L:=(bP src).1) (s:=r.2) lN (cL r.1.1).length 0 h3 bn A3;have e5:=qR5 A4;obtain⟨h6,A6,e6⟩:=qMe (L:=(bP src).1) (s:={ r.2 with tw:=qb (cL r.1.1) r.2.tw (cL r.1.1).length }) lG (cT r.1.2).length 0 h4 bn A4;have e7:=qSj (by have:=Ir.2; show r.2.p<=_; omega) bn A6;refine(e1.trans (e2.trans (e3.trans (e4.trans (e5.trans (e6.trans e7)))))).trans ?_;subst hR;rw[hS,hE];split
 ·rename_i h; rw[h]
 ·rfl
def qSc(r:LB)(f i:Nat)(acc:List Tok):eu (f+1) (45::62::r) i acc=eu f r (i+2) (acc++[⟨4,[45,62],0,(i:Int)⟩]):=by
 have ho:lh (45::62::r)=⟨⟨4,[45,62],0,0⟩,2,0⟩:=by
  have hn:eE (45::62::r)=false:=rfl;show(if dR (45:UInt8).toNat=true then pj (45::62::r) else if eE (45::62::r)=true then fL (45::62::r) else if (45:UInt8).toNat=34 then kF (45::62::r) else ig (45::62::r))=_;rw[hn,bA bu,bA bu,bA bu];unfold ig;rw[bF (show((45:UInt8)::62::r).take 2=ub from rfl)];rfl
 have A:cp dJ (45::62::r)=0:=rfl;rw[eu];simp only[A,eI];simp only[ho,gH,fx];rfl
def Rd.arr(r:LB):Rd (45::62::r) [(4,[45,62])] r :=
 ⟨cM,λf i acc=>⟨[⟨4,[45,62],0,(i:Int)⟩],_,rfl,qSc r f i acc⟩⟩
def Pos.Du{L:List Tok}{s:RS}{k:Int}{x:LB}{w:List TW}(h:Pos L s ((k,x)::w)):dU k L s x=true/\bZ k L s x=bJ s:=by
 have:dU k L s x=true:=by rw[h.is,cI rfl,cI rfl]; rfl
 exact⟨this,by unfold bZ; rw[bF this]⟩
def Pos.DO{L:List Tok}{s:RS}{k:Int}{x:LB}{w:List TW}(h:Pos L s ((k,x)::w)):cU (bZ k L s x) (dU k L s x)=bJ s:=by
 rw[h.Du.1,h.Du.2]; rfl
def Pos.sep{L:List Tok}{s:RS}{nm y:LB}{w:List TW}(h:Pos L s ((1,nm)::(4,y)::w)):eP y L s=fA s 2/\(cq L s).text=nm:=by
 obtain⟨h1,A⟩:=h.jH;have M:dQ L s=bJ s:=by unfold dQ; rw[h1]; rfl
 refine⟨?_,A⟩;unfold eP;rw[M,h.next.DO,AV,AV,vz]
def Pos.nil{L:List Tok}{s:RS}(h:Pos L s []):L.length<=s.p:=by
 have:=dh List.length h.2;rw[j0,dj,fm] at this;omega
def Vj{n:Nat}{t:TT}(h:WF n t):∃ k x w,eN n t=(k,x)::w/\(k=1\/(k=4/\x=[123])):=by
 cases n with
 |zero=>exact h.elim
 |succ n =>
  unfold eN;split
  ·exact⟨_,_,_,rfl,.inl rfl⟩
  split
  ·exact⟨_,_,_,rfl,.inr ⟨rfl,rfl⟩⟩
  split
  ·exact⟨_,_,_,rfl,.inl rfl⟩
  split
  ·exact⟨_,_,_,rfl,.inl rfl⟩
  ·exact⟨_,_,_,rfl,.inl rfl⟩
abbrev qbi(L:List Tok)(t:TT):Prop:=vv L (gi L 13 1) (okF L 13 1) (eN 12) t
def U0(L:List Tok){t:TT}(h:WF 12 t):qbi L t:=qMn L 12 t h 13 bu 1 bu
def oe:List TT->List TW
 |[]=>[]
 |[t]=>eN 12 t
 |t::q::l=>eN 12 t++(4,[44])::oe (q::l)
def qB:List TT->List TW
 |[]=>[]
 |t::l=>(4,[44])::(eN 12 t++qB l)
def qFt:∀ (t:TT) (l:List TT),oe (t::l)=eN 12 t++qB l
 |t,[]=>by simp[oe,qB]
 |t,q::l=>by
  show eN 12 t++(4,[44])::oe (q::l)=_;rw[qFt q l]; rfl
def qKI{L:List Tok}:∀ (l:List TT),(∀ t∈l,WF 12 t)->∀ (f:Nat) (s:RS) (acc:List TT) (rest:List TW),l.length<f->Pos L s (qB l++(4,[41])::rest) ->
  gT (gi L 13 1) L [41] f s acc=(acc++l,fA s ((qB l).length+1))
 |[],_,0,s,acc,rest,A,_=>by simp at A
 |[],_,f+1,s,acc,rest,A,h=>by
  have h:Pos L s ((4,[41])::rest):=h;unfold gT;rw[bA (by rw[h.is]; decide),h.vJ,fa]; rfl
 |t::l,w,0,s,acc,rest,A,_=>by simp at A
 |t::l,w,f+1,s,acc,rest,A,h=>by
  have h:Pos L s ((4,[44])::(eN 12 t++(qB l++(4,[41])::rest))):=by
   have:=h;simp only[qB,qL,eH] at this;exact this
  obtain⟨e,_⟩:=U0 L (w t bR) (bJ s) _ h.next;have M:=qKI l (λx hx=>w x (by simp[hx])) f (fA (bJ s) (eN 12 t).length) (acc++[t]) rest (by simp at A; omega) h.next.Cw;unfold gT;rw[bF (by rw[h.is]; rfl),e,M,AV,vz,vz,eH]
  congr 2
  simp[qB]; omega
def qVG{L:List Tok}{l:List TT}(w:∀ t∈l,WF 12 t){s:RS}{rest:List TW}(h:Pos L s (oe l++(4,[41])::rest)) :
  gJ (gi L 13 1) L [41] s=(l,fA s ((oe l).length+1)):=by
 cases l with
 |nil =>
  have h:Pos L s ((4,[41])::rest):=h;unfold gJ;rw[bF (by rw[h.is]; rfl)]; rfl
 |cons t l =>
  rw[qFt] at h ⊢;obtain⟨k,x,q,hq,hk⟩:=Vj (w t bR);have hn:dU 4 L s [41]=false:=by
   have A:=h;rw[hq] at A;have A:Pos L s ((k,x)::(q++qB l++(4,[41])::rest)):=A;rw[A.is]
   rcases hk with rfl|⟨rfl,rfl⟩ <;> rfl
  have M:Pos L s (eN 12 t++(qB l++(4,[41])::rest)):=by rw[<- eH]; exact h
  obtain⟨e,_⟩:=U0 L (w t bR) s _ M;have hlen:l.length<L.length+2:=by
   have:=qMg M.Cw;have:∀ l:List TT,l.length<=(qB l).length:=λl=>by
    induction l with
    |nil=>exact cB _
    |cons t l U=>simp only[qB,di,bV]; omega
   have:=this l;omega
  have U:=qKI l (λx hx=>w x (by simp[hx])) (L.length+2) (fA s (eN 12 t).length) [t] rest hlen M.Cw;unfold gJ;rw[bA (by rw[hn]; decide),e];show gT (gi L 13 1) L [41] (L.length+2) (fA s (eN 12 t).length) [t]=_;rw[U,vz]
  congr 2
  rw[bV]; omega
abbrev En:=(LB×TT) ⊕ GS
def yh:LB:=[102,110]
def l9:En->List TW
 |.inl p=>(1,ja)::(1,p.1)::(4,[61])::(eN 12 p.2++[(4,[59])])
 |.inr g=>(1,yh)::(1,g.nm)::(4,[40])::(oe g.pr.list++(4,[41])::(4,[45,62])::(eN 12 g.rs++[(4,[59])]))
def sZ:En->Prop
 |.inl p=>fK p.1=true/\WF 12 p.2
 |.inr g=>fK g.nm=true/\(∀ t∈g.pr.list,WF 12 t)/\WF 12 g.rs/\g.pr=grown g.pr.list
def RR:En->Option (LB×TT)
 |.inl p=>some p
 |.inr _=>none
def SE:En->Option GS
 |.inl _=>none
 |.inr g=>some g
def Ts(E:List En):Es:=E.filterMap RR
def Fs(E:List En):Gs:=E.filterMap SE
def qXW{L:List Tok}{p:LB×TT}(w:WF 12 p.2){s:RS}{rest:List TW}(h:Pos L s (l9 (.inl p)++rest))(ns:Es)(gs:Gs)(f:Nat) :
  jL (gi L 13 1) L (f+1) s ns gs=jL (gi L 13 1) L f (fA s (l9 (.inl p)).length) (ns++[p]) gs:=by
 have h:Pos L s ((1,ja)::(1,p.1)::(4,[61])::(eN 12 p.2++(4,[59])::rest)):=by
  have:=h;simp only[l9,qL,eH,kK] at this;exact this
 have M:=h.Du.1;obtain⟨U,e3⟩:=h.next.sep;have A:Pos L (fA (bJ s) 2) (eN 12 p.2++(4,[59])::rest):=h.next.next.next;obtain⟨e5,_⟩:=U0 L w _ _ A;have e6:gk L (fA (fA (bJ s) 2) (eN 12 p.2).length)=bJ (fA (fA (bJ s) 2) (eN 12 p.2).length):=A.Cw.vJ
 conv=>lhs; unfold jL
 rw[bF ⟨h.1,h.lt⟩,bF M,U,e3,e5,e6];simp only[AV,vz]
 congr 2
 simp[l9]; omega
def qXO{L:List Tok}{g:GS}(w:sZ (.inr g)){s:RS}{rest:List TW}(h:Pos L s (l9 (.inr g)++rest))(ns:Es)(gs:Gs)(f:Nat) :
  jL (gi L 13 1) L (f+1) s ns gs=jL (gi L 13 1) L f (fA s (l9 (.inr g)).length) ns (gs++[g]):=by
 have h:Pos L s ((1,yh)::(1,g.nm)::(4,[40])::(oe g.pr.list++(4,[41])::((4,[45,62])::(eN 12 g.rs++(4,[59])::rest)))):=by
  have:=h;simp only[l9,qL,eH,kK] at this;exact this
 have U:dU 1 L s ja=false:=by rw[h.is]; rfl
 have e0:nB L s=bJ s:=h.DO;obtain⟨e2,e3⟩:=h.next.sep;have M:Pos L (fA (bJ s) 2) (oe g.pr.list++(4,[41])::((4,[45,62])::(eN 12 g.rs++(4,[59])::rest))):=h.next.next.next;have e4:=qVG w.2.1 M;have A:Pos L (fA (fA (bJ s) 2) ((oe g.pr.list).length+1)) ((4,[45,62])::(eN 12 g.rs++(4,[59])::rest)):=by
  have:=Pos.Cw (a:=oe g.pr.list++[(4,[41])]) (b:=(4,[45,62])::(eN 12 g.rs++(4,[59])::rest)) (s:=fA (bJ s) 2) (L:=L) (by rw[eH]; exact M);rw[bV] at this;exact this
 have e6:kQ L (fA (fA (bJ s) 2) ((oe g.pr.list).length+1))=bJ (fA (fA (bJ s) 2) ((oe g.pr.list).length+1)):=A.vJ;obtain⟨e7,_⟩:=U0 L w.2.2.1 _ _ A.next;have e8:gk L (fA (bJ (fA (fA (bJ s) 2) ((oe g.pr.list).length+1))) (eN 12 g.rs).length)=_:=A.next.Cw.vJ;have es:ph (gi L 13 1) L (nB L s)=(g,fA (bJ (fA (fA (bJ s) 2) ((oe g.pr.list).length+1))) (eN 12 g.rs).length):=by
  rw[e0];unfold ph;rw[e3,e2,e4,e6,e7];have hg:(⟨g.nm,grown g.pr.list,g.rs⟩:GS)=g:=by rw[<- w.2.2.2]
  exact Prod.ext hg rfl
 conv=>lhs; unfold jL
 rw[bF ⟨h.1,h.lt⟩,bA (by rw[U]; decide),es,e8];simp only[AV,vz]
 congr 2
 simp[l9]; omega
def ZC{L:List Tok}:∀ (E:List En),(∀ e∈E,sZ e)->∀ (f:Nat) (s:RS) (ns:Es) (gs:Gs),E.length<f->Pos L s (E.flatMap l9) ->
  jL (gi L 13 1) L f s ns gs=((ns++Ts E,gs++Fs E),fA s (E.flatMap l9).length)
 |[],_,0,s,ns,gs,A,_=>by simp at A
 |[],_,f+1,s,ns,gs,A,h=>by
  have hp:=Pos.nil h;unfold jL;rw[bA (λM=>bn)];simp[Ts,Fs]; rfl
 |e::E,w,0,s,ns,gs,A,_=>by simp at A
 |.inl p::E,w,f+1,s,ns,gs,A,h=>by
  rw[eJ] at h ⊢;rw[qXW (w (.inl p) bR).2 h ns gs f,ZC E (λe he=>w e (by simp[he])) f _ _ _ (by simp at A; omega) h.Cw,vz,bV];simp[Ts,Fs,RR];rfl
 |.inr g::E,w,f+1,s,ns,gs,A,h=>by
  rw[eJ] at h ⊢;rw[qXO (w (.inr g) bR) h ns gs f,ZC E (λe he=>w e (by simp[he])) f _ _ _ (by simp at A; omega) h.Cw,vz,bV];simp[Ts,Fs,SE];rfl
def vF(main:TT)(E:List En):List TW:=(1,sA)::(eN 12 main++(4,[59])::E.flatMap l9)
def qQw{src:LB}{main:TT}{E:List En}(hm:WF 12 main)(w:∀ e∈E,sZ e)(h0:(bP src).2=0)(hw:(bP src).1.map tw=vF main E) :
  kZ src=(main,fA (qf src) (1+(eN 12 main).length))/\ff src=((Ts E,Fs E),fA (qf src) (vF main E).length):=by
 have P:Pos (bP src).1 (qf src) (vF main E):=⟨h0,by show((bP src).1.map tw).drop 0=_; rw[eI,hw]⟩;unfold vF at P;have e1:vL (bP src).1 (qf src)=bJ (qf src):=P.DO;obtain⟨e2,_⟩:=U0 (bP src).1 hm _ _ P.next;have A:kZ src=(main,fA (qf src) (1+(eN 12 main).length)):=by
  unfold kZ;rw[e1,e2,AV,vz]
 refine⟨A,?_⟩;have M:Pos (bP src).1 (fA (qf src) (1+(eN 12 main).length)) ((4,[59])::E.flatMap l9):=by
  rw[<- vz,<- AV]; exact P.next.Cw
 have e5:gk (bP src).1 (fA (qf src) (1+(eN 12 main).length))=bJ (fA (qf src) (1+(eN 12 main).length)):=M.vJ;have hl:E.length<(bP src).1.length+2:=by
  have U:=dh List.length hw;rw[dj] at U;rw[U];have:∀ E:List En,E.length<=(E.flatMap l9).length:=λE=>by
   induction E with
   |nil=>exact cB _
   |cons e E ih =>
    rw[eJ,bV,di];have:1<=(l9 e).length:=by cases e <;> simp[l9]
    omega
  have:=this E;unfold vF;simp only[di,bV];omega
 unfold ff;rw[A,e5,ZC E w _ _ [] [] hl M.next,AV,vz,vz];simp only[kK]
 congr 2
 unfold vF;simp only[di,bV]; omega
def Xc{α:Type}(lt:α->α->Bool):∀ (l Z:List α),(l.Pairwise λp q=>lt p q=true)->Ord lt Z->Z.Perm l->Z=l
 |[],Z,_,_,p=>vf.1 p
 |a::l,[],_,_,p=>by have:=p.length_eq; simp at this
 |a::l,z::Z,s,o,p=>by
  have s':=kv.1 s;have o':=kv.1 o;have e:z=a:=by
   rcases dK.1 (p.mem_iff.1 (iR)) with e|hz
   ·exact e
   ·rcases dK.1 (p.mem_iff.2 (iR (a:=a) (l:=l))) with e|M
    ·exact e.symm
    ·have h1:=s'.1 z hz;have A:=o'.1 a M;rw[h1] at A; cases A
  subst e;rw[Xc lt l Z s'.2 o'.2 (Fj p)]
def qSy{Z:Es}(o:Ord pP Z)(hn:(Z.map (·.1)).Nodup):Z.Pairwise λp q=>pP p q=true:=by
 rw[List.Nodup,pD] at hn;refine(o.and hn).imp λ{p q} h=>?_
 cases hc:pP p q
 ·exact absurd (Vl _ _ hc h.1) h.2
 ·rfl
def qPB{Z:Es}(h:Z.Pairwise λp q=>pP p q=true):jP Z:=λi p q hp A=>by
 obtain⟨h1,M⟩:=cQ.1 hp;obtain⟨U,e2⟩:=cQ.1 A;have:=xI.1 h i (i+1) h1 U bn;rw[M,e2] at this;exact this
def qLU{Z:Es}(h:Z.Pairwise λp q=>pP p q=true):(Z.map (·.1)).Nodup:=by
 rw[List.Nodup,pD];refine h.imp λ{p q} h e=>?_
 unfold pP at h;rw[e,Vk] at h; cases h
def qVg{Z:Es}(o:Ord pP Z)(j:Nat)(hj:j+1<Z.length):RI Z j (j+1):=λp q hp A=>by
 obtain⟨h1,M⟩:=cQ.1 hp;obtain⟨U,e2⟩:=cQ.1 A;have:=xI.1 o j (j+1) h1 U bn;rw[M,e2] at this;exact this
def UU{Z es:Es}(o:Ord pP Z)(p:Z.Perm es):(qb Z false Z.length=false↔(es.map (·.1)).Nodup):=by
 have pm:=(p.map (·.1)).nodup_iff;constructor
 ·intro h;exact pm.1 (qLU (qFZ (qJQ (XL _ _ _ h).2 (qVg o))))
 ·intro h;exact ZU (qPB (qSy o (pm.2 h))) false _
def gE(g:GS):LB×TT:=(g.nm,g.rs)
def Zy(l:Gs)(b:Bool):∀ n,yk l b n=qb (l.map gE) b n
 |0=>rfl
 |n+1=>by
  show(yk l b n||Cx l n)=(qb (l.map gE) b n||qQ (l.map gE) n);rw[Zy l b n]
  congr 1
  cases n with
  |zero=>rfl
  |succ j =>
   show(match l[j]?,l[j+1]? with|some q,some p=>decide (q.nm=p.nm)|_,_=>false)=(match (l.map gE)[j]?,(l.map gE)[j+1]? with|some q,some p=>decide (q.1=p.1)|_,_=>false);rw[dP,dP];cases l[j]? <;> cases l[j+1]? <;> rfl
def qPd{Z:Gs}(o:Ord Yv Z):Ord pP (Z.map gE):=pD.2 o
def qWL(l:Gs):(l.map gE).map (·.1)=l.map (·.nm):=by rw[fU]; rfl
def qVX{Z gs:Gs}(o:Ord Yv Z)(p:Z.Perm gs):(yk Z false Z.length=false↔(gs.map (·.nm)).Nodup):=by
 rw[Zy,<- qWL,<- UU (qPd o) (p.map gE),dj]
def qUq{L:List Tok}{s:RS}(he:s.e=0)(hp:L.length<=s.p):nV (mO L s)=if s.tw=true then 6 else 0:=by
 unfold mO;rw[cI hp];unfold cU nV;rw[bF rfl,bA (λA=>A he)]
def qK9{src:LB}{main:TT}{E:List En}(hm:WF 12 main)(w:∀ e∈E,sZ e)(h0:(bP src).2=0)(hw:(bP src).1.map tw=vF main E)(hl:E.length<=1000) :
  (((Ts E).map (·.1)).Nodup/\((Fs E).map (·.nm)).Nodup->lX src=0/\rh src=⟨main,jk (cL (Ts E)),jk (cT (Fs E))⟩)/\(¬ (((Ts E).map (·.1)).Nodup/\((Fs E).map (·.nm)).Nodup)->lX src=6):=by
 obtain⟨e1,e2⟩:=qQw hm w h0 hw;have hlen:(bP src).1.length=(vF main E).length:=by rw[<- hw,dj]
 have lT:(Ts E).length<=1000:=qa (Fi _ _) hl;have lF:(Fs E).length<=1000:=qa (Fi _ _) hl;have hR:ri src=((main,cL (Ts E),cT (Fs E)),{ fA (qf src) (vF main E).length with tw:=yk (cT (Fs E)) (qb (cL (Ts E)) false (cL (Ts E)).length) (cT (Fs E)).length }):=by
  unfold ri;rw[e1,e2]; rfl
 have A:=UU (Yo (Ts E) lT).1 (Sw (Ts E));have M:=qVX (Yp (Fs E) lF).1 (Sv (Fs E));have U:lX src=if yk (cT (Fs E)) (qb (cL (Ts E)) false (cL (Ts E)).length) (cT (Fs E)).length=true then 6 else 0:=by
  unfold lX;rw[hR,qUq (by exact h0) (by show _<=0+_; omega)]
 have mono:∀ (n:Nat) (l:Gs),yk l true n=true:=λn l=>by
  induction n with
  |zero=>rfl
  |succ n ih=>show(yk l true n||_)=true; rw[ih]; rfl
 refine⟨λhn=>?_,λhn=>?_⟩
 ·have e0:lX src=0:=by rw[U,A.2 hn.1,M.2 hn.2]; rfl
  refine⟨e0,?_⟩;unfold rh;rw[bF e0,hR]
 ·rw[U];cases hc:qb (cL (Ts E)) false (cL (Ts E)).length with
  |true=>rw[mono]; rfl
  |false =>
   cases hd:yk (cT (Fs E)) false (cT (Fs E)).length with
   |true=>rfl
   |false=>exact absurd ⟨A.1 hc,M.1 hd⟩ hn
def vT(t:Tok):Prop:=(t.kind=1->fK t.text=true)/\(t.kind=4->fK t.text=false)/\(t.kind=1\/t.kind=2\/t.kind=4\/t.text=[])
def Ol:vT Tok.zero:=⟨cb,cb,.inr (.inr (.inr rfl))⟩
def qFS:∀ (n:Nat) (s acc:LB) (i:Nat),s.length<=n->(fc s acc i).t.kind=2\/(fc s acc i).t=Tok.zero
 |_,[],acc,i,_=>.inr rfl
 |_,[c],acc,i,_=>by
  unfold fc;split
  ·exact .inr rfl
  split
  ·split
   ·exact .inr rfl
   ·exact .inl rfl
  ·exact .inr rfl
 |0,c::d::s,acc,i,h=>by simp at h
 |n+1,c::d::s,acc,i,h=>by
  have h:s.length+2<=n+1:=h;unfold fc;split
  ·exact .inr rfl
  split
  ·split
   ·exact .inr rfl
   ·exact .inl rfl
  split
  ·split
   ·exact .inr rfl
   ·exact qFS n _ _ _ bn
  ·exact qFS n _ _ _ cM
def qRL:∀ n:Nat,iK n=true->dR n=false:=λn h=>by
 unfold iK at h;simp only[qP,xN] at h
 rcases h with (((((((((((h|h)|h)|h)|h)|h)|h)|h)|h)|h)|h)|h)|h <;> subst h <;> rfl
def qW4(s:LB):vT (lh s).t:=by
 refine⟨qJJ s,?_⟩;cases s with
 |nil=>exact Ol.2
 |cons c r =>
  have e:lh (c::r)=if dR c.toNat=true then pj (c::r) else if eE (c::r)=true then fL (c::r) else if c.toNat=34 then kF (c::r) else ig (c::r):=rfl
  rw[e];split
  ·unfold pj;split
   ·exact Ol.2
   ·exact⟨cb,.inl rfl⟩
  split
  ·unfold fL;split
   ·exact Ol.2
   split
   ·exact Ol.2
   ·exact⟨cb,.inr (.inr (.inr rfl))⟩
  split
  ·rcases qFS _ ((c::r).drop 1) [] 1 (cB _) with h|h
   ·exact⟨λA=>(by rw[show(kF (c::r)).t.kind=2 from h] at A; cases A),.inr (.inl h)⟩
   ·show((kF (c::r)).t.kind=4->_)/\_;rw[show(kF (c::r)).t=Tok.zero from h];exact Ol.2
  ·unfold ig;split
   ·exact⟨λ_=>bu,.inr (.inr (.inl rfl))⟩
   split
   ·exact⟨λ_=>bu,.inr (.inr (.inl rfl))⟩
   ·dsimp only;split
    ·rename_i hs;refine⟨λ_=>?_,.inr (.inr (.inl rfl))⟩;show(dR c.toNat&&_&&_)=false;rw[qRL _ hs]; rfl
    ·exact Ol.2
def kY(L:List Tok):Prop:=∀ t∈L,vT t
def qJf:∀ (f:Nat) (s:LB) (i:Nat) (acc l:List Tok),kY acc->eu f s i acc = .ok l->kY l
 |0,s,i,acc,l,h,e=>by cases e; exact h
 |f+1,s,i,acc,l,h,e=>by
  rw[eu] at e;dsimp only at e;split at e
  ·cases e; exact h
  ·rename_i c r hs;split at e
   ·refine qJf f _ _ _ l ?_ e;intro t ht
    rcases fb.1 ht with h1|h1
    ·exact h t h1
    ·rw[fY.1 h1];exact qW4 _
   ·cases e
def qOa(src:LB):kY (bP src).1:=by
 unfold bP;split
 ·intro t ht; cases ht
 ·rename_i l he;unfold jO at he;split at he
  ·cases he
  ·unfold ka at he;split at he
   ·cases he
   ·rename_i M A;split at he
    ·cases he
    ·cases he;exact qJf _ _ _ _ _ (λt ht=>by cases ht) A
def qMx{L:List Tok}(v:kY L)(s:RS):vT (cq L s):=by
 by_cases A:s.e=0/\s.p<L.length
 ·rw[U4 A.1 (fQ A.2)];exact v _ (qO A.2)
 ·rw[zr A]; exact Ol
def CM{L:List Tok}(v:kY L)(s:RS)(x:LB)(hx:x≠[])(hn:fK x=false):eS L s x=dU 4 L s x:=by
 obtain⟨v1,v2,v3⟩:=qMx v s;unfold eS dU;generalize cq L s=t at *;by_cases ht:t.text=x
 ·subst ht;rw[cI rfl,gS,xP]
  rcases v3 with h|h|h|h
  ·rw[v1 h] at hn; cases hn
  ·rw[h]; rfl
  ·rw[h]; rfl
  ·exact absurd h hx
 ·rw[de ht,fH,lM]
def qHG{L:List Tok}(v:kY L)(s:RS)(x:LB)(hn:fK x=true):eS L s x=dU 1 L s x:=by
 obtain⟨v1,v2,v3⟩:=qMx v s;unfold eS dU;generalize cq L s=t at *;by_cases ht:t.text=x
 ·subst ht;rw[cI rfl,gS,xP]
  rcases v3 with h|h|h|h
  ·rw[h]; rfl
  ·rw[h]; rfl
  ·rw[v2 h] at hn; cases hn
  ·rw[h] at hn; cases hn
 ·rw[de ht,fH,lM]
def JS(L:List Tok)(s:RS)(k:Int)(x:LB)(h:eS L s x=dU k L s x):bH L s x=cU (bZ k L s x) (dU k L s x):=by
 unfold bH cU bZ;rw[h];cases dU k L s x <;> rfl
def Qc(c:Bool)(s r:RS):Prop:=s.e=r.e/\(s.e=0->s.p=r.p/\r.tw=(s.tw||c))
def Qc.jH{c:Bool}{s r:RS}(q:Qc c s r)(L:List Tok):cq L s=cq L r:=by
 unfold cq;rw[<- q.1];by_cases he:s.e=0
 ·rw[bF he,bF he,(q.2 he).1]
 ·rw[bA he,bA he]
def Qc.is{c:Bool}{s r:RS}(q:Qc c s r)(L:List Tok)(k:Int)(x:LB):dU k L s x=dU k L r x:=by unfold dU; rw[q.jH L]
def Qc.FG{c:Bool}{s r:RS}(q:Qc c s r)(L:List Tok)(x:LB):eS L s x=eS L r x:=by unfold eS; rw[q.jH L]
def Qc.fail{c:Bool}{s r:RS}(q:Qc c s r)(e:Int)(he:e≠0):Qc c (b9 s e) (b9 r e):=by
 unfold b9;by_cases h:s.e=0
 ·rw[bF h,bF (q.1▸h)];exact⟨rfl,λh0=>absurd h0 he⟩
 ·rw[bA h,bA (q.1▸h)];exact q
def Qc.next{c:Bool}{s r:RS}(q:Qc c s r):Qc c (bJ s) (bJ r):=⟨q.1,λh=>⟨by show s.p+1=r.p+1; rw[(q.2 h).1],(q.2 h).2⟩⟩
def Qc.ui{c:Bool}{s r:RS}{L:List Tok}(v:kY L)(q:Qc c s r)(x:LB)(hx:x≠[])(hn:fK x=false):Qc c (cU (bZ 4 L s x) (dU 4 L s x)) (bH L r x):=by
 rw[<- JS L s 4 x (CM v s x hx hn)];unfold bH;rw[q.FG L x];split
 ·exact q.next
 ·exact q.fail 12 bu
def qI8(s:RS)(a b:Int)(A:a≠0):b9 (b9 s a) b=b9 s a:=by
 have:(b9 s a).e≠0:=by
  unfold b9;split
  ·exact A
  ·rename_i h; exact h
 unfold b9 at this ⊢;rw[bA this]
abbrev xY(l:Es):Prop:=l.Pairwise λp q=>pP p q=true
def qVD{a b c:LB×TT}(h1:pP a b=true)(A:pP b c=true):pP a c=true:=by
 cases h:pP a c
 ·have:=qMc b c a (qNB _ _ A) h;rw[h1] at this; cases this
 ·rfl
def qVB{l:Es}{n:LB}(h:iY l n=true):n∈l.map (·.1):=by
 unfold iY at h;split at h
 ·rename_i q A;have:=mY A;rw[dF] at h;exact fk.2 ⟨q,this,h⟩
 ·cases h
def qVS{l:Es}(st:xY l){n:LB}(h:iY l n=false):n∉l.map (·.1):=by
 intro hm;obtain⟨q,A,e⟩:=fk.1 hm;obtain⟨j,hj⟩:=xU.1 A;have M:=(cQ.1 hj).1
 rcases Nat.lt_trichotomy j (cu n l) with h1|h1|h1
 ·have:=Sq n l j q h1 hj;rw[e,Vk] at this; cases this
 ·unfold iY at h;rw[<- h1,hj] at h;have h:decide (q.1=n)=false:=h;rw[cI e] at h; cases h
 ·obtain⟨p,hp⟩:∃ p,l[cu n l]?=some p:=⟨l[cu n l]'bn,bR⟩;have hb:=Sc n l p hp;obtain⟨a1,a2⟩:=cQ.1 hp;obtain⟨U,b2⟩:=cQ.1 hj;have:=xI.1 st _ _ a1 U h1;rw[a2,b2] at this;unfold pP at this;rw[e,hb] at this; cases this
def qJ8(l:Es)(p:LB×TT):(iX l p).Perm (l++[p]):=by
 unfold iX;refine vg.trans ?_;rw[mI];exact xL (l₁:=[p]) (l₂:=l)
def qMs{l:Es}(st:xY l)(p:LB×TT)(h:iY l p.1=false):xY (iX l p):=by
 have hs:=st;rw[<- mI (cu p.1 l) l] at hs;obtain⟨s1,s2,s3⟩:=iQ.1 hs;have lo:∀ a∈l.take (cu p.1 l),pP a p=true:=λa U=>by
  obtain⟨i,hi⟩:=xU.1 U;have A:i<cu p.1 l:=by
   have:=(cQ.1 hi).1;rw[ji] at this; omega
  rw[Fc A] at hi;exact Sq p.1 l i a A hi
 have hi:∀ b∈l.drop (cu p.1 l),pP p b=true:=λb hb=>by
  cases hd:l.drop (cu p.1 l) with
  |nil=>rw[hd] at hb; cases hb
  |cons q r =>
   have hq:l[cu p.1 l]?=some q:=by
    have:(l.drop (cu p.1 l))[0]?=some q:=by rw[hd]; rfl
    rwa [n6,gH] at this
   have h1:=Sc p.1 l q hq;have h2:q.1≠p.1:=λe=>by
    unfold iY at h;rw[hq] at h;have h:decide (q.1=p.1)=false:=h;rw[cI e] at h; cases h
   have M:pP p q=true:=by
    cases hc:pP p q
    ·exact absurd (Vl _ _ hc h1).symm h2
    ·rfl
   rw[hd] at hb s2
   rcases dK.1 hb with rfl|hb
   ·exact M
   ·exact qVD M ((kv.1 s2).1 b hb)
 unfold iX;refine iQ.2 ⟨s1,kv.2 ⟨hi,s2⟩,λa U b hb=>?_⟩
 rcases dK.1 hb with rfl|hb
 ·exact lo a U
 ·exact s3 a U b hb
def jg(l:Es):Bool := !decide (l.map (·.1)).Nodup
def qI0{l acc:Es}(hp:l.Perm acc)(st:xY l)(hd:jg acc=false)(p q:LB×TT)(A:q.1=p.1):jg (acc++[q])=iY l p.1:=by
 have M:(acc.map (·.1)).Nodup:=by unfold jg at hd; simpa using hd
 unfold jg;rw[gG,Fg,A];cases h:iY l p.1 with
 |true =>
  have hm:p.1∈acc.map (·.1):=(hp.map (·.1)).mem_iff.1 (qVB h)
  rw[de (λhn=>by
   rw[yW] at hn
   exact hn.2.2 p.1 hm p.1 bR rfl)]
  rfl
 |false =>
  have hm:p.1∉acc.map (·.1):=λU=>qVS st h ((hp.map (·.1)).mem_iff.2 U)
  rw[cI (by
   rw[yW]
   exact⟨M,bR,λa ha b hb e=>hm (by rw[fY.1 hb] at e; rw[<- e]; exact ha)⟩)]
  rfl
def qI2{acc:Es}(h:jg acc=true)(q:LB×TT):jg (acc++[q])=true:=by
 unfold jg at h ⊢;cases hd:decide ((acc++[q]).map (·.1)).Nodup with
 |false=>rfl
 |true =>
  rw[dF,gG,yW] at hd;rw[cI hd.1] at h; cases h
structure oL (L:List Tok) (sub ch:RS->TT×RS):Prop where
 alike:∀ c s r,I1 L s->Qc c s r->Qc c (sub s).2 (ch r).2/\((sub s).2.e=0->(ch r).2.tw=false->(sub s).1=(ch r).1)
 mono:∀ r,r.tw=true->(ch r).2.tw=true
 eb:∀ r,(ch r).2.e=0->r.e=0
 dY:∀ s,s.e≠0->(sub s).2.e=s.e
def tn(L:List Tok)(s:RS)(x:LB):(bH L s x).tw=s.tw:=by
 unfold bH;split
 ·rfl
 ·exact R9 s 12
def OC{L:List Tok}{s:RS}{x:LB}(h:(bH L s x).e=0):s.e=0:=by
 unfold bH at h;split at h
 ·exact h
 ·exact(CJ bu h).elim
def Oe(L:List Tok)(s:RS):(dN L s).2.tw=s.tw:=by
 unfold dN;split
 ·rfl
 ·exact R9 s 12
def qRM{sub ch:RS->TT×RS}{L:List Tok}(v:kY L)(Q:oL L sub ch){c:Bool}{s r:RS}(hp:s.p<=L.length)(q:Qc c s r) :
  Qc c (dz sub L s).2 (fG ch L r).2/\((dz sub L s).2.e=0->(dz sub L s).1.1=(fG ch L r).1.1/\((fG ch L r).2.tw=false->(dz sub L s).1=(fG ch L r).1/\r.tw=false)):=by
 have hc:Qc c (jh L s) (bH L (dN L r).2 [58])/\((jh L s).e=0->(cq L s).text=(dN L r).1):=by
  have hn:Qc c (dQ L s) (dN L r).2/\((dQ L s).e=0->(cq L s).text=(dN L r).1):=by
   unfold dQ dN;rw[q.jH L];by_cases M:(cq L r).kind=1
   ·rw[bF M,cI M];exact⟨q.next,λ_=>rfl⟩
   ·rw[bA M,de M];have hf:=q.fail 12 bu;have he:(b9 s 12).e≠0:=λh=>CJ bu h
    exact⟨⟨hf.1,λh=>absurd h he⟩,λh=>absurd h he⟩
  refine⟨hn.1.ui v [58] bu rfl,λh=>hn.2 ?_⟩;have:(cU (bZ 4 L (dQ L s) [58]) (dU 4 L (dQ L s) [58])).e=0:=h;rw[<- JS L (dQ L s) 4 [58] (CM v _ _ bu rfl)] at this;exact OC this
 obtain⟨a,b⟩:=Q.alike c _ _ (JE hp).1 hc.1;refine⟨a,λhe=>?_⟩;have U:(ch (bH L (dN L r).2 [58])).2.e=0:=by rw[<- a.1]; exact he
 have A:(jh L s).e=0:=by rw[hc.1.1]; exact Q.eb _ U
 refine⟨hc.2 A,λht=>⟨Prod.ext (hc.2 A) (b he ht),?_⟩⟩;cases hr:r.tw with
 |false=>rfl
 |true =>
  have:=Q.mono (bH L (dN L r).2 [58]) (by rw[tn,Oe]; exact hr);rw[show(ch (bH L (dN L r).2 [58])).2.tw=false from ht] at this; cases this
def vW(c:Bool)(s:RS)(acc:Es)(r:RS)(l:Es):Prop:=Qc (c||jg acc) s r/\(s.e=0->r.tw=false->l.Perm acc/\xY l)
def qJd{sub ch:RS->TT×RS}{L:List Tok}(v:kY L)(Q:oL L sub ch){c:Bool}{s r:RS}{acc l:Es}(hp:s.p<=L.length)(I:vW c s acc r l) :
  vW c (dz sub L s).2 (acc++[(dz sub L s).1]) (lW l (fG ch L r).1.1 (fG ch L r).2) (iX l (fG ch L r).1):=by
 obtain⟨q,hI⟩:=I;obtain⟨a,b⟩:=qRM v Q hp q;generalize dz sub L s=F at *;generalize hG:fG ch L r=G at *;have eb:F.2.e=0->s.e=0:=λh=>by
  rw[q.1];have A:G.2.e=0:=by rw[<- a.1]; exact h
  rw[<- hG] at A;have U:=OC (Q.eb _ A);unfold dN at U;split at U
  ·exact U
  ·exact(CJ bu U).elim
 by_cases he:F.2.e=0
 ·obtain⟨b1,b2⟩:=b he;obtain⟨a1,a2⟩:=a.2 he;have key:(G.2.tw||iY l G.1.1)=(F.2.tw||(c||jg (acc++[F.1])))/\((G.2.tw||iY l G.1.1)=false->(iX l G.1).Perm (acc++[F.1])/\xY (iX l G.1)):=by
   cases hg:G.2.tw with
   |true =>
    refine⟨?_,cb⟩;rw[hg] at a2;cases M:F.2.tw with
    |true=>rfl
    |false =>
     cases hc:c with
     |true=>rfl
     |false =>
      have:jg acc=true:=by rw[M,hc] at a2; simpa using a2.symm
      rw[qI2 this]; rfl
   |false =>
    obtain⟨b3,b4⟩:=b2 hg;obtain⟨h1,A⟩:=hI (eb he) b4;rw[hg] at a2;have M:F.2.tw=false/\c=false/\jg acc=false:=by
     revert a2;cases F.2.tw <;> cases c <;> cases jg acc <;> simp
    have hd:=qI0 h1 A M.2.2 G.1 F.1 b1;rw[M.1,M.2.1,hd];refine⟨rfl,λh=>?_⟩;rw[lP] at h;refine⟨?_,qMs A G.1 h⟩;rw[b3];exact(qJ8 l G.1).trans (h1.append_right _)
  exact⟨⟨a.1,λ_=>⟨a1,key.1⟩⟩,λ_=>key.2⟩
 ·exact⟨⟨a.1,λh=>absurd h he⟩,λh=>absurd h he⟩
def uf(ch:RS->TT×RS)(L:List Tok)(f:Nat)(r:RS)(l:Es):Es×RS:=if eS L r [44]=true then gF ch L f (bH L r [44]) l else (l,r)
def qHw(ch:RS->TT×RS)(L:List Tok)(f:Nat)(r:RS)(l:Es)(h:zl L r l=true):gF ch L (f+1) r l=uf ch L f (lW l (fG ch L r).1.1 (fG ch L r).2) (iX l (fG ch L r).1):=by
 conv=>lhs; unfold gF
 rw[bF h];rfl
def qO7(l:Es)(p:LB×TT):(iX l p).isEmpty=false:=by unfold iX; cases l.take (cu p.1 l) <;> rfl
def qHm{sub ch:RS->TT×RS}{L:List Tok}(v:kY L)(Q:oL L sub ch)(inv:Inv L sub){c:Bool}:∀ (f g:Nat) (s r:RS) (acc l:Es),vW c s acc r l->l.isEmpty=false->I1 L s->(s.e=0->L.length+1 - s.p<f)->(s.e=0->L.length+1 - s.p<g) ->
  vW c (gu sub L [125] f s acc).2 (gu sub L [125] f s acc).1 (bH L (uf ch L g r l).2 [125]) (uf ch L g r l).1
 |0,g,s,r,acc,l,A,hl,I,hf,hg=>by
  have he:s.e≠0:=λh=>by have:=hf h; omega
  obtain⟨q,hI⟩:=A;unfold gu uf;have hr:eS L r [44]=false:=by
   cases hh:eS L r [44] with
   |false=>rfl
   |true=>exact absurd (q.1▸(zu bu hh).1) he
  rw[hr,bA bu];have h2:bH L r [125]=b9 r 12:=by
   unfold bH;rw[bA (λhh=>he (by rw[q.1]; exact(zu bu hh).1))]
  have h3:b9 r 12=r:=by unfold b9; rw[bA (λh=>he (by rw[q.1]; exact h))]
  show vW c s acc (bH L r [125]) l;rw[h2,h3];exact⟨q,hI⟩
 |f+1,g,s,r,acc,l,A,hl,I,hf,hg=>by
  obtain⟨q,hI⟩:=A;have M:dU 4 L s [44]=eS L r [44]:=by rw[<- CM v s [44] bu rfl,q.FG L]
  unfold gu;cases h:dU 4 L s [44] with
  |false =>
   rw[h] at M;unfold uf;rw[<- M,bA bu,bA bu];have q2:=q.ui v [125] bu rfl;refine⟨q2,λhe ht=>hI ?_ (by rw[tn] at ht; exact ht)⟩;have he:(cU (bZ 4 L s [125]) (dU 4 L s [125])).e=0:=he;rw[<- JS L s 4 [125] (CM v _ _ bu rfl)] at he;exact OC he
  |true =>
   rw[h] at M;obtain⟨g1,g2⟩:=zu bu M.symm;have U:s.e=0:=by rw[q.1]; exact g1
   have hp:=(q.2 U).1;cases g with
   |zero=>have:=hg U; omega
   |succ g =>
    rw[bF rfl];unfold uf;rw[<- M,bF rfl];have rn:bH L r [44]=bJ r:=by unfold bH; rw[<- M]; rfl
    rw[rn];have go:zl L (bJ r) l=true:=by
     unfold zl;rw[hl,fH,cI (show(bJ r).e=0 from g1)]; rfl
    rw[qHw ch L g (bJ r) l go];have A':vW c (bJ s) acc (bJ r) l:=⟨q.next,λhe ht=>hI U ht⟩;have hn:(bJ s).p<=L.length:=(zo bu h).2;have A2:=qJd v Q hn A';obtain⟨I2,p2⟩:=JQ inv hn;have p3:s.p+1<=(dz sub L (bJ s)).2.p:=p2;exact qHm v Q inv f g _ _ _ _ A2 (qO7 _ _) I2 (λ_=>by have:=hf U; omega) (λ_=>by have:=hg U; omega)
def Of{L:List Tok}{s:RS}(hs:s.e≠0)(k:Int)(A:k≠0)(x:LB):dU k L s x=false:=by
 unfold dU;rw[zr (λM=>hs M.1),de (λh:Tok.zero.kind=k=>A h.symm)]; rfl
def JG{L:List Tok}{s:RS}(hs:s.e≠0)(x:LB):(cU (bZ 4 L s x) (dU 4 L s x)).e=s.e:=by
 unfold bZ;rw[Of hs 4 bu x,bA bu];unfold cU b9;rw[bA bu,bA hs]
def Xt{sub ch:RS->TT×RS}{L:List Tok}(Q:oL L sub ch){s:RS}(hs:s.e≠0):(dz sub L s).2.e=s.e:=by
 have A:(dQ L s).e=s.e:=by
  unfold dQ;rw[zr (λM=>hs M.1)];show(cU s false).e=s.e;unfold cU b9;rw[bA bu,bA hs]
 have hc:(jh L s).e=s.e:=by
  unfold jh;rw[JG (by rw[A]; exact hs),A]
 show(sub (jh L s)).2.e=s.e;rw[Q.dY _ (by rw[hc]; exact hs),hc]
def qLB{sub:RS->TT×RS}{L:List Tok}:∀ (f:Nat) (s:RS) (acc:Es),s.e≠0->(gu sub L [125] f s acc).2.e=s.e
 |0,s,acc,hs=>rfl
 |f+1,s,acc,hs=>by
  unfold gu;rw[Of hs 4 bu [44],bA bu];exact JG hs [125]
def qMf{sub ch:RS->TT×RS}{L:List Tok}(Q:oL L sub ch){s:RS}(hs:s.e≠0):(ic sub L [125] s).2.e=s.e:=by
 unfold ic;rw[Of hs 4 bu [125],bA bu,qLB _ _ _ (by rw[Xt Q hs]; exact hs),Xt Q hs]
def Xa(l:Es)(b:Bool):∀ n,qb l b n=(b||qb l false n)
 |0=>by show b=(b||false); rw[oE]
 |n+1=>by
  show(qb l b n||qQ l n)=(b||(qb l false n||qQ l n));rw[Xa l b n,Am]
def qWJ(acc:Es)(hl:acc.length<=1000)(b:Bool):qb (dB acc) b (dB acc).length=(b||jg acc):=by
 rw[Xa]
 congr 1
 have A:=UU (X8 acc hl) (Sm acc);unfold jg;by_cases h:(acc.map (·.1)).Nodup
 ·rw[A.2 h,cI h]; rfl
 ·rw[de h];cases hc:qb (dB acc) false (dB acc).length with
  |true=>rfl
  |false=>exact absurd (A.1 hc) h
def qJZ{sub ch:RS->TT×RS}{L:List Tok}(hL:L.length<=400)(v:kY L)(Q:oL L sub ch)(inv:Inv L sub)(eb:Eb sub)(kd:Int){c:Bool}{s r:RS}(I:I1 L s)(q:Qc c s r) :
  Qc c (jz sub L kd s).2 (kG ch L kd r).2/\((jz sub L kd s).2.e=0->(kG ch L kd r).2.tw=false->(jz sub L kd s).1=(kG ch L kd r).1):=by
 have M:Qc c (iC L s) (bH L r [123]):=q.ui v [123] bu rfl;have I0:I1 L (iC L s):=(sQ [123] I).1
 -- aa rows
 have R:vW c (ic sub L [125] (iC L s)).2 (ic sub L [125] (iC L s)).1 (bH L (gF ch L (L.length+2) (bH L r [123]) []).2 [125]) (gF ch L (L.length+2) (bH L r [123]) []).1:=by
  generalize iC L s=s1 at *;generalize bH L r [123]=A at *;have nil:vW c s1 [] A []:=⟨by rw[show(c||jg [])=c by cases c <;> rfl]; exact M,λ_ _=>⟨.refl _,List.Pairwise.nil⟩⟩;have e1:dU 4 L s1 [125]=eS L A [125]:=by rw[<- CM v s1 [125] bu rfl,M.FG L]
  unfold ic;cases h:dU 4 L s1 [125] with
  |true =>
   rw[h] at e1;obtain⟨g1,g2⟩:=zu bu e1.symm;have go:zl L A []=false:=by
    unfold zl;rw[<- e1];show(decide (A.e=0) && !(true&&true))=false;rw[Bool.and_comm]; rfl
   have hl:gF ch L (L.length+2) A []=([],A):=by
    show gF ch L (L.length+1+1) A []=_;unfold gF;rw[go,bA bu]
   have rn:bH L A [125]=bJ A:=by unfold bH; rw[<- e1]; rfl
   rw[hl,bF rfl];show vW c (bJ s1) [] (bH L A [125]) [];rw[rn];exact⟨nil.1.next,λ_ _=>⟨.refl _,List.Pairwise.nil⟩⟩
  |false =>
   rw[h] at e1;rw[bA bu];by_cases he:s1.e=0
   ·have go:zl L A []=true:=by
     unfold zl;rw[<- e1,cI (by rw[<- M.1]; exact he)]; rfl
    have A2:=qJd v Q (I0.1 he) nil;obtain⟨I2,p2⟩:=JQ inv (I0.1 he)
    have:=qHm v Q inv (L.length+2) (L.length+1) _ _ _ _ A2 (qO7 _ _) I2 (λ_=>bn) (λab=>by
     have h3:s1.p+1<=(dz sub L s1).2.p:=by
      have h4:=(JE (L:=L) (s:=s1) (I0.1 he)).2;have h5:=(inv _ (JE (L:=L) (s:=s1) (I0.1 he)).1).2;exact qa h4 h5
     omega)
    rw[show gF ch L (L.length+2) A []=uf ch L (L.length+1) _ _ from qHw ch L (L.length+1) A [] go];exact this
   ·have go:zl L A []=false:=by
     unfold zl;rw[de (by rw[<- M.1]; exact he)]; rfl
    have hl:gF ch L (L.length+2) A []=([],A):=by
     show gF ch L (L.length+1+1) A []=_;unfold gF;rw[go,bA bu]
    rw[hl];have h2:bH L A [125]=A:=by
     unfold bH;rw[bA (λhh=>he (by rw[M.1]; exact(zu bu hh).1))];unfold b9;rw[bA (λhh=>he (by rw[M.1]; exact hh))]
    show vW c (gu sub L [125] (L.length+2) (dz sub L s1).2 [(dz sub L s1).1]).2 _ (bH L A [125]) [];rw[h2];have U:(gu sub L [125] (L.length+2) (dz sub L s1).2 [(dz sub L s1).1]).2.e=s1.e:=by
     rw[qLB _ _ _ (by rw[Xt Q he]; exact he),Xt Q he]
    exact⟨⟨by rw[U]; exact M.1,λh=>absurd h (by rw[U]; exact he)⟩,λh=>absurd h (by rw[U]; exact he)⟩
 have hb:=λh=>qMf (L:=L) Q (s:=iC L s) h
 have hl:(iC L s).e=0->(ic sub L [125] (iC L s)).1.length<=1000:=λh=>ct inv eb [125] (I0.1 h) (by have:=XG L; omega)
 unfold jz kG;generalize ic sub L [125] (iC L s)=P at *;generalize gF ch L (L.length+2) (bH L r [123]) []=T at *;generalize bH L T.2 [125]=r2 at *;obtain⟨qR,hR⟩:=R;have e0:P.2.e=0->(iC L s).e=0:=λh=>xH λhh=>hh (by rw[<- hb hh]; exact h)
 refine⟨⟨qR.1,λhe=>⟨(qR.2 he).1,?_⟩⟩,λhe ht=>?_⟩
 ·rw[(qR.2 he).2];show(P.2.tw||(c||jg P.1))=(qb (dB P.1) P.2.tw (dB P.1).length||c);rw[qWJ P.1 (hl (e0 he)),Am,Al c]
 ·obtain⟨h1,h2⟩:=hR he ht;show fe kd (dB P.1)=fe kd T.1;rw[Xc pP T.1 (dB P.1) h2 (X8 _ (hl (e0 he))) ((Sm _).trans h1.symm)]
def Fz(c:Bool)(a b:TT×RS):Prop:=Qc c a.2 b.2/\(a.2.e=0->b.2.tw=false->a.1=b.1)
def qG8{sub ch:RS->TT×RS}{L:List Tok}(v:kY L)(Q:oL L sub ch)(k:Int){c:Bool}{s r:RS}(I:I1 L s)(q:Qc c s r):Fz c (ofM sub L k s) (oV ch L k r):=by
 have q1:Qc c (kR L s) (bH L r [60]):=q.ui v [60] bu rfl;obtain⟨a,b⟩:=Q.alike c (kR L s) _ (sQ [60] I).1 q1;have A:Qc c (zJ L (sub (kR L s)).2) (bH L (ch (bH L r [60])).2 [62]):=a.ui v [62] bu rfl;refine⟨A,λhe ht=>?_⟩;have he:(cU (bZ 4 L (sub (kR L s)).2 [62]) (dU 4 L (sub (kR L s)).2 [62])).e=0:=he;rw[<- JS L _ 4 [62] (CM v _ _ bu rfl)] at he;have ht:(bH L (ch (bH L r [60])).2 [62]).tw=false:=ht;rw[tn] at ht;show TT.mk k [] .nil (.mk true [(sub (kR L s)).1])=TT.mk k [] .nil (.mk true [(ch (bH L r [60])).1]);rw[b (OC he) ht]
def qQV{sub ch:RS->TT×RS}{L:List Tok}(hL:L.length<=400)(v:kY L)(Q:oL L sub ch)(inv:Inv L sub)(eb:Eb sub)(w:LB){c:Bool}{s r:RS}(I:I1 L s)(q:Qc c s r):Fz c (pR sub L w s) (sN ch L w r):=by
 have same:∀ t:TT,Fz c (t,s) (t,r):=λt=>⟨q,λ_ _=>rfl⟩
 unfold pR sN;by_cases A:w=cr 1
 ·rw[bF A,bF A]; exact same _
 rw[bA A,bA A];by_cases M:w=cr 2
 ·rw[bF M,bF M]; exact same _
 rw[bA M,bA M];by_cases U:w=cr 3
 ·rw[bF U,bF U]; exact same _
 rw[bA U,bA U];by_cases w8:w=cr 8
 ·subst w8;rw[bF rfl,bA bu,bA bu,bA bu,bF rfl];cases hr:eS L r [123] with
  |true =>
   rw[bF rfl];exact qJZ hL v Q inv eb 8 I q
  |false =>
   rw[bA bu];have h1:iC L s=b9 s 12:=by
    unfold iC;rw[<- JS L s 4 [123] (CM v _ _ bu rfl)];unfold bH;rw[q.FG L,hr]; rfl
   have h2:(jz sub L 8 s).2.e=(b9 s 12).e:=by
    show(ic sub L [125] (iC L s)).2.e=_;rw[qMf Q (by rw[h1]; exact λh=>CJ bu h),h1]
   have h3:=q.fail 12 bu;have h4:(b9 s 12).e≠0:=λh=>CJ bu h
   exact⟨⟨by rw[h2]; exact h3.1,λh=>absurd h (by rw[h2]; exact h4)⟩,λh=>absurd h (by rw[h2]; exact h4)⟩
 rw[bA w8];by_cases w4:w=cr 4
 ·rw[bF w4,bF w4]; exact qG8 v Q 4 I q
 rw[bA w4,bA w4];by_cases w5:w=cr 5
 ·rw[bF w5,bF w5]; exact qG8 v Q 5 I q
 rw[bA w5,bA w5];by_cases w6:w=cr 6
 ·rw[bF w6,bF w6]; exact qG8 v Q 6 I q
 rw[bA w6,bA w6,bA w8];exact same _
def DE{s:RS}(h:s.e≠0)(e:Int):b9 s e=s:=by unfold b9; rw[bA h]
def qUP{d:Int}{L:List Tok}{s:RS}(hs:s.e≠0):j8 d L s=s:=by
 unfold j8;rw[zr (λA=>hs A.1)];show(if (false&&_)=true then _ else cU s false)=s;rw[fH,bA bu];unfold cU;rw[bA bu,DE hs]
def qGt{sub:RS->TT×RS}{d:Int}{L:List Tok}{s:RS}(hs:s.e≠0):nh sub d L s=(eQ,s):=by
 unfold nh;rw[qUP hs,bF hs]
def qF6{sub:RS->TT×RS}{d:Int}{L:List Tok}{s:RS}(hs:s.e≠0):mo sub d L s=(eQ,s):=by
 unfold mo;have A:eS L s [123]=false:=by
  cases h:eS L s [123] with
  |false=>rfl
  |true=>exact absurd (zu bu h).1 hs
 rw[zr (λM=>hs M.1),bF ⟨bu,A⟩,DE hs]
def qO4{sub ch:RS->TT×RS}{L:List Tok}(hL:L.length<=400)(v:kY L)(Q:oL L sub ch)(inv:Inv L sub)(eb:Eb sub)(d:Int){c:Bool}{s r:RS}(I:I1 L s)(q:Qc c s r):Fz c (nh sub d L s) (mo ch d L r):=by
 by_cases hs:s.e=0
 ·have hr:eS L r [123]=dU 4 L s [123]:=by rw[<- q.FG L,CM v s [123] bu rfl]
  have bad:∀ e:Int,e≠0->Fz c (eQ,b9 s e) (eQ,b9 r e):=λe he=>⟨q.fail e he,λ_ _=>rfl⟩
  unfold nh mo;rw[hr,<- q.jH L];cases hb:pC (cq L s) with
  |false =>
   have h1:(cq L s).kind≠1/\dU 4 L s [123]=false:=by
    unfold pC at hb;rw[nj,qp] at hb;exact hb
   have A:j8 d L s=b9 s 12:=by unfold j8; rw[hb,fH]; rfl
   rw[bF h1,A];rw[bF (λh=>CJ bu h)];exact bad 12 bu
  |true =>
   have h1:¬ ((cq L s).kind≠1/\dU 4 L s [123]=false):=λh=>by
    have h2:pC (cq L s)=false:=by
     unfold pC;rw[de h.1,lP];exact h.2
    rw[hb] at h2; cases h2
   rw[bA h1];by_cases hd:12<d
   ·have A:j8 d L s=b9 s 13:=by unfold j8; rw[hb,gS,cI hd]; rfl
    rw[bF hd,A];rw[bF (λh=>CJ bu h)];exact bad 13 bu
   ·have A:j8 d L s=s:=by unfold j8; rw[hb,gS,de hd]; rfl
    rw[bA hd,A,bA (λh=>h hs)];by_cases M:(cq L s).kind=4
    ·have ht:dU 4 L s [123]=true:=by
      unfold pC at hb;rw[de (by rw[M]; decide),lP] at hb;exact hb
     rw[bF M,ht,bF rfl];exact qJZ hL v Q inv eb 7 I q
    ·have h4:dU 4 L s [123]=false:=by unfold dU; rw[de M]; rfl
     have U:(cq L s).kind=1:=by
      unfold pC at hb;rw[de M,fH,oE,dF] at hb;exact hb
     have hl:=(Ox (L:=L) (s:=s) (by rw[U]; decide)).2;rw[bA M,h4,bA bu];have rn:dN L r=((cq L s).text,bJ r):=by rw[qQ3 (by rw[<- q.jH L]; exact U),q.jH L]
     rw[rn];exact qQV hL v Q inv eb _ ⟨λ_=>by show s.p+1<=_; omega,by show s.p+1<=_; omega⟩ q.next
 ·rw[qGt hs,qF6 (by rw[<- q.1]; exact hs)];exact⟨q,λ_ _=>rfl⟩
def qVW{ch:RS->TT×RS}{L:List Tok}(mono:∀ r,r.tw=true->(ch r).2.tw=true){s:RS}(h:s.tw=true):(fG ch L s).2.tw=true:=mono _ (by rw[tn,Oe]; exact h)
def qLX{ch:RS->TT×RS}{L:List Tok}(mono:∀ r,r.tw=true->(ch r).2.tw=true):∀ (f:Nat) (s:RS) (l:Es),s.tw=true->(gF ch L f s l).2.tw=true
 |0,s,l,h=>h
 |f+1,s,l,h=>by
  have h1:(lW l (fG ch L s).1.1 (fG ch L s).2).tw=true:=by
   show((fG ch L s).2.tw||_)=true;rw[qVW mono h]; rfl
  unfold gF;split
  ·split
   ·exact qLX mono f _ _ (by rw[tn]; exact h1)
   ·exact h1
  ·exact h
def qMN{ch:RS->TT×RS}{L:List Tok}(mono:∀ r,r.tw=true->(ch r).2.tw=true)(kd:Int){s:RS}(h:s.tw=true):(kG ch L kd s).2.tw=true:=by
 show(bH L (gF ch L (L.length+2) (bH L s [123]) []).2 [125]).tw=true;rw[tn];exact qLX mono _ _ _ (by rw[tn]; exact h)
def qWj{ch:RS->TT×RS}{L:List Tok}(mono:∀ r,r.tw=true->(ch r).2.tw=true)(kd:Int){s:RS}(h:s.tw=true):(oV ch L kd s).2.tw=true:=by
 show(bH L (ch (bH L s [60])).2 [62]).tw=true;rw[tn];exact mono _ (by rw[tn]; exact h)
def qVI{ch:RS->TT×RS}{L:List Tok}(mono:∀ r,r.tw=true->(ch r).2.tw=true)(d:Int)(s:RS)(h:s.tw=true):(mo ch d L s).2.tw=true:=by
 unfold mo;split
 ·show(b9 s 12).tw=true; rw[R9]; exact h
 split
 ·show(b9 s 13).tw=true; rw[R9]; exact h
 split
 ·exact qMN mono 7 h
 ·have A:(dN L s).2.tw=true:=by rw[Oe]; exact h
  unfold sN
  repeat' split
  all_goals first
   |exact A
   |exact qWj mono _ A
   |exact qMN mono _ A
   |(show(b9 (dN L s).2 12).tw=true; rw[R9]; exact A)
def qJb{L:List Tok}(A:L.length<=400)(v:kY L):∀ (n:Nat) (d:Int),oL L (gi L n d) (mq L n d)
 |0,d=>⟨λc s r _ q=>⟨q,λ_ _=>rfl⟩,λr h=>h,λr h=>h,λs _=>rfl⟩
 |n+1,d=>by
  have Q:=qJb A v n (d+1);refine⟨λc s r I q=>qO4 A v Q (CL L n (d+1)) (Z7 L n (d+1)) d I q,λr h=>qVI Q.mono d r h,λr h=>?_,λs hs=>?_⟩
  ·refine xH λM=>M ?_
   have:mq L (n+1) d r=(eQ,r):=qF6 M;rw[this] at h;exact h
  ·have:gi L (n+1) d s=(eQ,s):=qGt hs;rw[this]
def kc(ch:RS->TT×RS)(L:List Tok):Nat->RS->List TT->List TT×RS
 |0,r,acc=>(acc,r)
 |f+1,r,acc=>if eS L r [44]=true then kc ch L f (ch (bH L r [44])).2 (acc++[(ch (bH L r [44])).1]) else (acc,r)
def jx(ch:RS->TT×RS)(L:List Tok)(r:RS):List TT×RS:=if eS L r [41]=true then ([],r) else kc ch L (L.length+2) (ch r).2 [(ch r).1]
def jS(ch:RS->TT×RS)(L:List Tok)(r:RS):GS×RS :=
 (⟨(dN L r).1,grown (jx ch L (bH L (dN L r).2 [40])).1,(ch (bH L (bH L (jx ch L (bH L (dN L r).2 [40])).2 [41]) [45,62])).1⟩,
  bH L (ch (bH L (bH L (jx ch L (bH L (dN L r).2 [40])).2 [41]) [45,62])).2 [59])
def ft(ch:RS->TT×RS)(L:List Tok)(r:RS):(LB×TT)×RS :=
 (((dN L r).1,(ch (bH L (dN L r).2 [61])).1),bH L (ch (bH L (dN L r).2 [61])).2 [59])
def qI5{L:List Tok}(v:kY L)(x:LB)(hx:x≠[])(hn:fK x=false){c:Bool}{s r:RS}(q:Qc c s r) :
  Qc c (eP x L s) (bH L (dN L r).2 x)/\((eP x L s).e=0->(cq L s).text=(dN L r).1/\r.e=0):=by
 have A:Qc c (dQ L s) (dN L r).2/\((dQ L s).e=0->(cq L s).text=(dN L r).1/\r.e=0):=by
  unfold dQ dN;have U:=q.jH L;rw[U];by_cases M:(cq L r).kind=1
  ·rw[bF M,cI M];exact⟨q.next,λh=>⟨rfl,by rw[<- q.1]; exact h⟩⟩
  ·rw[bA M,de M];have hf:=q.fail 12 bu;have he:(b9 s 12).e≠0:=λh=>CJ bu h
   exact⟨⟨hf.1,λh=>absurd h he⟩,λh=>absurd h he⟩
 refine⟨A.1.ui v x hx hn,λh=>A.2 ?_⟩;have:(cU (bZ 4 L (dQ L s) x) (dU 4 L (dQ L s) x)).e=0:=h;rw[<- JS L (dQ L s) 4 x (CM v _ _ hx hn)] at this;exact OC this
def qHI{ch:RS->TT×RS}{L:List Tok}(mono:∀ r,r.tw=true->(ch r).2.tw=true):∀ (f:Nat) (r:RS) (acc:List TT),r.tw=true->(kc ch L f r acc).2.tw=true
 |0,r,acc,h=>h
 |f+1,r,acc,h=>by
  unfold kc;split
  ·exact qHI mono f _ _ (mono _ (by rw[tn]; exact h))
  ·exact h
def qSe{ch:RS->TT×RS}{L:List Tok}(mono:∀ r,r.tw=true->(ch r).2.tw=true)(r:RS)(h:r.tw=true):(jx ch L r).2.tw=true:=by
 unfold jx;split
 ·exact h
 ·exact qHI mono _ _ _ (mono _ h)
def U9{a b:Bool}(h:a=true->b=true)(hb:b=false):a=false:=by
 cases a with
 |false=>rfl
 |true=>rw[h rfl] at hb; cases hb
def RY{L:List Tok}(v:kY L){s:RS}(x:LB)(hx:x≠[])(hn:fK x=false)(h:(cU (bZ 4 L s x) (dU 4 L s x)).e=0):s.e=0:=by
 rw[<- JS L s 4 x (CM v _ _ hx hn)] at h;exact OC h
def Xk{sub ch:RS->TT×RS}{L:List Tok}(Q:oL L sub ch){s:RS}(h:(sub s).2.e=0):s.e=0:=by
 by_cases hs:s.e=0
 ·exact hs
 ·rw[Q.dY s hs] at h; exact h
def qKf{sub ch:RS->TT×RS}{L:List Tok}(v:kY L)(Q:oL L sub ch)(x:LB)(hx:x≠[])(hn:fK x=false):∀ (f:Nat) (s:RS) (acc:List TT),(gT sub L x f s acc).2.e=0->s.e=0
 |0,s,acc,h=>h
 |f+1,s,acc,h=>by
  unfold gT at h;split at h
  ·have h1:=qKf v Q x hx hn f _ _ h;have A:(bJ s).e=0:=Xk Q h1;exact A
  ·exact RY v x hx hn h
def qGf{sub ch:RS->TT×RS}{L:List Tok}(v:kY L)(Q:oL L sub ch)(inv:Inv L sub){c:Bool}:∀ (f g:Nat) (s r:RS) (acc A:List TT),Qc c s r->(s.e=0->r.tw=false->acc=A)->I1 L s->(s.e=0->L.length+1 - s.p<f)->(s.e=0->L.length+1 - s.p<g) ->
  Qc c (gT sub L [41] f s acc).2 (bH L (kc ch L g r A).2 [41])/\((gT sub L [41] f s acc).2.e=0->(bH L (kc ch L g r A).2 [41]).tw=false->(gT sub L [41] f s acc).1=(kc ch L g r A).1)
 |0,g,s,r,acc,A,q,ha,I,hf,hg=>by
  have he:s.e≠0:=λh=>by have:=hf h; omega
  have hr:eS L r [44]=false:=by
   cases U:eS L r [44] with
   |false=>rfl
   |true=>exact absurd (q.1▸(zu bu U).1) he
  have e0:kc ch L g r A=(A,r):=by
   cases g with
   |zero=>rfl
   |succ g=>unfold kc; rw[hr,bA bu]
  rw[e0];have h2:bH L r [41]=r:=by
   unfold bH;rw[bA (λU=>he (by rw[q.1]; exact(zu bu U).1))];exact DE (by rw[<- q.1]; exact he) 12
  show Qc c s (bH L r [41])/\(s.e=0->_);rw[h2];exact⟨q,λh=>absurd h he⟩
 |f+1,g,s,r,acc,A,q,ha,I,hf,hg=>by
  have M:dU 4 L s [44]=eS L r [44]:=by rw[<- CM v s [44] bu rfl,q.FG L]
  unfold gT;cases h:dU 4 L s [44] with
  |false =>
   rw[h] at M;have e0:kc ch L g r A=(A,r):=by
    cases g with
    |zero=>rfl
    |succ g=>unfold kc; rw[<- M,bA bu]
   rw[e0,bA bu];refine⟨q.ui v [41] bu rfl,λhe ht=>ha (RY v [41] bu rfl he) ?_⟩;rw[tn] at ht; exact ht
  |true =>
   rw[h] at M;obtain⟨g1,g2⟩:=zu bu M.symm;have se:s.e=0:=by rw[q.1]; exact g1
   cases g with
   |zero=>have:=hg se; omega
   |succ g =>
    have rn:bH L r [44]=bJ r:=by unfold bH; rw[<- M]; rfl
    unfold kc;rw[bF rfl,<- M,bF rfl,rn];have hn:s.p<L.length:=(zo bu h).2;have In:=Oi hn;obtain⟨a,b⟩:=Q.alike c (bJ s) (bJ r) In q.next;obtain⟨I2,p2⟩:=inv _ In;have p3:s.p+1<=(sub (bJ s)).2.p:=p2;refine qGf v Q inv f g _ _ _ _ a (λhe ht=>?_) I2 (λ_=>by have:=hf se; omega) (λ_=>by have:=hg se; omega);have rt:r.tw=false:=U9 (λU=>Q.mono (bJ r) U) ht;rw[ha se rt,b he ht]
def qNq{sub ch:RS->TT×RS}{L:List Tok}(v:kY L)(Q:oL L sub ch)(inv:Inv L sub){c:Bool}{s r:RS}(q:Qc c s r)(I:I1 L s) :
  Qc c (gJ sub L [41] s).2 (bH L (jx ch L r).2 [41])/\((gJ sub L [41] s).2.e=0->s.e=0/\((bH L (jx ch L r).2 [41]).tw=false->(gJ sub L [41] s).1=(jx ch L r).1/\r.tw=false)):=by
 have A:dU 4 L s [41]=eS L r [41]:=by rw[<- CM v s [41] bu rfl,q.FG L]
 unfold gJ jx;cases h:dU 4 L s [41] with
 |true =>
  rw[h] at A;obtain⟨g1,g2⟩:=zu bu A.symm;have M:bH L r [41]=bJ r:=by unfold bH; rw[<- A]; rfl
  rw[<- A,bF rfl,bF rfl];show Qc c (bJ s) (bH L r [41])/\_;rw[M];exact⟨q.next,λhe=>⟨he,λht=>⟨rfl,ht⟩⟩⟩
 |false =>
  rw[h] at A;rw[<- A,bA bu,bA bu];obtain⟨a,b⟩:=Q.alike c s r I q;obtain⟨U,p2⟩:=inv _ I;obtain⟨a2,b2⟩:=qGf v Q inv (L.length+2) (L.length+2) (sub s).2 (ch r).2 [(sub s).1] [(ch r).1] a (λhe ht=>by rw[b he ht]) U (λ_=>bn) (λ_=>bn);refine⟨a2,λhe=>⟨Xk Q (qKf v Q [41] bu rfl _ _ _ he),λht=>⟨b2 he ht,?_⟩⟩⟩;rw[tn] at ht;exact U9 (λhh=>qHI Q.mono _ _ _ (Q.mono _ hh)) ht
def qKJ{sub ch:RS->TT×RS}{L:List Tok}(v:kY L)(Q:oL L sub ch)(inv:Inv L sub){c:Bool}{s r:RS}(q:Qc c s r)(hp:s.p<=L.length) :
  Qc c (gk L (ph sub L s).2) (jS ch L r).2/\((gk L (ph sub L s).2).e=0->r.e=0/\(ph sub L s).1.nm=(jS ch L r).1.nm/\((jS ch L r).2.tw=false->(ph sub L s).1=(jS ch L r).1/\r.tw=false)):=by
 obtain⟨a1,b1⟩:=qI5 v [40] bu rfl q;obtain⟨A,_⟩:=Cb [40] hp;obtain⟨a2,b2⟩:=qNq v Q inv a1 A;obtain⟨I2,_⟩:=R4 inv [41] A;have a3:Qc c (kQ L (gJ sub L [41] (eP [40] L s)).2) (bH L (bH L (jx ch L (bH L (dN L r).2 [40])).2 [41]) [45,62]):=a2.ui v [45,62] bu rfl;obtain⟨I3,_⟩:=sQ [45,62] I2;obtain⟨a4,b4⟩:=Q.alike c _ _ I3 a3;have a5:=a4.ui v [59] bu rfl;refine⟨a5,λhe=>?_⟩;have U:(sub (kQ L (gJ sub L [41] (eP [40] L s)).2)).2.e=0:=RY v [59] bu rfl he;have e3:=Xk Q U;have e2:(gJ sub L [41] (eP [40] L s)).2.e=0:=RY v [45,62] bu rfl e3;obtain⟨e1,M⟩:=b2 e2;obtain⟨n1,n2⟩:=b1 e1;refine⟨n2,n1,λht=>?_⟩;have ht:(bH L (ch (bH L (bH L (jx ch L (bH L (dN L r).2 [40])).2 [41]) [45,62])).2 [59]).tw=false:=ht;rw[tn] at ht;have t3:(bH L (bH L (jx ch L (bH L (dN L r).2 [40])).2 [41]) [45,62]).tw=false:=U9 (λhh=>Q.mono _ hh) ht;rw[tn] at t3;obtain⟨p1,t1⟩:=M t3;rw[tn,Oe] at t1;refine⟨?_,t1⟩;show GS.mk (cq L s).text (grown (gJ sub L [41] (eP [40] L s)).1) (sub (kQ L (gJ sub L [41] (eP [40] L s)).2)).1=GS.mk _ (grown _) _;have p4:(sub (kQ L (gJ sub L [41] (eP [40] L s)).2)).1=(ch (bH L (bH L (jx ch L (bH L (dN L r).2 [40])).2 [41]) [45,62])).1:=b4 U ht;rw[n1,p1,p4]
def qIu{sub ch:RS->TT×RS}{L:List Tok}(v:kY L)(Q:oL L sub ch)(inv:Inv L sub){c:Bool}{s r:RS}(q:Qc c s r)(hp:s.p<=L.length) :
  Qc c (gk L (sub (eP [61] L s)).2) (ft ch L r).2/\((gk L (sub (eP [61] L s)).2).e=0->r.e=0/\(cq L s).text=(ft ch L r).1.1/\((ft ch L r).2.tw=false->((cq L s).text,(sub (eP [61] L s)).1)=(ft ch L r).1/\r.tw=false)):=by
 obtain⟨a1,b1⟩:=qI5 v [61] bu rfl q;obtain⟨A,_⟩:=Cb [61] hp;obtain⟨a4,b4⟩:=Q.alike c _ _ A a1;refine⟨a4.ui v [59] bu rfl,λhe=>?_⟩;have M:(sub (eP [61] L s)).2.e=0:=RY v [59] bu rfl he;obtain⟨U,n2⟩:=b1 (Xk Q M);refine⟨n2,U,λht=>?_⟩;have ht:(bH L (ch (bH L (dN L r).2 [61])).2 [59]).tw=false:=ht;rw[tn] at ht;have t3:(bH L (dN L r).2 [61]).tw=false:=U9 (λhh=>Q.mono _ hh) ht;rw[tn,Oe] at t3;refine⟨?_,t3⟩;have p4:(sub (eP [61] L s)).1=(ch (bH L (dN L r).2 [61])).1:=b4 M ht;show((cq L s).text,(sub (eP [61] L s)).1)=((dN L r).1,(ch (bH L (dN L r).2 [61])).1);rw[U,p4]
def tr(l:Gs)(g:GS):Gs:=l.take (cu g.nm (l.map gE))++g::l.drop (cu g.nm (l.map gE))
def qRd(l:Gs)(g:GS):(tr l g).map gE=iX (l.map gE) (gE g):=by
 unfold tr iX;rw[gG,dr,mK,mJ]; rfl
def qIr(l:Gs)(g:GS):(tr l g).Perm (l++[g]):=by
 unfold tr;have h:=vg (a:=g) (l₁:=l.take (cu g.nm (l.map gE))) (l₂:=l.drop (cu g.nm (l.map gE)));rw[mI] at h;exact h.trans (List.perm_append_singleton g l).symm
def qTM(l:Gs)(g:GS):(tr l g).length=l.length+1:=by
 rw[(qIr l g).length_eq,bV,gM]
def Ha(l:Gs)(n:LB)(s:RS):RS:={ s with tw:=s.tw||iY (l.map gE) n }
def jy(ch:RS->TT×RS)(L:List Tok):Nat->RS->Es->Gs->(Es×Gs)×RS
 |0,r,ns,gs=>((ns,gs),r)
 |f+1,r,ns,gs =>
  if r.e=0/\r.p<L.length then
   if eS L r yh=true then jy ch L f (Ha gs (jS ch L (bJ r)).1.nm (jS ch L (bJ r)).2) ns (tr gs (jS ch L (bJ r)).1)
   else jy ch L f (lW ns (ft ch L (bH L r ja)).1.1 (ft ch L (bH L r ja)).2) (iX ns (ft ch L (bH L r ja)).1) gs
  else ((ns,gs),r)
def qNC{l acc:Es}{p q:LB×TT}{c t0 t1:Bool}(M:q.1=p.1)(h1:t1=(t0||(c||jg acc)))(hI:t1=false->l.Perm acc/\xY l) :
  (t1||iY l p.1)=(t0||(c||jg (acc++[q])))/\((t1||iY l p.1)=false->xY (iX l p)):=by
 cases ht:t1 with
 |true =>
  refine⟨?_,cb⟩;rw[ht] at h1;cases A:t0 with
  |true=>rfl
  |false =>
   cases hc:c with
   |true=>rfl
   |false =>
    have:jg acc=true:=by rw[A,hc] at h1; simpa using h1.symm
    rw[qI2 this]; rfl
 |false =>
  obtain⟨i1,i2⟩:=hI ht;rw[ht] at h1;have A:t0=false/\c=false/\jg acc=false:=by
   revert h1;cases t0 <;> cases c <;> cases jg acc <;> simp
  have hd:=qI0 i1 i2 A.2.2 p q M;rw[A.1,A.2.1,hd];refine⟨rfl,λh=>?_⟩;rw[lP] at h;exact qMs i2 p h
structure vX (s:RS) (ns:Es) (gs:Gs) (r:RS) (ls:Es) (lg:Gs):Prop where
 q:Qc (jg ns||jg (gs.map gE)) s r
 i:s.e=0->r.tw=false->(ls.Perm ns/\xY ls)/\(lg.Perm gs/\xY (lg.map gE))
def qKm{sub ch:RS->TT×RS}{L:List Tok}(v:kY L)(Q:oL L sub ch)(inv:Inv L sub){s r:RS}{ns ls:Es}{gs lg:Gs}(A:vX s ns gs r ls lg)(hp:s.p<=L.length) :
  vX (gk L (sub (eP [61] L s)).2) (ns++[((cq L s).text,(sub (eP [61] L s)).1)]) gs (lW ls (ft ch L r).1.1 (ft ch L r).2) (iX ls (ft ch L r).1) lg:=by
 obtain⟨a,b⟩:=qIu v Q inv A.q hp;have M:(gk L (sub (eP [61] L s)).2).e=0->s.e=0:=λh=>by rw[A.q.1]; exact(b h).1
 generalize gk L (sub (eP [61] L s)).2=s' at *;generalize ft ch L r=G at *;by_cases he:s'.e=0
 ·obtain⟨b1,b2,U⟩:=b he;obtain⟨a1,a2⟩:=a.2 he;generalize hq:((cq L s).text,(sub (eP [61] L s)).1)=q at *;have hk:q.1=G.1.1:=by rw[<- hq]; exact b2
  rw[Al (jg ns)] at a2;have key:=qNC hk a2 (λh=>(A.i (M he) (U h).2).1);refine⟨⟨a.1,λ_=>⟨a1,?_⟩⟩,λ_ ht=>?_⟩
  ·rw[Al (jg (ns++[q]))]; exact key.1
  ·have ht:(G.2.tw||iY ls G.1.1)=false:=ht;have t1:G.2.tw=false:=by cases h:G.2.tw with|false=>rfl|true=>rw[h] at ht; cases ht
   obtain⟨e1,e2⟩:=U t1;obtain⟨i1,i2⟩:=A.i (M he) e2;refine⟨⟨?_,key.2 ht⟩,i2⟩;rw[e1];exact(qJ8 ls G.1).trans (i1.1.append_right _)
 ·exact⟨⟨a.1,λh=>absurd h he⟩,λh=>absurd h he⟩
def qMl{sub ch:RS->TT×RS}{L:List Tok}(v:kY L)(Q:oL L sub ch)(inv:Inv L sub){s r:RS}{ns ls:Es}{gs lg:Gs}(A:vX s ns gs r ls lg)(hp:s.p<=L.length) :
  vX (gk L (ph sub L s).2) ns (gs++[(ph sub L s).1]) (Ha lg (jS ch L r).1.nm (jS ch L r).2) ls (tr lg (jS ch L r).1):=by
 obtain⟨a,b⟩:=qKJ v Q inv A.q hp;have M:(gk L (ph sub L s).2).e=0->s.e=0:=λh=>by rw[A.q.1]; exact(b h).1
 generalize gk L (ph sub L s).2=s' at *;generalize jS ch L r=G at *;generalize (ph sub L s).1=q at *;by_cases he:s'.e=0
 ·obtain⟨b1,b2,U⟩:=b he;obtain⟨a1,a2⟩:=a.2 he;have hk:(gE q).1=(gE G.1).1:=b2;have key:=qNC hk a2 (λh=>⟨((A.i (M he) (U h).2).2.1).map gE,(A.i (M he) (U h).2).2.2⟩);refine⟨⟨a.1,λ_=>⟨a1,?_⟩⟩,λ_ ht=>?_⟩
  ·rw[gG,Fg]; exact key.1
  ·have ht:(G.2.tw||iY (lg.map gE) G.1.nm)=false:=ht;have t1:G.2.tw=false:=by cases h:G.2.tw with|false=>rfl|true=>rw[h] at ht; cases ht
   obtain⟨e1,e2⟩:=U t1;obtain⟨i1,i2⟩:=A.i (M he) e2;refine⟨i1,?_,by rw[qRd]; exact key.2 ht⟩;rw[e1];exact(qIr lg G.1).trans (i2.1.append_right _)
 ·exact⟨⟨a.1,λh=>absurd h he⟩,λh=>absurd h he⟩
def Qc.e0{c:Bool}{s r:RS}(q:Qc c s r)(h:s.e=0):r.e=0:=by rw[<- q.1]; exact h
def qQg{sub ch:RS->TT×RS}{L:List Tok}(v:kY L)(Q:oL L sub ch)(inv:Inv L sub):∀ (f g:Nat) (s r:RS) (ns ls:Es) (gs lg:Gs),vX s ns gs r ls lg->I1 L s->(s.e=0->L.length+1 - s.p<f)->(s.e=0->L.length+1 - s.p<g) ->
  vX (jL sub L f s ns gs).2 (jL sub L f s ns gs).1.1 (jL sub L f s ns gs).1.2 (jy ch L g r ls lg).2 (jy ch L g r ls lg).1.1 (jy ch L g r ls lg).1.2:=by
 intro f
 induction f with
 |zero =>
  intro g s r ns ls gs lg A I hf hg;have he:s.e≠0:=λh=>by have:=hf h; omega
  have e0:jy ch L g r ls lg=((ls,lg),r):=by
   cases g with
   |zero=>rfl
   |succ g=>unfold jy; rw[bA (λh=>he (by rw[A.q.1]; exact h.1))]
  rw[e0]; exact A
 |succ f ih =>
  intro g s r ns ls gs lg A I hf hg;by_cases hc:s.e=0/\s.p<L.length
  ·obtain⟨he,hp⟩:=hc;have re:=A.q.e0 he;have rp:=(A.q.2 he).1;cases g with
   |zero=>have:=hg he; omega
   |succ g =>
    unfold jL jy;have c1:s.e=0/\s.p<L.length:=⟨he,hp⟩;have c2:r.e=0/\r.p<L.length:=⟨re,bn⟩;simp only[bF c1,bF c2];have e1:dU 1 L s ja=eS L r ja:=by rw[<- qHG v s ja bu,A.q.FG L]
    have e2:dU 1 L s yh=eS L r yh:=by rw[<- qHG v s yh bu,A.q.FG L]
    have U:(bJ s).p<=L.length:=by show s.p+1<=_; omega
    have An:vX (bJ s) ns gs (bJ r) ls lg:=⟨A.q.next,λh ht=>A.i h ht⟩;have hF:=hf he;cases hk:dU 1 L s ja with
    |true =>
     rw[hk] at e1;have nf:eS L r yh=false:=by
      cases h:eS L r yh with
      |false=>rfl
      |true =>
       unfold eS at h e1;rw[fj,dF] at h;have e1:=e1.symm;rw[fj,dF] at e1;rw[h.1] at e1;exact absurd e1.1 bu
     have rn:bH L r ja=bJ r:=by unfold bH; rw[<- e1]; rfl
     rw[bF rfl,nf,bA bu,rn];have A2:=qKm v Q inv An U;obtain⟨ae,p1⟩:=Cb [61] U;obtain⟨I2,p2⟩:=inv _ ae;obtain⟨I3,p3⟩:=sQ [59] I2;have p3:(sub (eP [61] L (bJ s))).2.p<=(gk L (sub (eP [61] L (bJ s))).2).p:=p3;have p0:(bJ s).p=s.p+1:=rfl;exact ih g _ _ _ _ _ _ A2 I3 (λ_=>bn) (λ_=>bn)
    |false =>
     rw[hk] at e1;rw[bA bu];cases hn:dU 1 L s yh with
     |true =>
      rw[hn] at e2;rw[<- e2,bF rfl];have fs:nB L s=bJ s:=by
       unfold nB bZ cU;have:dU 1 L s [102,110]=true:=hn;rw[this]; rfl
      rw[fs];have A2:=qMl v Q inv An U;obtain⟨_,I3⟩:=Xf inv U;obtain⟨I4,p4⟩:=sQ [59] I3;have p4:(ph sub L (bJ s)).2.p<=(gk L (ph sub L (bJ s)).2).p:=p4;have p5:(bJ s).p<=(ph sub L (bJ s)).2.p:=by
       obtain⟨J1,q1⟩:=Cb [40] U;obtain⟨J2,q2⟩:=R4 inv [41] J1;obtain⟨J3,q3⟩:=sQ [45,62] J2;obtain⟨J4,q4⟩:=inv _ J3;have q3:(gJ sub L [41] (eP [40] L (bJ s))).2.p<=(kQ L (gJ sub L [41] (eP [40] L (bJ s))).2).p:=q3;have q4:(kQ L (gJ sub L [41] (eP [40] L (bJ s))).2).p<=(ph sub L (bJ s)).2.p:=q4;omega
      have p0:(bJ s).p=s.p+1:=rfl;exact ih g _ _ _ _ _ _ A2 I4 (λ_=>bn) (λ_=>bn)
     |false =>
      -- ad: both fail
      rw[hn] at e2;rw[<- e2,bA bu];have fs:nB L s=b9 s 12:=by
       unfold nB bZ cU;have:dU 1 L s [102,110]=false:=hn;rw[this]; rfl
      have rs:bH L r ja=b9 r 12:=by unfold bH; rw[<- e1]; rfl
      rw[fs,rs];have Af:vX (b9 s 12) ns gs (b9 r 12) ls lg:=⟨A.q.fail 12 bu,λh=>(CJ bu h).elim⟩;have M:(b9 s 12).e≠0:=λh=>CJ bu h
      have fp:(b9 s 12).p=s.p:=by unfold b9; rw[bF he]
      have A2:=qMl v Q inv Af (by rw[fp]; omega);have A3:=qKm v Q inv Af (by rw[fp]; omega);have s2:(gk L (ph sub L (b9 s 12)).2).e≠0:=λh=>by
       have:=(qKJ v Q inv Af.q (by rw[fp]; omega)).2 h;exact M (by rw[Af.q.1]; exact this.1)
      have s3:(gk L (sub (eP [61] L (b9 s 12))).2).e≠0:=λh=>by
       have:=(qIu v Q inv Af.q (by rw[fp]; omega)).2 h;exact M (by rw[Af.q.1]; exact this.1)
      have aa:∀ (f:Nat) (s:RS) (ns:Es) (gs:Gs),s.e≠0->jL sub L f s ns gs=((ns,gs),s):=λf s ns gs h=>by
       cases f with
       |zero=>rfl
       |succ f=>unfold jL; rw[bA (λhh=>h hh.1)]
      have ab:∀ (f:Nat) (s:RS) (ns:Es) (gs:Gs),s.e≠0->jy ch L f s ns gs=((ns,gs),s):=λf s ns gs h=>by
       cases f with
       |zero=>rfl
       |succ f=>unfold jy; rw[bA (λhh=>h hh.1)]
      have r3:(lW ls (ft ch L (b9 r 12)).1.1 (ft ch L (b9 r 12)).2).e≠0:=by rw[<- A3.q.1]; exact s3
      rw[aa _ _ _ _ s2,ab _ _ _ _ r3]
      -- af errors ag af same
      have x1:(gk L (ph sub L (b9 s 12)).2).e=(b9 s 12).e:=by
       have k1:(eP [40] L (b9 s 12)).e=(b9 s 12).e:=by
        have n2:(dQ L (b9 s 12)).e=(b9 s 12).e:=by
         unfold dQ;rw[zr (λhh=>M hh.1)];show(cU (b9 s 12) false).e=_;show(b9 (b9 s 12) 12).e=_;rw[DE M]
        show(cU (bZ 4 L (dQ L (b9 s 12)) [40]) (dU 4 L (dQ L (b9 s 12)) [40])).e=_;rw[JG (by rw[n2]; exact M),n2]
       have k2:(gJ sub L [41] (eP [40] L (b9 s 12))).2.e=(b9 s 12).e:=by
        have b1:(eP [40] L (b9 s 12)).e≠0:=by rw[k1]; exact M
        unfold gJ;rw[Of b1 4 bu [41],bA bu];have b2:(sub (eP [40] L (b9 s 12))).2.e=(b9 s 12).e:=by rw[Q.dY _ b1,k1]
        show(gT sub L [41] (L.length+1+1) _ _).2.e=_;unfold gT;rw[Of (by rw[b2]; exact M) 4 bu [44],bA bu];show(cU (bZ 4 L _ [41]) (dU 4 L _ [41])).e=_;rw[JG (by rw[b2]; exact M),b2]
       have k3:(kQ L (gJ sub L [41] (eP [40] L (b9 s 12))).2).e=(b9 s 12).e:=by
        unfold kQ;rw[JG (by rw[k2]; exact M),k2]
       have k4:(ph sub L (b9 s 12)).2.e=(b9 s 12).e:=by
        show(sub (kQ L (gJ sub L [41] (eP [40] L (b9 s 12))).2)).2.e=_;rw[Q.dY _ (by rw[k3]; exact M),k3]
       unfold gk;rw[JG (by rw[k4]; exact M),k4]
      have x2:(gk L (sub (eP [61] L (b9 s 12))).2).e=(b9 s 12).e:=by
       have k1:(eP [61] L (b9 s 12)).e=(b9 s 12).e:=by
        have n2:(dQ L (b9 s 12)).e=(b9 s 12).e:=by
         unfold dQ;rw[zr (λhh=>M hh.1)];show(cU (b9 s 12) false).e=_;show(b9 (b9 s 12) 12).e=_;rw[DE M]
        show(cU (bZ 4 L (dQ L (b9 s 12)) [61]) (dU 4 L (dQ L (b9 s 12)) [61])).e=_;rw[JG (by rw[n2]; exact M),n2]
       have k4:(sub (eP [61] L (b9 s 12))).2.e=(b9 s 12).e:=by rw[Q.dY _ (by rw[k1]; exact M),k1]
       unfold gk;rw[JG (by rw[k4]; exact M),k4]
      refine⟨⟨?_,λh=>absurd h s2⟩,λh=>absurd h s2⟩;show(gk L (ph sub L (b9 s 12)).2).e=(lW ls (ft ch L (b9 r 12)).1.1 (ft ch L (b9 r 12)).2).e;rw[<- A3.q.1,x1,x2]
  ·have hr:¬ (r.e=0/\r.p<L.length):=λh=>hc (by
    have:s.e=0:=by rw[A.q.1]; exact h.1
    exact⟨this,by rw[(A.q.2 this).1]; exact h.2⟩)
   have e0:jy ch L g r ls lg=((ls,lg),r):=by
    cases g with
    |zero=>rfl
    |succ g=>unfold jy; rw[bA hr]
   rw[e0];unfold jL;rw[bA hc]; exact A
def mS(src:LB):TT×RS:=mq (bP src).1 13 1 (bH (bP src).1 ⟨0,0,false⟩ sA)
def lR(src:LB):(Es×Gs)×RS:=jy (mq (bP src).1 13 1) (bP src).1 ((bP src).1.length+2) (bH (bP src).1 (mS src).2 [59]) [] []
def nG(src:LB):Int:=if (bP src).2=0 then (qy (bP src).1 (lR src).2).e else (bP src).2
def ug(src:LB):SC:=if nG src=0 then ⟨(mS src).1,jk (lR src).1.1,jk (lR src).1.2⟩ else SC.zero
def qUG{ch:RS->TT×RS}{L:List Tok}(mono:∀ r,r.tw=true->(ch r).2.tw=true)(r:RS)(h:r.tw=true):(jS ch L r).2.tw=true:=by
 show(bH L (ch (bH L (bH L (jx ch L (bH L (dN L r).2 [40])).2 [41]) [45,62])).2 [59]).tw=true;rw[tn];refine mono _ ?_;rw[tn,tn];refine qSe mono _ ?_;rw[tn,Oe]; exact h
def qS2{ch:RS->TT×RS}{L:List Tok}(mono:∀ r,r.tw=true->(ch r).2.tw=true)(r:RS)(h:r.tw=true):(ft ch L r).2.tw=true:=by
 show(bH L (ch (bH L (dN L r).2 [61])).2 [59]).tw=true;rw[tn];refine mono _ ?_;rw[tn,Oe]; exact h
def qG9{ch:RS->TT×RS}{L:List Tok}(mono:∀ r,r.tw=true->(ch r).2.tw=true):∀ (f:Nat) (r:RS) (ns:Es) (gs:Gs),r.tw=true->(jy ch L f r ns gs).2.tw=true
 |0,r,ns,gs,h=>h
 |f+1,r,ns,gs,h=>by
  unfold jy;split
  ·split
   ·refine qG9 mono f _ _ _ ?_;show((jS ch L (bJ r)).2.tw||_)=true;rw[qUG mono (bJ r) h]; rfl
   ·refine qG9 mono f _ _ _ ?_;show((ft ch L (bH L r ja)).2.tw||_)=true;rw[qS2 mono (bH L r ja) (by rw[tn]; exact h)]; rfl
  ·exact h
def qJD{sub:RS->TT×RS}{L:List Tok}(f:Nat){s:RS}(ns:Es)(gs:Gs)(h:s.e≠0):jL sub L f s ns gs=((ns,gs),s):=by
 cases f with
 |zero=>rfl
 |succ f=>unfold jL; rw[bA (λA=>h A.1)]
def Qc.UI{c:Bool}{s r:RS}{L:List Tok}(v:kY L)(q:Qc c s r)(x:LB)(hn:fK x=true):Qc c (cU (bZ 1 L s x) (dU 1 L s x)) (bH L r x):=by
 rw[<- JS L s 1 x (qHG v s x hn)];unfold bH;rw[q.FG L];split
 ·exact q.next
 ·exact q.fail 12 bu
def qU2(acc:Es)(hl:acc.length<=1000)(b:Bool):qb (cL acc) b (cL acc).length=(b||jg acc):=by
 rw[Xa]
 congr 1
 have A:=UU (Yo acc hl).1 (Sw acc);unfold jg;by_cases h:(acc.map (·.1)).Nodup
 ·rw[A.2 h,cI h]; rfl
 ·rw[de h];cases hc:qb (cL acc) false (cL acc).length with
  |true=>rfl
  |false=>exact absurd (A.1 hc) h
def qVv(acc:Gs)(hl:acc.length<=1000)(b:Bool):yk (cT acc) b (cT acc).length=(b||jg (acc.map gE)):=by
 rw[Zy,Xa]
 congr 1
 have A:=UU (qPd (Yp acc hl).1) ((Sv acc).map gE);rw[dj] at A;unfold jg;by_cases h:((acc.map gE).map (·.1)).Nodup
 ·rw[A.2 h,cI h]; rfl
 ·rw[de h];cases hc:qb ((cT acc).map gE) false (cT acc).length with
  |true=>rfl
  |false=>exact absurd (A.1 hc) h
def qPE{ns ls:Es}(hl:ns.length<=1000)(p:ls.Perm ns)(st:xY ls):cL ns=ls:=Xc pP ls (cL ns) st (Yo ns hl).1 ((Sw ns).trans p.symm)
def qPZ{gs lg:Gs}(hl:gs.length<=1000)(p:lg.Perm gs)(st:xY (lg.map gE)):cT gs=lg:=Xc Yv lg (cT gs) (pD.1 st) (Yp gs hl).1 ((Sv gs).trans p.symm)
def qF9(src:LB):lX src=nG src/\rh src=ug src:=by
 have hl:=Yk src;have v:=qOa src;have key:lX src=nG src/\(lX src=0->(kZ src).1=(mS src).1/\cL (ff src).1.1=(lR src).1.1/\cT (ff src).1.2=(lR src).1.2):=by
  have Q:=qJb hl v 13 1;have inv:=CL (bP src).1 13 1;have Id:=Zu (Zw src);obtain⟨Im,_⟩:=inv _ Id;have Is:I1 (bP src).1 (gk (bP src).1 (kZ src).2):=(sQ [59] Im).1;obtain⟨Ir,lr⟩:=UX inv ((bP src).1.length+2) (gk (bP src).1 (kZ src).2) [] [] Is;by_cases h0:(bP src).2=0
  ·have q0:Qc false (qf src) ⟨0,0,false⟩:=⟨h0,λ_=>⟨rfl,rfl⟩⟩;have q1:Qc false (vL (bP src).1 (qf src)) (bH (bP src).1 ⟨0,0,false⟩ sA):=q0.UI v sA bu;obtain⟨q2,m2⟩:=Q.alike false _ _ Id q1;change Qc false (kZ src).2 (mS src).2 at q2;change (kZ src).2.e=0->(mS src).2.tw=false->(kZ src).1=(mS src).1 at m2;have q3:Qc false (gk (bP src).1 (kZ src).2) (bH (bP src).1 (mS src).2 [59]):=q2.ui v [59] bu rfl;have A0:vX (gk (bP src).1 (kZ src).2) [] [] (bH (bP src).1 (mS src).2 [59]) [] []:=⟨q3,λ_ _=>⟨⟨.refl _,List.Pairwise.nil⟩,⟨.refl _,List.Pairwise.nil⟩⟩⟩;have A:=qQg v Q inv ((bP src).1.length+2) ((bP src).1.length+2) _ _ [] [] [] [] A0 Is (λ_=>bn) (λ_=>bn);change vX (ff src).2 (ff src).1.1 (ff src).1.2 (lR src).2 (lR src).1.1 (lR src).1.2 at A;change (ff src).1.1.length+(ff src).1.2.length<=0+0+((bP src).1.length+2) at lr;have eT:(ff src).2.e=0->(kZ src).2.e=0:=λh=>by
    have h1:(gk (bP src).1 (kZ src).2).e=0:=by
     refine xH λhn=>?_
     have:ff src=(([],[]),gk (bP src).1 (kZ src).2):=qJD _ [] [] hn;rw[this] at h;exact hn h
    exact RY v [59] bu rfl h1
   have tT:(lR src).2.tw=false->(mS src).2.tw=false:=λh=>by
    have h1:(bH (bP src).1 (mS src).2 [59]).tw=false:=U9 (λhh=>qG9 Q.mono _ _ [] [] hh) h;rw[tn] at h1; exact h1
   have aa:yk (cT (ff src).1.2) (qb (cL (ff src).1.1) (ff src).2.tw (cL (ff src).1.1).length) (cT (ff src).1.2).length=((ff src).2.tw||(jg (ff src).1.1||jg ((ff src).1.2.map gE))):=by
    rw[qVv _ bn,qU2 _ bn,Am]
   have e1:lX src=nV (mO (bP src).1 { (ff src).2 with tw:=(ff src).2.tw||(jg (ff src).1.1||jg ((ff src).1.2.map gE)) }):=by
    rw[<- aa]; rfl
   have e2:nG src=(qy (bP src).1 (lR src).2).e:=by unfold nG; rw[bF h0]
   rw[e1,e2];have hN:(ff src).1.1.length<=1000:=bn
   have hG:(ff src).1.2.length<=1000:=bn
   obtain⟨q,hi⟩:=A;clear e1 e2 aa A0 q3 q1 q0 Ir lr;generalize (jg (ff src).1.1||jg ((ff src).1.2.map gE))=c at *;generalize (ff src).2=a at *;generalize hb:(lR src).2=b at *;generalize (bP src).1=L at *;unfold mO qy;by_cases he:a.e=0
   ·obtain⟨p1,p2⟩:=q.2 he;have be:b.e=0:=by rw[<- q.1]; exact he
    by_cases hp:L.length<=a.p
    ·have U:decide (L.length<=({ a with tw:=a.tw||c }:RS).p)=true:=cI hp;rw[U,bA (show ¬ b.p<L.length by omega),p2];unfold cU;rw[bF rfl];unfold nV;rw[bA (λh=>h he)];cases ht:(a.tw||c) with
     |true =>
      refine⟨?_,cb⟩;show(6:Int)=(b9 b 6).e;unfold b9;rw[bF be]
     |false =>
      rw[ht] at p2;refine⟨be.symm,λ_=>?_⟩;obtain⟨⟨i1,i2⟩,⟨i3,i4⟩⟩:=hi he p2;exact⟨m2 (eT he) (tT p2),qPE hN i1 i2,qPZ hG i3 i4⟩
    ·have U:decide (L.length<=({ a with tw:=a.tw||c }:RS).p)=false:=de hp;rw[U,bF (show b.p<L.length by omega)];have f2:(b9 b 12).e=12:=by unfold b9; rw[bF be]
     have g1:nV (cU ({ a with tw:=a.tw||c }:RS) false)=12:=by
      have e:cU ({ a with tw:=a.tw||c }:RS) false=b9 { a with tw:=a.tw||c } 12:=rfl;have f1:(b9 ({ a with tw:=a.tw||c }:RS) 12).e=12:=by unfold b9; rw[bF he]
      rw[e];unfold nV;rw[f1]; rfl
     have g2:(if (b9 b 12).tw=true then b9 (b9 b 12) 6 else b9 b 12).e=12:=by
      rw[qI8 b 12 6 bu,vh,f2]
     have ab:(if b.tw=true then b9 (b9 b 12) 6 else b9 b 12).e=12:=by
      rw[qI8 b 12 6 bu,vh,f2]
     rw[g1,ab];exact⟨rfl,cb⟩
   ·have be:b.e≠0:=by rw[<- q.1]; exact he
    have g1:nV (cU ({ a with tw:=a.tw||c }:RS) (decide (L.length<=({ a with tw:=a.tw||c }:RS).p)))=a.e:=by
     have e:cU ({ a with tw:=a.tw||c }:RS) (decide (L.length<=({ a with tw:=a.tw||c }:RS).p))={ a with tw:=a.tw||c }:=by
      unfold cU;split
      ·rfl
      ·exact DE (s:={ a with tw:=a.tw||c }) he 12
     rw[e];unfold nV;rw[bF he]
    have g2:(if b.tw=true then b9 (if b.p<L.length then b9 b 12 else b) 6 else if b.p<L.length then b9 b 12 else b).e=b.e:=by
     rw[DE be 12,vh,DE be 6,vh]
    rw[g1,g2];exact⟨q.1,λh=>absurd h he⟩
  ·-- ad words M ae none
   have n0:(qf src).e≠0:=h0;have hd:(vL (bP src).1 (qf src))=qf src:=by
    unfold vL bZ;rw[Of n0 1 bu sA,bA bu];exact DE n0 12
   have hT:kZ src=(eQ,qf src):=by
    unfold kZ;rw[hd];exact qGt n0
   have hs:(gk (bP src).1 (kZ src).2)=qf src:=by
    rw[hT];unfold gk bZ;rw[Of n0 4 bu [59],bA bu];exact DE n0 12
   have hG:ff src=(([],[]),qf src):=by
    unfold ff;rw[hs];exact qJD _ [] [] n0
   have hE:lX src=(bP src).2:=by
    unfold lX ri;rw[hG];have e:∀ t:RS,t.e≠0->nV (mO (bP src).1 t)=t.e:=λt ht=>by
     have e:mO (bP src).1 t=t:=by
      unfold mO cU;split
      ·rfl
      ·exact DE ht 12
     rw[e];unfold nV;rw[bF ht]
    exact e _ n0
   have hR:nG src=(bP src).2:=by unfold nG; rw[bA h0]
   exact⟨by rw[hE,hR],λh=>absurd (hE.symm.trans h) h0⟩
 refine⟨key.1,?_⟩;unfold rh ug;rw[<- key.1];by_cases he:lX src=0
 ·obtain⟨k1,k2,k3⟩:=key.2 he;rw[bF he,bF he];show SC.mk (kZ src).1 (jk (cL (ff src).1.1)) (jk (cT (ff src).1.2))=_;rw[k1,k2,k3]
 ·rw[bA he,bA he]
open Go Go.AI
def OQ:List (LB):=[[97],[98],[99],[110,97,109,101],[110],[73,110,116],[116,121,112,101],[117]]
def WT:Nat->TT->Prop
 |0,_=>False
 |n+1,t=>t.name.length<=3/\(((t.kind=1\/t.kind=2\/t.kind=3)/\t.name=[]/\t.names.list=[]/\t.kids.list=[])\/(t.kind=9/\(t.name=[65]\/t.name=[66,101,101])/\t.names.list=[]/\t.kids.list=[]) \/
   ((t.kind=4\/t.kind=5\/t.kind=6)/\t.name=[]/\t.names.list=[]/\∃ x,t.kids.list=[x]/\WT n x) \/
   ((t.kind=7\/t.kind=8)/\t.name=[]/\t.names.list.length=t.kids.list.length/\t.names.list.length<=4/\(∀ m∈t.names.list,m∈OQ)/\∀ x∈t.kids.list,WT n x))
open Go Go.AI
def qTT(n:Int):rm n∈OQ:=by
 have h:=mY (qKG n);have:(wg.all λx=>OQ.contains x)=true:=by decide +kernel
 have:=lU.1 this _ h
 simpa using this
def qW8(r:RW)(i:Nat):J9 r i∈OQ:=by
 unfold J9;split
 ·exact qTT _
 ·decide +kernel
structure RM (n:Nat) (k:Int) (i:Nat) (t:TT):Prop where
 kd:t.kind=k
 nm:t.name=[]
 eq:t.names.list.length=t.kids.list.length
 le:t.names.list.length<=i
 ns:∀ m∈t.names.list,m∈OQ
 ks:∀ x∈t.kids.list,WT n x
def RM.put{n:Nat}{k:Int}{i:Nat}{t x:TT}{key:LB}(H:RM n k i t)(hx:WT n x)(hk:key∈OQ):RM n k (i+1) (vI t key x):=by
 obtain⟨h1,h2,h3,h4,M,U⟩:=H;unfold vI;split
 ·exact⟨h1,h2,h3,bn,M,U⟩
 ·have hm:=Vf key t.names.list;generalize iT key t.names.list=m at hm;have e1:(t.names.list.take m++[key]++t.names.list.drop m).length=t.names.list.length+1:=cM
  have e2:(t.kids.list.take m++[x]++t.kids.list.drop m).length=t.kids.list.length+1:=cM
  refine⟨h1,h2,?_,?_,?_,?_⟩
  ·show(t.names.list.take m++[key]++t.names.list.drop m).length=(t.kids.list.take m++[x]++t.kids.list.drop m).length;omega
  ·show(t.names.list.take m++[key]++t.names.list.drop m).length<=i+1;omega
  ·intro y A;have A:y∈t.names.list.take m++[key]++t.names.list.drop m:=A;simp only[fb,fY] at A
   rcases A with (A|rfl)|A
   ·exact M y (qN A)
   ·exact hk
   ·exact M y (Ak A)
  ·intro y A;have A:y∈t.kids.list.take m++[x]++t.kids.list.drop m:=A;simp only[fb,fY] at A
   rcases A with (A|rfl)|A
   ·exact U y (qN A)
   ·exact hx
   ·exact U y (Ak A)
def qUV(r:RW)(d:Int):1<=py r d/\py r d<=9/\(d<=1->¬ (4<=py r d/\py r d<=8)):=by
 have:=qEO r.kind;unfold py;split <;> omega
def U8:∀ (n:Nat) (t:TT),WF n t->WF (n+1) t
 |0,t,h=>h.elim
 |n+1,t,h=>by
  rcases h with h|h|⟨k,x,M,hx,rfl⟩|⟨k,l,M,hl,hp,hs,rfl⟩
  ·exact .inl h
  ·exact .inr (.inl h)
  ·exact .inr (.inr (.inl ⟨k,x,M,U8 n x hx,rfl⟩))
  ·exact .inr (.inr (.inr ⟨k,l,M,hl,λp A=>⟨(hp p A).1,U8 n _ (hp p A).2⟩,hs,rfl⟩))
def qXS{n m:Nat}{t:TT}(h:WF n t)(hm:n<=m):WF m t:=by
 have:∀ k,WF (n+k) t:=λk=>by
  induction k with
  |zero=>exact h
  |succ k A=>exact U8 _ _ A
 have:=this (m - n)
 rwa [show n+(m - n)=m by omega] at this
def qMk(key:LB):∀ (l:List (LB)) (i:Nat) (a:LB),i<iT key l->l[i]?=some a->cX a key=true
 |[],i,a,h,_=>by simp[iT] at h
 |b::l,i,a,h,e=>by
  unfold iT at h;split at h
  ·rename_i hb;cases i with
   |zero=>cases e; exact hb
   |succ i=>exact qMk key l i a bn (by simpa using e)
  ·omega
def qMb(key:LB):∀ (l:List (LB)) (a:LB),l[iT key l]?=some a->cX a key=false
 |[],a,e=>by simp[iT] at e
 |b::l,a,e=>by
  unfold iT at e;split at e
  ·exact qMb key l a (by simpa using e)
  ·rename_i hb;cases e;exact xS.2 hb
def qUB{α:Type}(l:List α)(j:Nat)(hj:j<=l.length)(p:α)(i:Nat):(l.take j++[p]++l.drop j)[i]?=if i<j then l[i]? else if i=j then some p else l[i - 1]?:=by
 have ht:(l.take j).length=j:=by rw[ji]; omega
 rw[eH];by_cases h1:i<j
 ·rw[bF h1,j5 bn,nZ,bF h1]
 ·rw[bA h1,kz bn,ht];by_cases A:i=j
  ·rw[bF A,A,rS]; rfl
  ·rw[bA A];obtain⟨m,hm⟩:∃ m,i - j=m+1:=⟨i - j - 1,bn⟩;rw[hm];show(l.drop j)[m]?=_;rw[n6]
   congr 1; omega
def qVf{Q:LB×TT->Prop}(k:Int)(l:Es)(hs:jP l)(hq:∀ p∈l,Q p)(key:LB)(x:TT)(hk:Q (key,x)):∃ l',vI (fe k l) key x=fe k l'/\jP l'/\(∀ p∈l',Q p)/\l'.length<=l.length+1:=by
 have hn:(fe k l).names.list=l.map (·.1):=wI _;have aa:(fe k l).kids.list=l.map (·.2):=wI _;unfold vI;rw[hn,aa];generalize hj:iT key (l.map (·.1))=j;have ab:j<=l.length:=by have:=Vf key (l.map (·.1)); rw[hj,dj] at this; exact this
 split
 ·exact⟨l,rfl,hs,hq,bn⟩
 ·rename_i M;refine⟨l.take j++[(key,x)]++l.drop j,?_,?_,?_,?_⟩
  ·have g:∀ {α:Type}(a b:List α)(p:α),grown (a++[p]++b) = .mk false (a++[p]++b):=λa b p=>by
    cases a <;> rfl
   unfold fe;rw[gG,gG,gG,gG,dr,kL,dr,kL,g,g,mK,mJ,mK,mJ];rfl
  ·intro i p q hp A;rw[qUB l j ab] at hp A;by_cases h1:i+1<j
   ·rw[bF bn] at hp;rw[bF h1] at A;exact hs i p q hp A
   ·by_cases U:i+1=j
    ·rw[bF bn] at hp;rw[bA bn,bF U] at A;cases A;refine qMk key (l.map (·.1)) i p.1 (by rw[hj]; omega) ?_;rw[dP,hp]; rfl
    ·by_cases h3:i=j
     ·rw[bA bn,bF h3] at hp;rw[bA bn,bA bn,show i+1 - 1=i by omega] at A;cases hp;have ha:(l.map (·.1))[iT key (l.map (·.1))]?=some q.1:=by rw[hj,dP,<- h3,A]; rfl
      have h4:=qMb key _ _ ha;rw[hj] at ha;rw[ha] at M;cases hb:cX key q.1 with
      |true=>rfl
      |false=>exact absurd (dh some (Vl _ _ h4 hb)) M
     ·rw[bA bn,bA h3] at hp;rw[bA bn,bA bn,show i+1 - 1=i - 1+1 by omega] at A;exact hs (i - 1) p q hp A
  ·intro p hp
   rcases fb.1 hp with h1|h1
   ·rcases fb.1 h1 with U|U
    ·exact hq p (qN U)
    ·rw[fY.1 U]; exact hk
   ·exact hq p (Ak h1)
  ·simp; omega
def qSz:∀ w∈OQ,fK w=true:=bu
def ZZ{Q:LB×TT->Prop}(k:Int)(r:RW)(sub:RW->TT)(A:∀ w x,fK w=true->Q (w,sub x)):∀ (c i:Nat) (l:Es),jP l->(∀ p∈l,Q p)->∃ l',wG r sub c i (fe k l)=fe k l'/\jP l'/\(∀ p∈l',Q p)/\l'.length<=l.length+c
 |0,i,l,hs,M=>⟨l,rfl,hs,M,bn⟩
 |c+1,i,l,hs,M=>by
  obtain⟨U,h1,h2,h3,h4⟩:=qVf k l hs M (J9 r i) (sub (jU r i)) (A _ _ (qSz _ (qW8 r i)));obtain⟨l2,h5,h6,h7,h8⟩:=ZZ k r sub A c (i+1) U h2 h3;refine⟨l2,?_,h6,h7,bn⟩;rw[wG,h1,h5]
abbrev Hx:List (LB):=[[65]]
def qRe(n:Nat)(k:Int)(r:RW)(sub:RW->TT)(hk:1<=k/\k<=9)(hs:4<=k->k<=8->∀ x,WF n (sub x)):WF (n+1) (jX Hx k r sub):=by
 unfold jX;split
 ·rename_i U;have:(Hx.getD (cK r.n (Hx.length:Int)).toNat [])=[65]:=by
   have hb:=DH r.n 1 bu;have:cK r.n (Hx.length:Int)=0:=by show cK r.n 1=0; omega
   rw[this]; rfl
  rw[this];exact .inr (.inl ⟨[65],bu,bu,rfl⟩)
 split
 ·rename_i U A;split
  ·rename_i h6;exact U8 n _ (hs bn bn _)
  ·exact .inr (.inr (.inl ⟨k,_,A,hs bn bn _,rfl⟩))
 split
 ·rename_i U A M;have hc:oz r k<=4:=by
   unfold oz;split
   ·split <;> omega
   ·omega
  obtain⟨l,h1,h2,h3,h4⟩:=ZZ (Q:=QE n) k r sub (λw x hw=>⟨hw,hs bn bn x⟩) (oz r k) 0 [] (λi p q hp _=>by simp at hp) (λp hp=>by cases hp);have aa:wG r sub (oz r k) 0 (.mk k [] .nil .nil)=fe k l:=h1;rw[aa];have ab:l.length<=0+oz r k:=h4;exact .inr (.inr (.inr ⟨k,l,M,bn,h3,h2,rfl⟩))
 ·rename_i U A M;exact .inl ⟨k,bn,rfl⟩
def Xh(r:LB):uO (32::r):=by
 intro b t e;injection e with A M
 subst A; decide
def Rd.refl(s:LB):Rd s [] s:=⟨bR,λf i acc=>⟨[],i,rfl,by rw[fa]; rfl⟩⟩
def pS(f:TT->Nat)(l:Es):Nat:=(l.map λp=>f p.2).sum
def nK:Nat->TT->Nat
 |0,_=>0
 |n+1,t=>if t.kind=7\/t.kind=8 then 3*t.kids.list.length+(t.kids.list.map (nK n)).sum else match t.kids.list with
  |[]=>1
  |x::_=>1+nK n x
def UT{n:Nat}(k:Int)(A:k=7\/k=8)(l:Es):nK (n+1) (fe k l)=3*l.length+pS (nK n) l:=by
 have e:(fe k l).kids.list=l.map (·.2):=wI _;show(if k=7\/k=8 then 3*(fe k l).kids.list.length+((fe k l).kids.list.map (nK n)).sum else _)=_;rw[bF A,e,dj,fU];rfl
section
variable {n:Nat} {L:List Tok} {sub:RS->TT×RS} {ok:RS->Prop}
end
def qFa(f:TT->Nat):∀ l:Es,(∀ p∈l,p.1.length<=16/\(cn p.2).length<=20*f p.2+8)->(jB l).length<=28*l.length+20*pS f l
 |[],_=>eV _
 |[p],h=>by
  have:=h p (iR ..);simp[jB,pS]; omega
 |p::q::l,h=>by
  have h1:=h p (iR ..);have A:=qFa f (q::l) (λx hx=>h x (ia _ hx));simp only[jB,pS,dr,ve,bV,di] at A ⊢;omega
def DG{w:LB}(h:fK w=true):w.length<=16:=by
 cases w with
 |nil=>exact eV _
 |cons c q =>
  unfold fK at h;simp only[fj,oF] at h;exact h.2
def qKy(k:Int):(cr k).length<=5:=by
 unfold cr
 repeat' split
 all_goals decide
def Oj:∀ (n:Nat) (t:TT),WF n t->(cn t).length<=20*nK n t+8
 |0,t,h=>h.elim
 |n+1,t,h=>by
  rcases h with ⟨k,U,rfl⟩|⟨w,hw,_,rfl⟩|⟨k,x,U,hx,rfl⟩|⟨k,l,U,hl,hp,_,rfl⟩
  ·have A:cn (gw k)=cr k:=by
    rw[Cd];show(if k=9 then _ else if k=7 then _ else if k=8 then _ else cr k++lI [])=_;rw[bA bn,bA bn,bA bn];simp[lI]
   rw[A];have:=qKy k;omega
  ·have:=DG hw;have e:nK (n+1) (.mk 9 w .nil .nil)=1:=rfl;show w.length<=_;omega
  ·have A:cn (.mk k [] .nil (.mk true [x]))=cr k++60::(cn x++[62]):=by
    rw[Cd];show(if k=9 then _ else if k=7 then _ else if k=8 then _ else cr k++lI [x])=_;rw[bA bn,bA bn,bA bn];simp[lI]
   have h6:nK (n+1) (.mk k [] .nil (.mk true [x]))=1+nK n x:=by
    show(if k=7\/k=8 then _ else 1+nK n x)=_;rw[bA bn]
   have:=Oj n x hx;have:=qKy k;rw[A,h6];simp; omega
  ·have hf:=qFa (nK n) l (λp M=>⟨DG (hp p M).1,Oj n p.2 (hp p M).2⟩);rw[UT k U];have hb:(s8 (fe k l)).length=(jB l).length+2:=by rw[Xd]; simp
   rcases U with rfl|rfl
   ·have A:cn (fe 7 l)=s8 (fe 7 l):=by rw[Cd]; rfl
    rw[A,hb]; omega
   ·have A:cn (fe 8 l)=[85,110,105,111,110,32]++s8 (fe 8 l):=by rw[Cd]; rfl
    rw[A,bV,hb];show 6+_<=_;omega
def Xr:∀ (n:Nat) (t:TT),WF n t->nK (n+1) t=nK n t
 |0,t,h=>h.elim
 |n+1,t,h=>by
  rcases h with ⟨k,A,rfl⟩|⟨w,hw,_,rfl⟩|⟨k,x,A,hx,rfl⟩|⟨k,l,A,hl,hp,_,rfl⟩
  ·rfl
  ·rfl
  ·have M:=Xr n x hx;show(if k=7\/k=8 then _ else 1+nK (n+1) x)=(if k=7\/k=8 then _ else 1+nK n x);rw[bA bn,bA bn,M]
  ·rw[UT k A,UT k A]
   congr 1
   have:∀ l:Es,(∀ p∈l,fK p.1=true/\WF n p.2)->pS (nK (n+1)) l=pS (nK n) l:=by
    intro l
    induction l with
    |nil=>intro _; rfl
    |cons p l M =>
     intro h;have h1:=Xr n p.2 (h p (iR ..)).2;have U:=M (λx hx=>h x (ia _ hx));simp only[pS,dr,ve] at U ⊢;rw[h1,U]
   exact this l hp
def qM4{f:TT->Nat}{B:Nat}:∀ l:Es,(∀ p∈l,f p.2<=B)->pS f l<=l.length*B
 |[],_=>by simp[pS]
 |p::l,h=>by
  have h1:=h p (iR ..);have A:=qM4 l (λx hx=>h x (ia _ hx));simp only[pS,dr,ve,di,nk] at A ⊢;omega
def qR8(n B:Nat)(k:Int)(r:RW)(sub:RW->TT)(hk:1<=k/\k<=9)(hs:4<=k->k<=8->∀ x,WF n (sub x)/\nK n (sub x)<=B):nK (n+1) (jX Hx k r sub)<=12+4*B:=by
 have lf:∀ (k:Int) (nm:LB),nK (n+1) (.mk k nm .nil .nil)<=1:=λk nm=>by
  show(if k=7\/k=8 then 3*0+0 else 1)<=1;split <;> omega
 unfold jX;split
 ·have:=lf 9 (Hx.getD (cK r.n (Hx.length:Int)).toNat []);rename_i M;rw[M] at *;omega
 split
 ·rename_i M A;have hx:=hs bn bn (jU r 0);split
  ·rw[Xr _ _ hx.1]; omega
  ·have h6:nK (n+1) (.mk k [] .nil (.mk true [sub (jU r 0)]))=1+nK n (sub (jU r 0)):=by
    show(if k=7\/k=8 then _ else 1+nK n (sub (jU r 0)))=_;rw[bA bn]
   omega
 split
 ·rename_i M A U;have hc:oz r k<=4:=by
   unfold oz;split
   ·split <;> omega
   ·omega
  obtain⟨l,h1,h2,h3,h4⟩:=ZZ (Q:=λp=>nK n p.2<=B) k r sub (λw x hw=>(hs bn bn x).2) (oz r k) 0 [] (λi p q hp _=>by simp at hp) (λp hp=>by cases hp);have aa:wG r sub (oz r k) 0 (.mk k [] .nil .nil)=fe k l:=h1;have ab:l.length<=0+oz r k:=h4;rw[aa,UT k U];have h5:=qM4 l h3;have h6:l.length*B<=4*B:=nc _ bn;omega
 ·have:=lf k [];omega
def Jz:∀ (n:Nat) (t:TT),WF n t->tk t
 |0,t,h=>h.elim
 |n+1,t,h=>by
  rw[Og]
  rcases h with ⟨k,U,rfl⟩|⟨w,hw,_,rfl⟩|⟨k,x,U,hx,rfl⟩|⟨k,l,U,hl,hp,_,rfl⟩
  ·exact⟨eV _,eV _,λx hx=>by cases hx⟩
  ·exact⟨eV _,eV _,λx hx=>by cases hx⟩
  ·exact⟨eV _,by show 1<=1000; decide,λy A=>by
    have:y∈[x]:=A
    rw[fY.1 this]; exact Jz n x hx⟩
  ·have e1:(fe k l).names.list=l.map (·.1):=wI _;have e2:(fe k l).kids.list=l.map (·.2):=wI _;refine⟨by show(fe k l).names.list.length<=_; rw[e1,dj]; omega,by show(fe k l).kids.list.length<=_; rw[e2,dj]; omega,λy A=>?_⟩;rw[e2] at A;obtain⟨p,M,rfl⟩:=fk.1 A;exact Jz n p.2 (hp p M).2
def qMp{f:TT->Nat}:∀ (l:Es) (p:LB×TT),p∈l->f p.2<=pS f l
 |[],p,h=>by cases h
 |q::l,p,h=>by
  simp only[pS,dr,ve]
  rcases dK.1 h with rfl|h
  ·omega
  ·have:=qMp (f:=f) l p h;have:f p.2<=pS f l:=this;simp only[pS] at this;omega
def qOv(f:TT->Nat):∀ l:Es,(∀ p∈l,(cn p.2).length<=20*f p.2+8)->(lI (l.map (·.2))).length<=10*l.length+20*pS f l
 |[],_=>by simp[lI]
 |p::l,h=>by
  have h1:=h p (iR ..);have A:=qOv f l (λx hx=>h x (ia _ hx));simp only[dr,lI,pS,ve,bV,di,fm] at A ⊢;omega
def JT:∀ (n:Nat) (t:TT),SizeOf.sizeOf t<n->kb t t=true
 |0,t,h=>bn
 |n+1,t,h=>by
  have L:∀ l:List TT,(∀ x∈l,SizeOf.sizeOf x<n)->iJ l l=true:=by
   intro l
   induction l with
   |nil=>intro _; rfl
   |cons x l M =>
    intro A;rw[iJ,JT n x (A x (iR ..)),M (λy U=>A y (ia _ U))];rfl
  rw[qLg,L t.kids.list (λx hx=>by have:=TT.mE hx; omega)];simp
def oM(t:TT):Prop:=Om 41 [kA t.row] []=some (kS (cn t),[])
def y18{β:Type}{kt:KT β}{h:bm}{d:Nat}{x:TT}(ok:oM x):br Om (.call (.k (F_ 41)) [.k (kA x.row)]) h d kt=kt (kS (cn x)) h cj :=
 Hg 41 [kA x.row] _ (by simp only[jr]) ok (by simp only[jr])
def WZ{β:Type}{k:KO β}{h:bm}{d:Nat}{x:TT}(ok:oM x):bE Om (F_ 41) [kA x.row] h d k=k (kS (cn x)) h:=j6 41 _ _ (by simp only[jr]) ok rfl
def jn(i:Nat)(xs:List (LB)):LB:=if i=0 then Lib.join xs eO else Lib.joinTail eO xs
def qPI(i:Nat):jn i []=[]:=by unfold jn; split <;> rfl
def qMd(i:Nat)(x:LB)(r:List (LB)):jn i (x::r)=(if i=0 then [] else eO)++(x++jn (i+1) r):=by
 unfold jn;rw[bA (Nat.succ_ne_zero i)];by_cases h:i=0
 ·rw[bF h,bF h,Lib.join_cons]; rfl
 ·rw[bA h,bA h]; simp[Lib.joinTail]
def qMr(t:TT)(ok:∀ x∈t.kids.list,oM x)(i:Nat)(hi:i<=1000)(n:LB)(x:TT)(hn:t.names.list[i]?=some n)(hx:t.kids.list[i]?=some x)(mx:x∈t.kids.list)(acc:LB)(h:bm)(H:CB t h)
  (hs:acc.length+n.length+(cn x).length+10<=2000000000):ca tab.get S 41 0 3 [q1,kS acc,kI (i:Int)] h=ca tab.get S 41 0 2 [q1,kS (acc++n++[58,32]++cn x),kI ((i+1:Nat):Int)] h:=by
 have a0:acc.length+n.length<=4611686018427387904:=bn
 have a1:(acc++n).length+([58,32]:LB).length<=4611686018427387904:=cM
 have a2:(acc++n++[58,32]).length+(cn x).length<=4611686018427387904:=cM
 have A:∀ {β:Type}{h:bm}{k:KO β},bw .add 0 (kS acc) (kS n) h k=k (kS (acc++n)) h:=λ{β h k}=>vA 0 _ _ a0
 have M:∀ {β:Type}{h:bm}{k:KO β},bw .add 0 (kS (acc++n)) (kS [58,32]) h k=k (kS (acc++n++[58,32])) h:=λ{β h k}=>vA 0 _ _ a1
 have U:∀ {β:Type}{h:bm}{k:KO β},bw .add 0 (kS (acc++n++[58,32])) (kS (cn x)) h k=k (kS (acc++n++[58,32]++cn x)) h:=λ{β h k}=>vA 0 _ _ a2
 rw[TF,KB];simp only[A,M,U,bW,D1,hx,hn,H.a1,y18 (ok x mx),sT i bn]
def qVZ(t:TT)(sm:tk t)(U:t.kids.len=t.names.len)(ok:∀ x∈t.kids.list,oM x)(W:LB)(hW:W.length<=1000000000)(h:bm)(H:CB t h) :
  ∀ (i:Nat) (acc:LB),acc++(jn i (lY (t.names.list.drop i) (t.kids.list.drop i))++[125])=W->ca tab.get S 41 0 2 [q1,kS acc,kI (i:Int)] h=some (kS W,[]):=by
 obtain⟨s1,s2,_⟩:=(Og t).1 sm;refine CI t.names.len (λi hi acc e=>?_) (λi hi A acc e=>?_) <;> rw[TG,KC]
 ·have h1:¬ (i:Int)<(t.names.len:Int):=bn
  have e1:t.names.list.drop i=[]:=tP hi;rw[e1,XU,qPI,kK] at e;have hl:acc.length+([125]:LB).length<=4611686018427387904:=by
   have:=dh List.length e; simp only[bV] at this; omega
  have A1:∀ {β:Type}{h:bm}{k:KO β},bw .add 0 (kS acc) (kS [125]) h k=k (kS W) h:=λ{β h k}=>e▸vA 0 _ _ hl
  have L4:ca tab.get S 41 0 4 [kS acc] h=some (kS W,[]):=by
   rw[TE,KA];simp only[A1,gV,ZD]
  simp only[bW,rA,rD,h1,H.a1,L4]
 ·have h1:(i:Int)<(t.names.len:Int):=bn
  obtain⟨n,hn,dn,mn⟩:=o9 (l:=t.names.list) (i:=i) (by show i<t.names.len; omega);obtain⟨x,hx,dx,mx⟩:=o9 (l:=t.kids.list) (i:=i) (by show i<t.kids.len; omega);rw[dn,dx,lY,qMd] at e;have hl:=dh List.length e;simp only[bV] at hl;by_cases h0:i=0
  ·subst h0;have M:¬ (0:Int)<((0:Nat):Int):=bu
   rw[bF rfl,kK] at e;have st:=qMr t ok 0 bn n x hn hx mx acc h H bn;have fin:=A (acc++n++[58,32]++cn x) (by rw[<- e]; simp only[eH,tI]);rw[fin] at st;simp only[bW,rA,rD,h1,M,H.a1,st]
  ·have M:(0:Int)<(i:Int):=bn
   rw[bA h0] at e;rw[bA h0] at hl;have a0:acc.length+([44,32]:LB).length<=4611686018427387904:=cM
   have A0:∀ {β:Type}{h:bm}{k:KO β},bw .add 0 (kS acc) (kS [44,32]) h k=k (kS (acc++[44,32])) h:=λ{β h k}=>vA 0 _ _ a0
   have st:=qMr t ok i bn n x hn hx mx (acc++[44,32]) h H cM;have fin:=A (acc++[44,32]++n++[58,32]++cn x) (by rw[<- e]; simp only[eH,tI,eO]);rw[fin] at st;simp only[A0,bW,h1,M,H.a1,st]
def qGq:∀ (n:Nat) (t:TT),WF n t->SR n t->oM t
 |0,_,h,_=>h.elim
 |n+1,t,U,hw=>by
  have sm:=Jz (n+1) t U;obtain⟨w1,w2,w3,w4⟩:=hw;refine(gD rfl).trans ?_;show ca tab.get S 41 0 0 [kA t.row] h0=_;rw[TI,KD]
  rcases U with ⟨k,hk,rfl⟩|⟨w,hw,ag,rfl⟩|⟨k,x,hk,hx,rfl⟩|⟨k,l,hk,hl,hp,hs,rfl⟩
  ·have ab:k=1\/k=2\/k=3:=bn
   rcases ab with rfl|rfl|rfl
   ·have e:cn (gw 1)=[66,111,111,108]:=rfl;rw[e]; simp only[bW,rA,rC,rH,TT.row,gw]
   ·have e:cn (gw 2)=[73,110,116]:=rfl;rw[e]; simp only[bW,rA,rC,rH,TT.row,gw]
   ·have e:cn (gw 3)=[84,101,120,116]:=rfl;rw[e]; simp only[bW,rA,rC,rH,TT.row,gw]
  ·have k9:(TT.mk 9 w .nil .nil).kind=9:=rfl;have e:cn (TT.mk 9 w .nil .nil)=(TT.mk 9 w .nil .nil).name:=by rw[Cd,bF k9]
   rw[e];generalize (TT.mk 9 w .nil .nil)=t at *;simp only[bW,rA,rC,rH,k9]
  ·have A:(TT.mk k [] .nil (.mk true [x])).kind=k:=rfl;have kx:(TT.mk k [] .nil (.mk true [x])).kids.list=[x]:=rfl;have M:(TT.mk k [] .nil (.mk true [x])).kids.list[0]?=some x:=rfl;have e:cn (TT.mk k [] .nil (.mk true [x]))=cr k++[60]++cn x++[62]:=by
    rw[Cd,A,kx,bA bn,bA bn,bA bn];simp[lI]
   have ad:=w4 x (by rw[kx]; exact fY.2 rfl);have ok:=qGq n x hx ad;have hl:=dh List.length e;simp only[bV,di,fm] at hl;have C:=λ(β:Type) (A:KO β) (hh:bm) (d:Nat)=>WZ (k:=A) (h:=hh) (d:=d) ok
   have A1:∀ (w:LB),w.length<=10->∀ (β:Type) (h:bm) (k:KO β),bw .add 0 (kS w) (kS (cn x)) h k=k (kS (w++cn x)) h:=λw hw β h k=>vA 0 _ _ bn
   have A2:∀ (w:LB),w.length<=10->∀ (β:Type) (h:bm) (k:KO β),bw .add 0 (kS (w++cn x)) (kS [62]) h k=k (kS (w++cn x++[62])) h:=λw hw β h k=>vA 0 _ _ cM
   rw[e];generalize (TT.mk k [] .nil (.mk true [x]))=t at *
   rcases hk with rfl|rfl|rfl
   ·have B1:=A1 [76,105,115,116,60] bu;have B2:=A2 [76,105,115,116,60] bu;have e4:cr 4++[60]=[76,105,115,116,60]:=rfl;rw[e4];simp only[B1,B2,bW,rA,rC,rG,rH,A,M,C,vi]
   ·have B1:=A1 [77,97,112,60] bu;have B2:=A2 [77,97,112,60] bu;have e4:cr 5++[60]=[77,97,112,60]:=rfl;rw[e4];simp only[B1,B2,bW,rA,rC,rG,rH,A,M,C,vi]
   ·have B1:=A1 [79,112,116,60] bu;have B2:=A2 [79,112,116,60] bu;have e4:cr 6++[60]=[79,112,116,60]:=rfl;rw[e4];simp only[B1,B2,bW,rA,rC,rG,rH,A,M,C,vi]
  ·have e1:(fe k l).names.list=l.map (·.1):=wI _;have e2:(fe k l).kids.list=l.map (·.2):=wI _;have ae:(fe k l).kids.len=(fe k l).names.len:=by show(fe k l).kids.list.length=(fe k l).names.list.length; rw[e1,e2,dj,dj]
   have ok:∀ x∈(fe k l).kids.list,oM x:=λx hx=>by
    have aa:=hx;rw[e2] at aa;obtain⟨p,af,rfl⟩:=fk.1 aa;exact qGq n p.2 (hp p af).2 (w4 _ hx)
   have A:(fe k l).kind=k:=rfl;have L:=qVZ (fe k l) sm ae ok;have te:=Cd (fe k l);generalize fe k l=t at *;rw[A] at te
   rcases hk with rfl|rfl
   ·rw[bA bu,bF rfl] at te;rw[te];have L0:=L (s8 t) w2 (h0.own 1 1 (.cells (bp t.row) 0)) ⟨rfl⟩ 0 [123] (by unfold s8 jn; simp);have L1:ca tab.get S 41 0 1 [q1,kS [123]] (h0.own 1 1 (.cells (bp t.row) 0))=some (kS (s8 t),[]):=by rw[IX,Ec]; exact L0
    simp only[bW,rA,rC,rH,A,L1]
   ·rw[bA bu,bA bu,bF rfl] at te;rw[te] at w1 ⊢;have L0:=L _ w1 (h0.own 1 1 (.cells (bp t.row) 0)) ⟨rfl⟩ 0 [85,110,105,111,110,32,123] (by unfold s8 jn; simp);have L1:ca tab.get S 41 0 1 [q1,kS [85,110,105,111,110,32,123]] (h0.own 1 1 (.cells (bp t.row) 0))=some (kS ([85,110,105,111,110,32]++s8 t),[]):=by rw[IX,Ec]; exact L0
    simp only[bW,rA,rC,rH,A,L1]
def qKZ(ns ms:List (LB)){k:Int}(h:¬ k=9)(r:RW)(sub:RW->TT):jX ns k r sub=jX ms k r sub:=by unfold jX; rw[bA h,bA h]
def ZT(n:Nat)(k:Int)(nm:LB)(h:¬ (k=7\/k=8)):nK (n+1) (.mk k nm .nil .nil)=1:=by
 show(if k=7\/k=8 then 3*0+0 else 1)=1;rw[bA h]
def ZL:∀ (n:Nat) (t:TT),WF n t->nK n t<=25000000->SR n t
 |0,t,h,_=>h.elim
 |n+1,t,h,hm=>by
  have ht:=Oj (n+1) t h
  rcases h with ⟨k,U,rfl⟩|⟨w,hw,aa,rfl⟩|⟨k,x,U,hx,rfl⟩|⟨k,l,U,hl,hp,hs,rfl⟩
  ·exact⟨bn,by show 2<=_; decide,by show 0<=_; decide,λx hx=>by cases hx⟩
  ·exact⟨bn,by show 2<=_; decide,by show 0<=_; decide,λx hx=>by cases hx⟩
  ·have h6:nK (n+1) (.mk k [] .nil (.mk true [x]))=1+nK n x:=by
    show(if k=7\/k=8 then _ else 1+nK n x)=_;rw[bA bn]
   have ab:=Oj n x hx;refine⟨bn,by show 2<=_; decide,?_,λy M=>?_⟩
   ·show(lI [x]).length<=_;simp[lI]; omega
   ·have:y∈[x]:=M;rw[fY.1 this];exact ZL n x hx bn
  ·have e2:(fe k l).kids.list=l.map (·.2):=wI _;have ad:=UT (n:=n) k U l;have hf:=qFa (nK n) l (λp A=>⟨DG (hp p A).1,Oj n p.2 (hp p A).2⟩);have ha:=qOv (nK n) l (λp A=>Oj n p.2 (hp p A).2);have hb:(s8 (fe k l)).length=(jB l).length+2:=by rw[Xd]; simp
   refine⟨bn,bn,by rw[e2]; omega,λy M=>?_⟩;rw[e2] at M;obtain⟨p,A,rfl⟩:=fk.1 M;have:=qMp (f:=nK n) l p A;exact ZL n p.2 (hp p A).2 bn
abbrev Nm:=LB
def qq:LB:=[116,121,112,101,32]
def nQ:LB:=[102,110,32]
def eF(n:Nm):En:=.inr ⟨n,.nil,gw 2⟩
def SF:LB:=[100,97,116,97,32,73,110,116,59]
def U7{α:Type}(f:α->LB)(c:Nat):∀ (l:List α),(∀ x∈l,(f x).length<=c)->(l.flatMap f).length<=c*l.length
 |[],_=>bR
 |x::l,h=>by
  have:=U7 f c l (λy A=>h y (by simp[A]));have:=h x bR;rw[eJ,bV,di,xJ]; omega
def kH(ns:List (LB))(r:RW)(d:Int):Int:=if ns=[]/\1+cK r.kind 9=9 then 2 else py r d
def fZ(ns:List (LB)):Nat->RW->TT
 |0,r=>jX ns (kH ns r 0) r λ_=>.mk 0 [] .nil .nil
 |d+1,r=>jX ns (kH ns r ((d:Int)+1)) r (fZ ns d)
def DL(ns:List (LB)):Prop:=∀ w∈ns,fK w=true/\w∉DT
def Xq(ns:List (LB))(r:RW)(d:Int):1<=kH ns r d/\kH ns r d<=9/\(d<=1->¬ (4<=kH ns r d/\kH ns r d<=8))/\(kH ns r d=9->ns≠[]):=by
 have:=qUV r d;unfold kH;split
 ·exact⟨bu,bu,λ_=>bu,cb⟩
 ·rename_i h;refine⟨this.1,this.2.1,this.2.2,λA he=>h ⟨he,?_⟩⟩;unfold py at A;split at A
  ·cases A
  ·exact A
def qWy{ns:List (LB)}(hn:ns≠[])(a:Int):ns.getD (cK a (ns.length:Int)).toNat []∈ns:=by
 have hl:0<ns.length:=xK.2 hn;have hb:=DH a (ns.length:Int) bn;have hi:(cK a (ns.length:Int)).toNat<ns.length:=bn
 rw[na,fQ hi];exact qO _
def qI6{ns:List (LB)}(ok:DL ns)(n:Nat)(k:Int)(r:RW)(sub:RW->TT)(M:1<=k/\k<=9)(h0:k=9->ns≠[])(hs:4<=k->k<=8->∀ x,WF n (sub x)):WF (n+1) (jX ns k r sub):=by
 by_cases A:k=9
 ·unfold jX;rw[bF A];have:=ok _ (qWy (h0 A) r.n);exact .inr (.inl ⟨_,this.1,this.2,rfl⟩)
 ·rw[qKZ ns Hx A]; exact qRe n k r sub M hs
def qGw{ns:List (LB)}(ok:DL ns):∀ (d:Nat) (r:RW),WF (d+1) (fZ ns (d+1) r)
 |0,r=>by
  have:=Xq ns r ((0:Nat)+1);exact qI6 ok 0 (kH ns r ((0:Nat)+1)) r _ ⟨this.1,this.2.1⟩ this.2.2.2 (λh1 A=>absurd ⟨h1,A⟩ (this.2.2.1 bu))
 |d+1,r=>by
  have:=Xq ns r (((d+1:Nat):Int)+1);exact qI6 ok (d+1) (kH ns r (((d+1:Nat):Int)+1)) r _ ⟨this.1,this.2.1⟩ this.2.2.2 (λ_ _ x=>qGw ok d x)
def qPS(ns:List (LB))(n B:Nat)(k:Int)(r:RW)(sub:RW->TT)(M:1<=k/\k<=9)(hs:4<=k->k<=8->∀ x,WF n (sub x)/\nK n (sub x)<=B):nK (n+1) (jX ns k r sub)<=12+4*B:=by
 by_cases A:k=9
 ·unfold jX;rw[bF A,ZT _ _ _ bu]; omega
 ·rw[qKZ ns Hx A]; exact qR8 n B k r sub M hs
def qKS{ns:List (LB)}(ok:DL ns):∀ (d:Nat) (r:RW),nK (d+1) (fZ ns (d+1) r)<=5*4 ^ d - 4
 |0,r=>by
  have:=Xq ns r ((0:Nat)+1);have A:=this.2.2.1 bu;show nK 1 (jX ns (kH ns r ((0:Nat)+1)) r _)<=1;generalize kH ns r ((0:Nat)+1)=k at *;unfold jX;split
  ·rw[ZT _ _ _ bu]; omega
  split
  ·exact absurd ⟨bn,bn⟩ A
  split
  ·exact absurd ⟨bn,bn⟩ A
  ·rw[ZT _ _ _ bn]; omega
 |d+1,r=>by
  have:=Xq ns r (((d+1:Nat):Int)+1);have h:=qPS ns (d+1) (5*4 ^ d - 4) (kH ns r (((d+1:Nat):Int)+1)) r (fZ ns (d+1)) ⟨this.1,this.2.1⟩ (λ_ _ x=>⟨qGw ok d x,qKS ok d x⟩);have hp:1<=4 ^ d:=Nat.one_le_pow _ _ bu;have M:4 ^ (d+1)=4*4 ^ d:=by rw[RG,Nat.mul_comm]
  show nK (d+1+1) (jX ns (kH ns r (((d+1:Nat):Int)+1)) r (fZ ns (d+1)))<=_;omega
structure GT (t:TT):Prop where
 wf:WF 12 t
 wr:SR 12 t
 sm:tk t
 len:(cn t).length<=200000
def qVF{ns:List (LB)}(ok:DL ns)(d:Nat)(hd:d+1<=6)(r:RW):GT (fZ ns (d+1) r):=by
 have w:=qGw ok d r;have m:=qKS ok d r;have A:=qXS w (m:=12) bn;have mono:∀ (k n:Nat) (t:TT),WF n t->nK (n+k) t=nK n t:=λk=>by
  induction k with
  |zero=>intro n t _; rfl
  |succ k M=>intro n t h; rw[show n+(k+1)=(n+1)+k by omega,M (n+1) t (U8 n t h),Xr n t h]
 have m12:nK 12 (fZ ns (d+1) r)=nK (d+1) (fZ ns (d+1) r):=by
  have:=mono (12 - (d+1)) (d+1) _ w
  rwa [show d+1+(12 - (d+1))=12 by omega] at this
 have hp:4 ^ d<=4 ^ 5:=sJ bu bn;have U:4 ^ 5=1024:=rfl;have hl:=Oj 12 _ A;exact⟨A,ZL 12 _ A bn,Jz 12 _ A,bn⟩
def GT.text{t:TT}(g:GT t):pJ t:=qM8 12 _ g.wr g.sm
def GT.AQ{t:TT}(g:GT t):oM t:=qGq 12 _ g.wf g.wr
def tV:LB:=[100,97,116,97,32]
def vC:LB:=[32,61,32]
def pq:LB:=[59,10]
def qj:LB:=[40]
def vU:LB:=[41,32,45,62,32]
def jK(p:LB×TT):LB:=qq++p.1++vC++cn p.2++pq
def kE(g:GS):LB:=nQ++g.nm++qj++Lib.join (g.pr.list.map cn) eO++vU++cn g.rs++pq
def yc(x:SC):LB:=tV++cn x.main++pq++x.ts.list.flatMap jK++x.gs.list.flatMap kE
def Rd.nl{s r:LB}{a:List TW}(h1:Rd s a r)(M:a≠[]):Rd (10::s) a r:=by
 refine⟨by have:=h1.1; rw[di]; omega,λf i acc=>?_⟩;obtain⟨U,i1,e1,A⟩:=h1.2 f (i+1) acc;refine⟨U,i1,e1,?_⟩;obtain⟨x,xs,rfl⟩:∃ x xs,a=x::xs:=by cases a with|nil=>exact absurd rfl M|cons x xs=>exact⟨x,xs,rfl⟩
 rw[di,<- n5] at A ⊢;have nb:eu (f+xs.length+1) (10::s) i acc=eu (f+xs.length+1) s (i+1) acc:=by
  have e:cp dJ (10::s)=cp dJ s+1:=by
   show(if dJ (10:UInt8).toNat=true then cp dJ s+1 else 0)=_;rw[bF (show dJ (10:UInt8).toNat=true by decide)]
  rw[eu,eu];simp only[e,Au];simp only[show i+(cp dJ s+1)=i+1+cp dJ s by omega]
 rw[nb];exact A
def Ok{c:UInt8}(h:isWord c.toNat=false)(r:LB):uO (c::r):=by
 intro b t e;injection e with A M
 subst A; exact h
def qXJ{p:LB×TT}(hn:fK p.1=true)(w:WF 12 p.2)(r:LB):Rd (jK p++r) (l9 (.inl p)) (10::r):=by
 have h1:=Rd.name (w:=ja) bu (r:=32::(p.1++(32::61::32::(cn p.2++(59::10::r))))) (Xh _);have A:=(Rd.name hn (r:=32::61::32::(cn p.2++(59::10::r))) (Xh _)).blank bR;have M:=(Rd.sign (c:=61) bu (32::(cn p.2++(59::10::r))) cb).blank bR;have U:=RX 12 p.2 w (59::10::r) (Ok bu _);have ne:eN 12 p.2≠[]:=by
  obtain⟨k,x,q,e,_⟩:=Vj w;rw[e]; simp
 have h5:=Rd.sign (c:=59) bu (10::r) cb;have:=h1.trans (A.trans (M.trans ((U.blank ne).trans h5)));have e1:jK p++r=ja++32::(p.1++(32::61::32::(cn p.2++(59::10::r)))):=by
  unfold jK qq vC pq ja; simp
 rw[e1];exact this
def qA(l:List TT):LB:=Lib.joinTail eO (l.map cn)
def qMj:∀ (l:List TT),(∀ t∈l,WF 12 t)->∀ r,uO r->Rd (qA l++r) (qB l) r
 |[],_,r,A=>⟨by simp[qA,Lib.joinTail,qB],λf i acc=>⟨[],i,rfl,by simp[qA,Lib.joinTail,qB]⟩⟩
 |t::l,w,r,A=>by
  have M:=qMj l (λx hx=>w x (ia _ hx)) r A;have h1:=Rd.sign (c:=44) bu (32::(cn t++(qA l++r))) cb;have ne:eN 12 t≠[]:=by
   obtain⟨k,x,q,e,_⟩:=Vj (w t bR);rw[e]; simp
  have he:uO (qA l++r):=by
   cases l with
   |nil=>exact A
   |cons a b=>exact Ok bu _
  have U:=(RX 12 t (w t bR) (qA l++r) he).blank ne;have:=h1.trans (U.trans M);have e1:qA (t::l)++r=44::32::(cn t++(qA l++r)):=by
   show(eO++cn t++qA l)++r=_;generalize qA l=q;unfold eO; simp
  rw[e1];exact this
def qW1(l:List TT)(w:∀ t∈l,WF 12 t)(r:LB)(A:uO r):Rd (Lib.join (l.map cn) eO++r) (oe l) r:=by
 cases l with
 |nil=>exact⟨by simp[Lib.join,oe],λf i acc=>⟨[],i,rfl,by simp[Lib.join,oe]⟩⟩
 |cons t l =>
  have he:uO (qA l++r):=by
   cases l with
   |nil=>exact A
   |cons a b=>exact Ok bu _
  have M:=RX 12 t (w t bR) (qA l++r) he;have:=M.trans (qMj l (λx hx=>w x (ia _ hx)) r A);rw[qFt];have U:Lib.join ((t::l).map cn) eO++r=cn t++(qA l++r):=by
   have e:Lib.join ((t::l).map cn) eO=cn t++qA l:=by
    unfold qA;rw[dr,Lib.join_cons]
   rw[e,eH]
  rw[U];exact this
def qXH{g:GS}(hn:fK g.nm=true)(wp:∀ t∈g.pr.list,WF 12 t)(w:WF 12 g.rs)(r:LB):Rd (kE g++r) (l9 (.inr g)) (10::r):=by
 have h1:=Rd.name (w:=yh) bu (r:=32::(g.nm++(40::(Lib.join (g.pr.list.map cn) eO++(41::32::45::62::32::(cn g.rs++(59::10::r))))))) (Xh _);have A:=(Rd.name hn (r:=40::(Lib.join (g.pr.list.map cn) eO++(41::32::45::62::32::(cn g.rs++(59::10::r))))) (Ok bu _)).blank bR;have M:=Rd.sign (c:=40) bu (Lib.join (g.pr.list.map cn) eO++(41::32::45::62::32::(cn g.rs++(59::10::r)))) cb;have U:=qW1 g.pr.list wp (41::32::45::62::32::(cn g.rs++(59::10::r))) (Ok bu _);have h5:=Rd.sign (c:=41) bu (32::45::62::32::(cn g.rs++(59::10::r))) cb;have h6:=(Rd.arr (32::(cn g.rs++(59::10::r)))).blank bR;have ne:eN 12 g.rs≠[]:=by
  obtain⟨k,x,q,e,_⟩:=Vj w;rw[e]; simp
 have h7:=(RX 12 g.rs w (59::10::r) (Ok bu _)).blank ne;have h8:=Rd.sign (c:=59) bu (10::r) cb;have:=h1.trans (A.trans (M.trans (U.trans (h5.trans (h6.trans (h7.trans h8))))));have e1:kE g++r=yh++32::(g.nm++(40::(Lib.join (g.pr.list.map cn) eO++(41::32::45::62::32::(cn g.rs++(59::10::r)))))):=by
  unfold kE nQ qj vU pq yh; simp
 rw[e1];have e2:l9 (.inr g)=[(1,yh)]++([(1,g.nm)]++([(4,[40])]++(oe g.pr.list++([(4,[41])]++([(4,[45,62])]++(eN 12 g.rs++[(4,[59])])))))):=by
  unfold l9; simp
 rw[e2];exact this
def CP(e:En):LB:=match e with
 |.inl p=>jK p
 |.inr g=>kE g
def qXM(e:En)(w:sZ e)(r:LB):Rd (CP e++r) (l9 e) (10::r):=by
 cases e with
 |inl p=>exact qXJ w.1 w.2 r
 |inr g=>exact qXH w.1 w.2.1 w.2.2.1 r
def qUQ(e:En):l9 e≠[]:=by
 cases e with
 |inl p=>unfold l9; simp
 |inr g=>unfold l9; simp
def qPp:∀ (E:List En),(∀ e∈E,sZ e)->Rd (10::E.flatMap CP) (E.flatMap l9) [10]
 |[],_=>⟨bR,λf i acc=>⟨[],i,rfl,bR⟩⟩
 |e::E,w=>by
  rw[eJ,eJ];exact((qXM e (w e bR) (E.flatMap CP)).nl (qUQ e)).trans (qPp E (λx hx=>w x (ia _ hx)))
def qW3(main:TT)(hm:WF 12 main)(E:List En)(w:∀ e∈E,sZ e):Rd (tV++cn main++pq++E.flatMap CP) (vF main E) [10]:=by
 have ne:eN 12 main≠[]:=by
  obtain⟨k,x,q,e,_⟩:=Vj hm;rw[e]; simp
 have h1:=Rd.name (w:=sA) bu (r:=32::(cn main++(59::10::E.flatMap CP))) (Xh _);have A:=(RX 12 main hm (59::10::E.flatMap CP) (Ok bu _)).blank ne;have M:=Rd.sign (c:=59) bu (10::E.flatMap CP) cb;have:=h1.trans (A.trans (M.trans (qPp E w)));have U:tV++cn main++pq++E.flatMap CP=sA++32::(cn main++(59::10::E.flatMap CP)):=by
  unfold tV pq sA; simp
 rw[U];exact this
def qNh{src:LB}{ws:List TW}(R:Rd src ws [10]):((bP src).2=4/\(bP src).1=[]/\1500<src.length)\/((bP src).2=3/\(bP src).1=[]/\400<ws.length)\/((bP src).2=0/\(bP src).1.map tw=ws):=by
 obtain⟨h1,h2⟩:=R;obtain⟨l,i',e1,A⟩:=h2 (src.length - ws.length+1) 0 [];have fin:∀ (f i:Nat) (acc:List Tok),eu (f+1) [10] i acc = .ok acc:=λf i acc=>by rw[eu]; rfl
 rw[show src.length - ws.length+1+ws.length=src.length+1 by omega,fin,kK] at A;have ab:l.length=ws.length:=by rw[<- e1,dj]
 unfold bP jO;split
 ·rename_i e he;split at he
  ·rename_i hs; cases he; exact .inl ⟨rfl,rfl,hs⟩
  ·rw[A] at he;unfold ka at he;split at he
   ·rename_i M; cases M
   ·rename_i l' U;cases U;split at he
    ·rename_i hs; cases he; exact .inr (.inl ⟨rfl,rfl,bn⟩)
    ·cases he
 ·rename_i l' he;split at he
  ·cases he
  ·rw[A] at he;unfold ka at he;split at he
   ·cases he
   ·rename_i l2 aa;cases aa;split at he
    ·cases he
    ·cases he; exact .inr (.inr ⟨rfl,e1⟩)
end Go.Proofs.YtnlmlcfipbnpgaaGreatDoor.Ab
