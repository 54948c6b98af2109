/- Own work. Condition: what each theorem names. -/
import Derived.Test.YtnlmlcfipbnpgaaGreatDoorTabZW
import Derived.Test.YtnlmlcfipbnpgaaGreatDoorV0
set_option linter.all false
set_option maxRecDepth 100000
set_option maxHeartbeats 4000000
open Nat renaming reduceAdd->rA,reduceMul->rB,reduceLT->rC,reduceLeDiff->rD,reduceEqDiff->rE
open Int renaming reduceLT->rF,reduceLE->rG,reduceEq->rH,reduceToNat->rI
open Option renaming some.injEq->rJ,bind_eq_some_iff->rK,bind_eq_bind->rL
namespace Go.AI
def r7(ρ:List Ref):Ref->Option Ref
 |.im i=>ρ[i]?
 |.own .. => none
structure At (h:bm) (ρ:List Ref) (C:List bG):Prop where
 nodup:ρ.Nodup
 len:ρ.length=C.length
 get:∀ (i:Nat) (r:Ref) (o:bG),ρ[i]?=some r->C[i]?=some o->h.get r=some (o.eB (r7 ρ))
def yb(C:List bG):Prop:=∀ o∈C,o ≠ .dead/\∀ r∈o.refs,∃ i,r = .im i/\i<C.length
def Cell.qZ{σ τ υ:Ref->Option Ref}(c:Cell)(h:∀ r∈c.refs,∃ s t,σ r=some s/\τ s=some t/\υ r=some t):(c.eB σ).eB τ=c.eB υ:=by
 cases c with
 |ptr r off=>obtain⟨s,t,h1,A,M⟩:=h r (by simp[Cell.refs]); simp only[Cell.eB,h1,A,M]
 |cf r off len cap sz=>obtain⟨s,t,h1,A,M⟩:=h r (by simp[Cell.refs]); simp only[Cell.eB,h1,A,M]
 |gm sz rows r=>obtain⟨s,t,h1,A,M⟩:=h r (by simp[Cell.refs]); simp only[Cell.eB,h1,A,M]
 |func f dD =>
  have:∀ dD:List Ref,(∀ r∈dD,∃ s t,σ r=some s/\τ s=some t/\υ r=some t)->∃ l m,dD.mapM σ=some l/\l.mapM τ=some m/\dD.mapM υ=some m:=by
   intro dD
   induction dD with
   |nil=>intro _; exact⟨[],[],rfl,rfl,rfl⟩
   |cons r rs ih =>
    intro hh;obtain⟨s,t,h1,A,M⟩:=hh r bR;obtain⟨l,m,U,j2,j3⟩:=ih λx hx=>hh x (by simp[hx])
    exact⟨s::l,t::m,by simp[h1,U],by simp[A,j2],by simp[M,j3]⟩
  obtain⟨l,m,U,j2,j3⟩:=this dD (λr hr=>h r (by simpa [Cell.refs] using hr));simp only[Cell.eB,U,j2,j3]
 |_=>rfl
def bG.qZ{σ τ υ:Ref->Option Ref}(o:bG)(h:∀ r∈o.refs,∃ s t,σ r=some s/\τ s=some t/\υ r=some t):(o.eB σ).eB τ=o.eB υ:=by
 have hc:∀ cs:List Cell,(∀ r∈cs.flatMap Cell.refs,∃ s t,σ r=some s/\τ s=some t/\υ r=some t)->(cs.map (Cell.eB σ)).map (Cell.eB τ)=cs.map (Cell.eB υ):=by
  intro cs M;rw[fU];refine vm λc hm=>Cell.qZ c λr A=>M r (pF.2 ⟨c,hm,A⟩)
 cases o with
 |cells cs imm=>simp only[bG.eB]; rw[hc cs (λr A=>h r (by simpa [bG.refs] using A))]
 |_=>rfl
def Cell.wF{σ:Ref->Option Ref}(c:Cell)(h:∀ r∈c.refs,σ r=some r):c.eB σ=c:=by
 cases c with
 |ptr r off=>simp only[Cell.eB,h r (by simp[Cell.refs])]
 |cf r off len cap sz=>simp only[Cell.eB,h r (by simp[Cell.refs])]
 |gm sz rows r=>simp only[Cell.eB,h r (by simp[Cell.refs])]
 |func f dD =>
  have:∀ dD:List Ref,(∀ r∈dD,σ r=some r)->dD.mapM σ=some dD:=by
   intro dD
   induction dD with
   |nil=>intro _; rfl
   |cons r rs M=>intro A; simp[A r bR,M λx hx=>A x (by simp[hx])]
  simp only[Cell.eB,this dD (λr U=>h r (by simpa [Cell.refs] using U))]
 |_=>rfl
def bG.wF{σ:Ref->Option Ref}(o:bG)(h:∀ r∈o.refs,σ r=some r):o.eB σ=o:=by
 have hc:∀ cs:List Cell,(∀ r∈cs.flatMap Cell.refs,σ r=some r)->cs.map (Cell.eB σ)=cs:=by
  intro cs M;refine(vm λc hm=>Cell.wF c λr A=>M r (pF.2 ⟨c,hm,A⟩)).trans (List.map_id _)
 cases o with
 |cells cs imm=>simp only[bG.eB]; rw[hc cs (λr A=>h r (by simpa [bG.refs] using A))]
 |_=>rfl
def Cell.uh{σ:Ref->Option Ref}{f:Ref->Ref}(c:Cell)(h:∀ r∈c.refs,σ r=some (f r)):(c.eB σ).refs=c.refs.map f:=by
 cases c with
 |ptr r off=>simp only[Cell.eB,h r (by simp[Cell.refs]),Cell.refs,List.map]
 |cf r off len cap sz=>simp only[Cell.eB,h r (by simp[Cell.refs]),Cell.refs,List.map]
 |gm sz rows r=>simp only[Cell.eB,h r (by simp[Cell.refs]),Cell.refs,List.map]
 |func g dD =>
  have:∀ dD:List Ref,(∀ r∈dD,σ r=some (f r))->dD.mapM σ=some (dD.map f):=by
   intro dD
   induction dD with
   |nil=>intro _; rfl
   |cons r rs M=>intro A; simp[A r bR,M λx hx=>A x (by simp[hx])]
  simp only[Cell.eB,this dD (λr U=>h r (by simpa [Cell.refs] using U)),Cell.refs]
 |_=>rfl
def bG.uh{σ:Ref->Option Ref}{f:Ref->Ref}(o:bG)(h:∀ r∈o.refs,σ r=some (f r)):(o.eB σ).refs=o.refs.map f:=by
 have hc:∀ cs:List Cell,(∀ r∈cs.flatMap Cell.refs,σ r=some (f r))->(cs.map (Cell.eB σ)).flatMap Cell.refs=(cs.flatMap Cell.refs).map f:=by
  intro cs
  induction cs with
  |nil=>intro _; rfl
  |cons c cs U =>
   intro M;simp only[dr,eJ,gG];rw[Cell.uh c (λr A=>M r (by simp[A])),U (λr A=>M r (by simp only[eJ,fb]; exact Or.inr A))]
 cases o with
 |cells cs imm=>simp only[bG.eB,bG.refs]; exact hc cs (λr A=>h r (by simpa [bG.refs] using A))
 |_=>rfl
def XB:∀ (rs:List Ref) (i k:Nat) (r:Ref),rs.Nodup->rs[i]?=some r->idx r rs k=some (k+i)
 |[],i,k,r,_,e=>by simp at e
 |s::rs,0,k,r,_,e=>by
  simp only[vk,rJ] at e;subst e;simp[idx]
 |s::rs,i+1,k,r,hn,e=>by
  simp only[xO] at e;obtain⟨h1,M⟩:=yV.1 hn;have A:r≠s:=λe'=>h1 (by rw[<- e']; exact mY e)
  simp only[idx,de A,iN];rw[XB rs i (k+1) r M e]
  congr 1; omega
def qRo{ρ:List Ref}{i:Nat}{r:Ref}(hn:ρ.Nodup)(e:ρ[i]?=some r):iU ρ r=some (.im i):=by
 unfold iU;rw[XB ρ i 0 r hn e,nY];rfl
def pW(ρ:List Ref)(r:Ref):Ref:=(r7 ρ r).getD r
def OB{ρ:List Ref}{i:Nat}(hi:i<ρ.length):r7 ρ (.im i)=some (pW ρ (.im i))/\ρ[i]?=some (pW ρ (.im i)):=by
 have:ρ[i]?=some ρ[i]:=fQ hi;simp only[pW,r7,this,oS,and_self]
def qSp{ρ:List Ref}(hn:ρ.Nodup){i j:Nat}(hi:i<ρ.length)(hj:j<ρ.length)(e:pW ρ (.im i)=pW ρ (.im j)):i=j:=by
 have h1:=(OB hi).2;have A:=(OB hj).2;rw[<- e] at A;exact(List.lj hn) h1 A
where
 List.lj {ρ:List Ref} (hn:ρ.Nodup) {i j:Nat} {r:Ref} (h1:ρ[i]?=some r) (h2:ρ[j]?=some r):i=j:=by
  have:=XB ρ i 0 r hn h1;rw[XB ρ j 0 r hn h2] at this;simp only[nY,rJ] at this;exact this.symm
def qGv{h:bm}{ρ:List Ref}{C:List bG}(A:At h ρ C)(K:yb C):∀ (n:Nat) (todo seen:List Ref),
  (∀ r∈todo,∃ i,r = .im i/\i<C.length)->(∀ r∈seen,∃ i,r = .im i/\i<C.length) ->
  reach h n (todo.map (pW ρ)) (seen.map (pW ρ))=(reach ⟨C,.nil⟩ n todo seen).map (pW ρ)
 |0,todo,seen,_,_=>rfl
 |n+1,[],seen,_,_=>rfl
 |n+1,r::todo,seen,ht,hs=>by
  obtain⟨i,rfl,hi⟩:=ht r bR;have U:i<ρ.length:=by rw[A.len]; exact hi
  have hc:(seen.map (pW ρ)).contains (pW ρ (.im i))=seen.contains (.im i):=by
   rw[Bool.eq_iff_iff,rQ,rQ];constructor
   ·intro hm;obtain⟨s,h1,h2⟩:=fk.1 hm;obtain⟨j,rfl,hj⟩:=hs s h1;rw[qSp A.nodup (by rw[A.len]; exact hj) U h2] at h1;exact h1
   ·intro hm;exact fk.2 ⟨_,hm,rfl⟩
  rw[dr]
  conv=>lhs; unfold reach
  conv=>rhs; unfold reach
  rw[hc];cases hb:seen.contains (.im i) with
  |true =>
   rw[iv,iv];exact qGv A K n todo seen (λr hr=>ht r (by simp[hr])) hs
  |false =>
   rw[iN,iN];have aa:C[i]?=some C[i]:=fQ hi;have ab:C[i]∈C:=qO hi;obtain⟨hd,hr⟩:=K _ ab;rw[A.get i _ _ (OB U).2 aa,bm.mh (h:=⟨C,.nil⟩) aa hd];dsimp only
   rw[bG.uh (f:=pW ρ) C[i] (λr M=>by
    obtain⟨j,rfl,hj⟩:=hr r M
    exact(OB (by rw[A.len]; exact hj)).1)]
   rw[<- gG,show seen.map (pW ρ)++[pW ρ (.im i)]=(seen++[Ref.im i]).map (pW ρ) by simp];refine qGv A K n _ _ (λr M=>?_) (λr M=>?_)
   ·rcases fb.1 M with hm|hm
    ·exact hr r hm
    ·exact ht r (by simp[hm])
   ·rcases fb.1 M with hm|hm
    ·exact hs r hm
    ·rw[fY.1 hm]; exact⟨i,rfl,hi⟩
def AE(C:List bG):Prop:=yb C/\reach ⟨C,.nil⟩ cw [.im 0] []=(List.range C.length).map Ref.im
def qTC{ρ:List Ref}:((List.range ρ.length).map Ref.im).map (pW ρ)=ρ:=by
 refine List.ext_getElem? λi=>?_
 rw[dP,dP];by_cases hi:i<ρ.length
 ·rw[wu hi,(OB hi).2]; rfl
 ·rw[ky (by simpa using hi),ky (by simpa using hi)]; rfl
def At.mapM{h:bm}{ρ:List Ref}{C:List bG}(A:At h ρ C):ρ.mapM h.get=some (C.map (bG.eB (r7 ρ))):=by
 have:∀ (l:List Ref) (D:List bG),l.length=D.length->(∀ (i:Nat) (r:Ref) (o:bG),l[i]?=some r->D[i]?=some o->h.get r=some (o.eB (r7 ρ)))->l.mapM h.get=some (D.map (bG.eB (r7 ρ))):=by
  intro l
  induction l with
  |nil=>intro D hl _; cases D with
   |nil=>rfl
   |cons _ _=>simp at hl
  |cons r l U=>intro D hl M; cases D with
   |nil=>simp at hl
   |cons o D =>
    have h0:=M 0 r o rfl rfl;have h1:=U D (by simpa using hl) (λi s q e1 e2=>M (i+1) s q (by simpa using e1) (by simpa using e2));simp[h0,h1]
 exact this ρ C A.len A.get
def qS:List Ref->List Ref->List Ref
 |seen,[]=>seen
 |seen,r::todo=>if r∈seen then qS seen todo else qS (seen++[r]) todo
def qDi{h:bm}:∀ (todo:List Ref) (n:Nat) (seen:List Ref),todo.length<=n->(∀ r∈todo,r∉seen->∃ o,h.get r=some o/\o.refs=[])->reach h n todo seen=qS seen todo
 |[],0,seen,_,_=>rfl
 |[],n+1,seen,_,_=>rfl
 |r::todo,0,seen,hl,_=>by simp at hl
 |r::todo,n+1,seen,hl,M=>by
  have A:todo.length<=n:=by simpa using hl
  unfold qS;by_cases hs:r∈seen
  ·rw[bF hs,Hj n r todo seen hs];exact qDi todo n seen A λx hx=>M x (by simp[hx])
  ·rw[bA hs];obtain⟨o,h1,U⟩:=M r bR hs;rw[qi n r todo seen o hs h1,U,kK];exact qDi todo n _ A λx hx hn=>M x (by simp[hx]) λhm=>hn (by simp[hm])
section
variable {β:Type} {O:bD} {h:bm} {d:Nat} {k:KO β}
end
structure Fy (root:bG) (leaves:List bG):Prop where
 refs:root.refs=(List.range leaves.length).map λi=>Ref.im (i+1)
 live:root ≠ .dead
 leaf:∀ o∈leaves,o ≠ .dead/\o.refs=[]
 few:leaves.length<300
def Fy.closed{root:bG}{leaves:List bG}(S:Fy root leaves):yb (root::leaves):=by
 intro o ho
 rcases dK.1 ho with rfl|ho
 ·refine⟨S.live,λr A=>?_⟩;rw[S.refs] at A;obtain⟨i,hi,rfl⟩:=fk.1 A;exact⟨i+1,rfl,by simp at hi ⊢; exact hi⟩
 ·obtain⟨h1,M⟩:=S.leaf o ho;exact⟨h1,λr A=>by rw[M] at A; cases A⟩
def qFq:∀ (todo seen:List Ref),todo.Nodup->(∀ r∈todo,r∉seen)->qS seen todo=seen++todo
 |[],seen,_,_=>by simp[qS]
 |x::todo,seen,hn,hd=>by
  obtain⟨h1,M⟩:=yV.1 hn;unfold qS;rw[bA (hd x bR),qFq todo _ M (λr A hm=>?_),eH]; rfl
  rcases fb.1 hm with hm|hm
  ·exact hd r (by simp[A]) hm
  ·exact h1 (fY.1 hm▸A)
def Fy.N8{root:bG}{leaves:List bG}(S:Fy root leaves):AE (root::leaves):=by
 refine⟨S.closed,?_⟩;have h0:(bm.mk (root::leaves) .nil).get (.im 0)=some root:=bm.mh rfl S.live;show reach _ (399+1) [.im 0] []=_;rw[qi 399 (.im 0) [] [] root bR h0,S.refs,fa,kK];rw[qDi _ 399 _ (by simp; have:=S.few; omega) (λr M _=>?_),qFq _ _ ?_ ?_]
 ·rw[di,List.range_succ_eq_map,dr,fU]; rfl
 ·refine pD.2 (Ay.imp ?_);intro a b h e;simp at e; exact h e
 ·intro r M hm;obtain⟨i,_,rfl⟩:=fk.1 M;simp at hm
 ·obtain⟨i,hi,rfl⟩:=fk.1 M;have A:i<leaves.length:=by simpa using hi
  have hm:=S.leaf leaves[i] (qO A);exact⟨leaves[i],bm.mh (by show(root::leaves)[i+1]?=_; simp[A]) hm.1,hm.2⟩
def At.root{h:bm}{ρ:List Ref}{root:bG}{leaves:List bG}(A:At h ρ (root::leaves)){r:Ref}(e:ρ[0]?=some r):h.get r=some (root.eB (r7 ρ)):=A.get 0 r root e rfl
def HI(h:bm)(C:List bG):Prop:=∀ (i:Nat) (o:bG),C[i]?=some o->h.get (.im i)=some o
def HI.own{h:bm}{C:List bG}(H:HI h C)(d g:Nat)(o:bG):HI (h.own d g o) C:=λi q e=>H i q e
section
variable {β:Type} {O:bD} {h:bm} {d:Nat}
end
def WS(h:bm)(n:Nat):Prop:=∀ j,0<j->j<n->∀ o,h.get (.im j)=some o->o.refs=[]
where
 Sy {h:bm} {ρ:List Ref} {C:List bG} (A:At h ρ C):∀ r∈ρ,∃ x,h.get r=some x:=by
  intro r hr;obtain⟨k,hk,e⟩:=Ls hr;have hkC:k<C.length:=by rw[<- A.len]; exact hk
  exact⟨_,A.get k r C[k] (by rw[<- e]; exact fQ hk) (fQ hkC)⟩
structure AD (h:bm) (r:Nat) (root:bG) (leaves:List bG) (n:Nat):Prop where
 at':∃ ρ,At h ρ (root::leaves)/\ρ[0]?=some (.im r)/\∀ x∈ρ,∃ i,x = .im i
 VC:r=0->WS h n
 few:n<=h.bY.length
def AD.own{h:bm}{r:Nat}{root:bG}{leaves:List bG}{n:Nat}(X:AD h r root leaves n)(d g:Nat)(o:bG):AD (h.own d g o) r root leaves n:=by
 obtain⟨ρ,A,e0,M⟩:=X.at';refine⟨⟨ρ,⟨A.nodup,A.len,λi x q U e2=>?_⟩,e0,M⟩,X.VC,X.few⟩;obtain⟨j,rfl⟩:=M x (mY U);exact A.get i _ q U e2
section
variable {β:Type} {O:bD} {h:bm} {d:Nat} {k:KO β}
end
def qTy{h:bm}{ρ:List Ref}{C:List bG}(A:At h ρ C)(R:AE C){r:Ref}(e0:ρ[0]?=some r)(gU:Bool)(vs:List cN)(v:bt)(e1:(if gU then iF h (oneOf vs) else some (oneOf vs,[]))=some (v,[]))(M:v.refs=[r]) :
  bS gU 0 vs h=some (v.eB (iU ρ),C):=by
 letI:Sym:=⟨λ_=>0⟩
 have h0:0<C.length:=by rw[<- A.len]; exact(cQ.1 e0).1
 have er:r=pW ρ (.im 0):=by
  have:=(OB (ρ:=ρ) (i:=0) (by rw[A.len]; exact h0)).2;rw[e0] at this;exact kr this
 have ab:reach h cw [r] []=ρ:=by
  rw[er];have:=qGv A R.1 cw [.im 0] [] (λr M=>⟨0,fY.1 M,h0⟩) (λr M=>by cases M);simp only[dr,kL] at this;rw[this,R.2,<- A.len,qTC]
 rw[JI];unfold qH;simp only[e1,settle];have e2:reach h cw (((bY 0).flatMap λr=>match h.get r with|some o=>o.refs|none=>[])++v.refs) (bY 0)=ρ:=by
  show reach h cw ([]++v.refs) []=ρ;rw[kK,M]; exact ab
 refine(dh (λF:List Ref=>some (v.eB (iU F),F.map λr=>match h.get r with|some o=>o.eB (iU F)|none=>bG.dead)) e2).trans ?_;refine dh (λl=>some (v.eB (iU ρ),l)) ?_;refine List.ext_getElem? λi=>?_
 rw[dP];by_cases hi:i<C.length
 ·have U:i<ρ.length:=by rw[A.len]; exact hi
  rw[fQ U,iO,fQ hi];have hg:=A.get i ρ[i] C[i] (fQ U) (fQ hi);rw[hg];dsimp only;have hc:=R.1 C[i] (qO hi)
  rw[bG.qZ (υ:=λr=>some r) C[i] (λx hx=>by
   obtain⟨j,rfl,hj⟩:=hc.2 x hx;have aa:=OB (ρ:=ρ) (i:=j) (by rw[A.len]; exact hj)
   exact⟨_,_,aa.1,qRo A.nodup aa.2,rfl⟩),bG.wF _ λr _=>rfl]
 ·rw[ky (by rw[A.len]; exact Nat.le_of_not_lt hi),ky (Nat.le_of_not_lt hi)]; rfl
def qRz{O:bD}{g:FuncId}{A:List bt}{v:bt}{C:List bG}(ha:iG pT A=true)(hc:O g A []=some (v,C))(K:yb C)(h:bm) :
  ∃ h',(∀ {β:Type}(d:Nat)(k:KO β),bE O (.v (.c (.func g []))) A h d k=k (v.eB (back [] C.length (dC h.bY.length))) h') /\
   At h' ((List.range C.length).map λi=>Ref.im (h.bY.length+i)) C/\(∀ r o,h.get r=some o->h'.get r=some o)/\(∀ d,h'.gen d=h.gen d)/\h'.bY.length=h.bY.length+C.length:=by
 obtain⟨a1,a2,a3⟩:=ZK ha;obtain⟨h',c1,B⟩:=Hf (h:=h) g A A A [] [] [] C v _ a1 (by rw[a2]; rfl) rfl (a3 _) rfl hc (eV _) List.nodup_nil rfl;refine⟨h',λd k=>c1 d k,⟨?_,bR,λi r o e1 U=>?_⟩,λr o ho=>B.rk r o bR ho,B.gen,by rw[B.len]; rfl⟩
 ·refine pD.2 (Ay.imp ?_);intro a b aa e;simp at e; exact aa e
 ·have hi:i<C.length:=(cQ.1 U).1;rw[dP,wu hi,iO,rJ] at e1;subst e1;have hd:=(K o (mY U)).1;have M:o.eB (back [] C.length (dC h.bY.length))=o.eB (r7 ((List.range C.length).map λi=>Ref.im (h.bY.length+i))):=by
   have hid:o.eB (λr=>some r)=o:=bG.wF o λr _=>rfl
   rw[<- hid];have hk:=(K o (mY U)).2;rw[bG.qZ (υ:=r7 ((List.range C.length).map λi=>Ref.im (h.bY.length+i))),bG.qZ (υ:=r7 ((List.range C.length).map λi=>Ref.im (h.bY.length+i)))]
   ·intro r hr;obtain⟨j,rfl,hj⟩:=hk r hr;have:r7 ((List.range C.length).map λi=>Ref.im (h.bY.length+i)) (.im j)=some (.im (h.bY.length+j)):=by show _[j]?=_; rw[dP,wu hj]; rfl
    exact⟨_,_,rfl,this,this⟩
   ·intro r hr;obtain⟨j,rfl,hj⟩:=hk r hr;have:r7 ((List.range C.length).map λi=>Ref.im (h.bY.length+i)) (.im j)=some (.im (h.bY.length+j)):=by show _[j]?=_; rw[dP,wu hj]; rfl
    refine⟨_,_,rfl,?_,this⟩;have hb:Nat.blt j C.length=true:=by rw[rP]; exact hj
    simp only[back,List.getElem?_nil,hb,iv,dC,fm,Nat.sub_zero]
  have:=B.new i (o.eB (back [] C.length (dC h.bY.length))) (by
   rw[fm,nY,dP,U]; rfl) (by cases o <;> simp[bG.eB] at hd ⊢)
  rw[this,M]
end Go.AI
namespace Go.Proofs.YtnlmlcfipbnpgaaGreatDoor.Ab
open Go Go.AI
noncomputable def S:bD:=orS (SI 264) (SJ 40)
noncomputable abbrev W:n9:=ca tab.get S
noncomputable abbrev Om:bD:=r8 S W
abbrev IM(f:FuncId)(l:List bt)(v:bt):Prop:=∀ {β:Type}{k:KO β}{h:bm}{d:Nat},bE Om (.v (.c (.func f []))) l h d k=k v h
abbrev kA(r:List bL):bt:=.v (.agg (bp r))
def cK(a n:Int):Int:=if a.tmod n<0 then a.tmod n+n else a.tmod n
def DH(a n:Int)(hn:0<n):0<=cK a n/\cK a n<n:=by
 have h1:=Ft a hn;have A : -n<a.tmod n:=by
  have:=Ft (-a) hn;rw[Int.neg_tmod] at this; omega
 unfold cK;split <;> omega
def qSn(a n:Int)(hn:0<n)(hs:n<1000000):Om 15 [kI a,kI n] []=some (kI (cK a n),[]):=by
 refine(gD rfl).trans ?_;show ca tab.get S 15 0 0 [kI a,kI n] h0=_;have hb:=DH a n hn;rw[Jc,yT];unfold cK at hb ⊢;by_cases h:a.tmod n<0
 ·rw[bF h] at hb ⊢;have hw:IntKind.i64.wrap (a.tmod n+n)=a.tmod n+n:=jZ _ bn bn;simp only[bW,Vb 0 .i64 a n bn,h,hw]
 ·rw[bA h];simp only[bW,Vb 0 .i64 a n bn,h]
def CC{β:Type}{k:KO β}{h:bm}{d:Nat}(a n:Int)(hn:0<n)(hs:n<1000000):bE Om (F_ 15) [kI a,kI n] h d k=k (kI (cK a n)) h:=j6 15 _ _ rfl (qSn a n hn hs) rfl
def qVM:Om 8 [] []=some (kB true,[]):=(gD rfl).trans (Oy jv 3000 8 0 0 _ _ _ bT)
open Go Go.AI
def isDigit(n:Nat):Bool:=Nat.ble 48 n&&Nat.ble n 57
def dR(n:Nat):Bool:=Nat.ble 97 n&&Nat.ble n 122||Nat.ble 65 n&&Nat.ble n 90||Nat.beq n 95
def isWord(n:Nat):Bool:=dR n||isDigit n
def qGn(b:UInt8):Om 228 [kU b] []=some (kB (isDigit b.toNat),[]):=(gD rfl).trans (Sg jv (p:=isDigit) (N:=20) bT b)
def qQL(b:UInt8):Om 237 [kU b] []=some (kB (dR b.toNat),[]):=(gD rfl).trans (Sg jv (p:=dR) (N:=20) bT b)
def qVd(b:UInt8):Om 263 [kU b] []=some (kB (isWord b.toNat),[]):=(gD rfl).trans (Sg jv (p:=isWord) (N:=20) bT b)
def XQ(b:UInt8):Om 185 [kU b] []=some (kB (isDigit b.toNat),[]):=(gD rfl).trans (Sg jv (p:=isDigit) (N:=20) bT b)
def qIF(b:UInt8):Om 184 [kU b] []=some (kB (dR b.toNat),[]):=(gD rfl).trans (Sg jv (p:=dR) (N:=20) bT b)
def cp(p:Nat->Bool):LB->Nat
 |[]=>0
 |b::s=>if p b.toNat then cp p s+1 else 0
def Oz(p:Nat->Bool):∀ s,cp p s<=s.length:=by
 intro s
 induction s with
 |nil=>exact cB _
 |cons b s A=>unfold cp; split <;> simp <;> omega
def qKq(p:Nat->Bool)(g:FuncId)(U:∀ b,Om g [kU b] []=some (kB (p b.toNat),[]))(hp:∀ n,p n=true->n<128)(s:LB) :
  Om 262 [kS s,.v (.c (.func g []))] []=some (kI (cp p s:Nat),[]):=by
 refine(gD rfl).trans ?_;show ca tab.get S 262 0 0 [kS s,.v (.c (.func g []))] h0=_;rw[Mf,xc,qMh];have loop:∀ (m pos:Nat) (h:bm),s.length - pos=m->pos<=s.length->h.get (.own 7 1)=some (.gO s pos) ->
   ca tab.get S 262 0 1 [kS s,.v (.c (.func g [])),.v (.c (.ptr (.own 7 1) 0))] h=some (kI ((pos+cp p (s.drop pos):Nat):Int),[]):=by
  intro m
  induction m with
  |zero =>
   intro pos h hm hl M;rw[C8,uU,qHr s pos _ M bn];rw[tp _ 0 (.c (.p (.bool false))) rfl,oP,bA bu,Me,xb,oW,gV,mz _ _ rfl];have:pos=s.length:=bn
   subst this;simp[cp,oneOf]
  |succ m ih =>
   intro pos h hm hl M;obtain⟨b,hb⟩:∃ b,s[pos]?=some b:=⟨s[pos]'bn,bR⟩;have hd:s.drop pos=b::s.drop (pos+1):=by
    obtain⟨h1,h2⟩:=cQ.1 hb;rw[kV h1,h2]
   rw[C8,uU,qGW s pos _ M bn,tp _ 0 (.c (.p (.bool true))) rfl,oP,bF rfl,tp _ 1 (.c (.p (.int .i64 (pos:Int)))) rfl,
    vH s pos b hb,j6 g _ _ rfl (U b) rfl,UJ,oP]
   cases A:p b.toNat with
   |false =>
    rw[bF (show(!false)=true from rfl),gV,mz _ _ rfl,hd];simp[cp,A,oneOf]
   |true =>
    rw[bA (show ¬ (!true)=true by decide),qH2 s pos b hb (hp _ A)];refine(ih (pos+1) _ bn bn (bm.cC h 7 1 _ bu cb)).trans ?_;rw[hd];simp[cp,A];omega
 have:=loop s.length 0 (h0.own 7 1 (.gO s 0)) bn bn (bm.cC _ _ _ _ bu cb);rw[ZO];refine this.trans ?_;simp
open Go Go.AI
structure Tok where
 kind:Int
 text:LB
 n:Int
 pos:Int
def Tok.zero:Tok:=⟨0,[],0,0⟩
def Tok.row(t:Tok):List bL:=[.int .i64 t.kind,.str t.text,.int .i64 t.n,.int .i64 t.pos]
def Tok.cells(t:Tok):List Cell:=[.p (.int .i64 t.kind),.p (.str t.text),.p (.int .i64 t.n),.p (.int .i64 t.pos)]
structure One where
 t:Tok
 n:Int
 e:Int
def One.val(r:One):bt:=.dq [.agg r.t.cells,.c (.p (.int .i64 r.n)),.c (.p (.int .i64 r.e))]
def bad(e:Int):One:=⟨Tok.zero,0,e⟩
def pj(s:LB):One:=if 16<cp isWord s then bad 4 else ⟨⟨1,s.take (cp isWord s),0,0⟩,(cp isWord s:Nat),0⟩
def qO3(n:Nat)(h:isWord n=true):n<128:=by
 simp only[isWord,dR,isDigit,qP,fj,oF,xN] at h;omega
def qIG(n:Nat)(h:isDigit n=true):n<128:=by
 simp only[isDigit,fj,oF] at h;omega
def qV5(s:LB):Om 229 [kS s] []=some (kI (cp isWord s:Nat),[]):=by
 refine(gD rfl).trans ?_;show ca tab.get S 229 0 0 [kS s] h0=_;rw[MA,xk,qGg 262 _ _ rfl rfl (λ_=>rfl) (qKq isWord 263 qVd qO3 s) rfl,gV,mz _ _ rfl];rfl
def qUr(s:LB):Om 238 [kS s] []=some ((pj s).val,[]):=by
 refine(gD rfl).trans ?_;show ca tab.get S 238 0 0 [kS s] h0=_;rw[Mz,xj,He,j6 229 _ _ rfl (qV5 s) rfl,zc,oP];have hl:=Oz isWord s;unfold pj;by_cases h:16<cp isWord s
 ·rw[bF (cI bn),DB _ _ Tok.zero.cells rfl,Cg 4 2 _ _ _ _ _ (bm.cC _ _ _ _ bu cb) bu rfl rfl,gV,gV,mz _ _ rfl,bF h];rfl
 ·rw[bA (by rw[dF]; omega),XI _ _ hl,DB _ _ (Tok.cells ⟨1,s.take (cp isWord s),0,0⟩) rfl,Cg 4 2 _ _ _ _ _ (bm.cC _ _ _ _ bu cb) bu rfl rfl,gV,gV,mz _ _ rfl,bA h];rfl
def qFf(s p:LB):Om 299 [kS s,kS p] []=some (kB (decide (s.take p.length=p)),[]):=by
 refine(gD rfl).trans ?_;show ca tab.get S 299 0 0 [kS s,kS p] h0=_;rw[LH,wY,oW,oW,qGk];by_cases hl:p.length<=s.length
 ·have e:(!decide ((s.length:Int)<(p.length:Int)))=true:=cM
  simp only[e,CO,oW,XI s p.length hl,Yl,zp,gV];rw[mz _ _ rfl]; rfl
 ·have e:(!decide ((s.length:Int)<(p.length:Int)))=false:=cM
  have A:¬ s.take p.length=p:=λM=>by have:=dh List.length M; simp at this; omega
  simp only[e,Ci,zb,gV];rw[mz _ _ rfl,de A]; rfl
def qJk(s p:LB):Om 272 [kS s,kS p] []=some (kB (decide (s.take p.length=p)),[]):=by
 refine(gD rfl).trans ?_;show ca tab.get S 272 0 0 [kS s,kS p] h0=_;rw[Mb,w7,j6 299 _ _ rfl (qFf s p) rfl,gV,mz _ _ rfl]; rfl
def qUz(s p:LB):Om 296 [kS s,kS p] []=some (kS (if s.take p.length=p then s.drop p.length else s),[]):=by
 refine(gD rfl).trans ?_;show ca tab.get S 296 0 0 [kS s,kS p] h0=_;rw[LI,wZ,j6 299 _ _ rfl (qFf s p) rfl];by_cases h:s.take p.length=p
 ·have hl:p.length<=s.length:=by have:=dh List.length h; simp at this; omega
  rw[cI h,oc,oW,Vc _ _ hl,gV,mz _ _ rfl,bF h]; rfl
 ·rw[de h,mN,gV,mz _ _ rfl,bA h]; rfl
def qSF(s p:LB):Om 269 [kS s,kS p] []=some (kS (if s.take p.length=p then s.drop p.length else s),[]):=by
 refine(gD rfl).trans ?_;show ca tab.get S 269 0 0 [kS s,kS p] h0=_;rw[Md,xa,j6 296 _ _ rfl (qUz s p) rfl,gV,mz _ _ rfl]; rfl
def neg(s:LB):Nat:=if s.take 1=[45] then 1 else 0
def dT(s:LB):Nat:=s.foldl (λx b=>10*x+(b.toNat - 48)) 0
def qEN(s:LB)(b:UInt8):dT (s++[b])=10*dT s+(b.toNat - 48):=by simp[dT]
def Yh(s:LB):(∀ b∈s,isDigit b.toNat=true)->dT s<10 ^ s.length:=by
 have key:∀ (r:LB),(∀ b∈r,isDigit b.toNat=true)->∀ (x k:Nat),x<10 ^ k->r.foldl (λx b=>10*x+(b.toNat - 48)) x<10 ^ (k+r.length):=by
  intro r
  induction r with
  |nil=>intro _ x k h; exact h
  |cons b r A =>
   intro hb x k h;have h1:=hb b bR;simp only[isDigit,fj,oF] at h1;have:=A (λc hc=>hb c (by simp[hc])) (10*x+(b.toNat - 48)) (k+1) (by rw[RG]; omega);rw[show k+(b::r).length=k+1+r.length by simp; omega];exact this
 intro h
 simpa [dT] using key s h 0 0 bu
def ZV(p:Nat->Bool):∀ (s:LB),∀ b∈s.take (cp p s),p b.toNat=true:=by
 intro s
 induction s with
 |nil=>intro b hb; simp[cp] at hb
 |cons c s A =>
  intro b hb;unfold cp at hb;cases hc:p c.toNat with
  |false=>rw[hc] at hb; simp at hb
  |true =>
   rw[hc] at hb;simp only[fx,vj,dK] at hb
   rcases hb with rfl|hb
   ·exact hc
   ·exact A b hb
def fL(s:LB):One :=
 if 19<cp isDigit (s.drop (neg s)) then bad 4
 else if 9223372036854775807+neg s<dT ((s.drop (neg s)).take (cp isDigit (s.drop (neg s)))) then bad 11
 else ⟨⟨3,[],if 0<neg s then -(dT ((s.drop (neg s)).take (cp isDigit (s.drop (neg s)))):Int) else (dT ((s.drop (neg s)).take (cp isDigit (s.drop (neg s)))):Int),0⟩,((neg s+cp isDigit (s.drop (neg s)):Nat):Int),0⟩
def qNU(g n x:Nat)(hg:g<=1)(hn:n<=19)(hx:x<18446744073709551616)(h:bm)(cs:List Cell)(A:h.get (.own 2 1)=some (.cells cs 0))(hc:cs.length=4) :
  ca tab.get S 239 0 2 [.v (.c (.ptr (.own 2 1) 0)),kI (g:Int),kI (n:Int),kN .u64 (x:Int)] h=some ((if 9223372036854775807+g<x then bad 11 else ⟨⟨3,[],if 0<g then -(x:Int) else x,0⟩,((g+n:Nat):Int),0⟩:One).val,[]):=by
 rw[Mx,xh,FQ,Hm _ bn bn,nz,Hm _ bn bn,zc,oP];by_cases h1:9223372036854775807+g<x
 ·rw[bF (cI bn),DB _ _ Tok.zero.cells rfl,Cg 4 2 1 _ cs _ _ A bu hc rfl,gV,gV,mz _ _ rfl,bF h1];rfl
 ·rw[bA (by rw[dF]; omega),zc,oP,bA h1];by_cases h2:0<g
  ·have M:g=1:=bn
   subst M;rw[bF (cI bn),FQ,qRa];have e:IntKind.i64.wrap (0 - IntKind.i64.wrap (x:Int)) = -(x:Int):=by
    by_cases h3:x=9223372036854775808
    ·subst h3; decide
    ·rw[jZ (x:Int) bn bn,jZ _ bn bn]; omega
   rw[e,DB _ _ (Tok.cells ⟨3,[],-(x:Int),0⟩) rfl,nz,jZ _ bn bn,Cg 4 2 1 _ cs _ _ A bu hc rfl,gV,gV,mz _ _ rfl];simp[One.val,oneOf]
  ·have U:g=0:=bn
   subst U;rw[bA (by rw[dF]; omega),FQ,jZ (x:Int) bn bn,DB _ _ (Tok.cells ⟨3,[],(x:Int),0⟩) rfl,Cg 4 2 1 _ cs _ _ A bu hc rfl,gV,gV,mz _ _ rfl];simp[One.val,oneOf]
def qRE(s:LB)(hs:s.length<=4611686018427387904):Om 239 [kS s] []=some ((fL s).val,[]):=by
 refine(gD rfl).trans ?_;show ca tab.get S 239 0 0 [kS s] h0=_;rw[My,xi,He,oW,j6 269 _ _ rfl (qSF s [45]) rfl,oW,FP];have hg:neg s<=1:=by unfold neg; split <;> omega
 have U:neg s<=s.length:=by
  unfold neg; split
  ·rename_i h; have:=dh List.length h; simp at this; omega
  ·omega
 have eg:IntKind.i64.wrap ((s.length:Int) - ((if s.take [(45:UInt8)].length=[45] then s.drop [(45:UInt8)].length else s).length:Int))=(neg s:Int):=by
  have e0:[(45:UInt8)].length=1:=rfl;rw[e0];have e1:(s.length:Int) - ((if s.take 1=[45] then s.drop 1 else s).length:Int)=(neg s:Int):=by
   unfold neg;unfold neg at U;split
   ·rename_i h; rw[bF h] at U; simp; omega
   ·simp
  rw[e1]; exact jZ _ bn bn
 rw[eg,Vc _ _ U];generalize hr:s.drop (neg s)=r;have hn:=Oz isDigit r;rw[qGg 262 _ _ rfl rfl (λ_=>rfl) (qKq isDigit 228 qGn qIG r) rfl,zc,oP];unfold fL;rw[hr];by_cases h:19<cp isDigit r
 ·rw[bF (cI bn),DB _ _ Tok.zero.cells rfl,Cg 4 2 _ _ _ _ _ (bm.cC _ _ _ _ bu cb) bu rfl rfl,gV,gV,mz _ _ rfl,bF h];rfl
 ·have ak:r.length=s.length - neg s:=by rw[<- hr]; simp
  rw[bA (by rw[dF]; omega),bA h,nz,jZ _ bn bn,<- Int.natCast_add,DF s (neg s) (neg s+cp isDigit r) bn bn,qMh];have ed:(s.take (neg s+cp isDigit r)).drop (neg s)=r.take (cp isDigit r):=by rw[<- hr,rR]; simp
  rw[ed];have M:=ZV isDigit r;generalize ag:r.take (cp isDigit r)=A at M;have al:A.length=cp isDigit r:=by rw[<- ag]; simp[hn]
  have hv:=Yh A M;have hp:(10:Nat) ^ A.length<=10 ^ 19:=sJ bu bn;have loop:∀ (m pos:Nat) (h:bm) (cs:List Cell),A.length - pos=m->pos<=A.length->h.get (.own 29 1)=some (.gO A pos)->h.get (.own 2 1)=some (.cells cs 0)->cs.length=4 ->
    ca tab.get S 239 0 1 [.v (.c (.ptr (.own 2 1) 0)),kI (neg s:Int),kI (cp isDigit r:Nat),kN .u64 (dT (A.take pos):Int),.v (.c (.ptr (.own 29 1) 0))] h =
     some ((if 9223372036854775807+neg s<dT A then bad 11 else ⟨⟨3,[],if 0<neg s then -(dT A:Int) else dT A,0⟩,((neg s+cp isDigit r:Nat):Int),0⟩:One).val,[]):=by
   intro m
   induction m with
   |zero =>
    intro pos h cs hm hl aa ab ad;rw[Db,uX,qHr A pos _ aa bn,tp _ 0 (.c (.p (.bool false))) rfl,mN];have:A.take pos=A:=gz bn;rw[this];exact qNU (neg s) (cp isDigit r) (dT A) hg bn bn _ cs ((bm.bN h 29 1 _ 2 1 bu).trans ab) ad
   |succ m ih =>
    intro pos h cs hm hl aa ab ad;obtain⟨b,hb⟩:∃ b,A[pos]?=some b:=⟨A[pos]'bn,bR⟩;have af:=M b (mY hb);have ah:=af;simp only[isDigit,fj,oF] at ah;have ae:A.take (pos+1)=A.take pos++[b]:=by rw[qM,hb]; rfl
    have ai:=Yh (A.take (pos+1)) (λc hc=>M c (qN hc));have aj:(10:Nat) ^ (A.take (pos+1)).length<=10 ^ 19:=sJ bu cM;rw[ae,qEN] at ai;rw[ae] at aj
    rw[Db,uX,qGW A pos _ aa bn,tp _ 0 (.c (.p (.bool true))) rfl,oc,qH2 A pos b hb (qIG _ af),tp _ 2 (.c (.p (.int .i32 (b.toNat:Int)))) rfl,
     XW,Hm _ bn bn,FP]
    have e1:IntKind.i32.wrap ((b.toNat:Int) - 48)=(b.toNat:Int) - 48:=Sa .i32 _ (by show(-2147483648:Int)<=_; omega) (by show _<=(2147483647:Int); omega);rw[e1,FQ,Hm _ bn bn,nz,Hm _ bn bn];have e2:(10*(dT (A.take pos):Int)+((b.toNat:Int) - 48))=(dT (A.take (pos+1)):Int):=by rw[ae,qEN]; omega
    rw[e2];exact ih (pos+1) _ cs bn bn (bm.cC h 29 1 _ bu cb) ((bm.bN h 29 1 _ 2 1 bu).trans ab) ad
  refine(loop A.length 0 _ _ bn bn (bm.cC _ 29 1 _ bu cb) ((bm.bN _ 29 1 _ 2 1 bu).trans (bm.cC _ 2 1 _ bu cb)) rfl).trans ?_;rfl
def jc(c:UInt8):Option UInt8:=if c.toNat=110 then some 10 else if c.toNat=116 then some 9 else if c.toNat=34 then some c else if c.toNat=92 then some c else none
def wM(c:UInt8):bt:=match jc c with
 |some x=>.dq [.c (.p (.int .u8 (x.toNat:Int))),.c (.p (.bool true))]
 |none=>.dq [.c (.p (.int .u8 0)),.c (.p (.bool false))]
def qTO(c:UInt8):Om 270 [kU c] []=some (wM c,[]):=by
 refine(gD rfl).trans ?_;show ca tab.get S 270 0 0 [kU c] h0=_;rw[Mc,w9,vG,oP];unfold wM jc;by_cases h1:c.toNat=110
 ·rw[bF (cI bn),bF h1,gV,gV,mz _ _ rfl]; rfl
 rw[bA (by rw[dF]; omega),bA h1,vG,oP];by_cases A:c.toNat=116
 ·rw[bF (cI bn),bF A,gV,gV,mz _ _ rfl]; rfl
 rw[bA (by rw[dF]; omega),bA A,vG,oP];by_cases M:c.toNat=34
 ·rw[bF (cI bn),bF M,gV,gV,mz _ _ rfl]; rfl
 rw[bA (by rw[dF]; omega),bA M,vG,oP];by_cases U:c.toNat=92
 ·rw[bF (cI bn),bF U,gV,gV,mz _ _ rfl]; rfl
 rw[bA (by rw[dF]; omega),bA U,gV,gV,mz _ _ rfl]; rfl
def fc:LB->LB->Nat->One
 |[],_,_=>bad 11
 |[c],acc,i=>if c.toNat<32 then bad 11 else if c.toNat=34 then (if 200<acc.length then bad 4 else ⟨⟨2,acc,0,0⟩,((i+1:Nat):Int),0⟩) else bad 11
 |c::d::s,acc,i =>
  if c.toNat<32 then bad 11
  else if c.toNat=34 then (if 200<acc.length then bad 4 else ⟨⟨2,acc,0,0⟩,((i+1:Nat):Int),0⟩)
  else if c.toNat=92 then (match jc d with
   |none=>bad 11
   |some x=>fc s (acc++[x]) (i+2))
  else fc (d::s) (acc++[c]) (i+1)
def Sb(h:bm)(cs:List Cell)(e:Int)(A:h.get (.own 2 1)=some (.cells cs 0))(hc:cs.length=4)(O:bD)(n:Nat) :
  (bQ O (.build [(.p (.int .i64 0)),(.p (.str [])),(.p (.int .i64 0)),(.p (.int .i64 0))] []) h n λx h=>bK 4 (.v (.c (.ptr (.own 2 1) 0))) x h λ_ h=>cJ true 4 (.v (.c (.ptr (.own 2 1) 0))) h λM=>bI (kI 0) λc1=>bI (kI e) λc2=>bS true 0 [M,c1,c2] h)=some ((bad e).val,[]):=by
 rw[DB _ _ Tok.zero.cells rfl,Cg 4 2 1 _ cs _ _ A bu hc rfl,gV,gV,mz _ _ rfl];rfl
def qJl(s:LB)(b:UInt8):iM s++[[.int .u8 (b.toNat:Int)]]=iM (s++[b]):=by simp[iM]
def qPP(s:LB)(hs:s.length<=1073741824):∀ (m i:Nat) (acc:LB) (v:Cell) (h:bm) (cs:List Cell),s.length - i<=m->i<=s.length->acc.length<=i->ma [22,68] 1 v (iM acc) h->h.get (.own 2 1)=some (.cells cs 0)->cs.length=4 ->
  ca tab.get S 240 0 1 [kS s,.v (.c (.ptr (.own 2 1) 0)),.v (.c v),kI (i:Int)] h=some ((fc (s.drop i) acc i).val,[]):=by
 intro m
 induction m with
 |zero =>
  intro i acc v h cs hm hl ha G A hc;rw[zf,sE,oW,qh,oP,bA (by rw[dF]; omega),Da,uW,Sb h cs 11 A hc];rw[kT bn]; rfl
 |succ m ih =>
  intro i acc v h cs hm hl ha G A hc;by_cases hi:i<s.length
  ·obtain⟨c,U⟩:∃ c,s[i]?=some c:=⟨s[i]'hi,bR⟩;have hd:s.drop i=c::s.drop (i+1):=by
    obtain⟨h1,M⟩:=cQ.1 U;rw[kV h1,M]
   have ag:cs≠[]:=λe=>by rw[e] at hc; cases hc
   rw[zf,sE,oW,qh,oP,bF (cI bn),vH s i c U,qh,oP];rw[hd];by_cases h1:c.toNat<32
   ·rw[bF (cI bn),Sb h cs 11 A hc];cases s.drop (i+1) <;> simp[fc,h1]
   rw[bA (by rw[dF]; omega),vG];by_cases M:c.toNat=34
   ·have e:decide ((c.toNat:Int)=34)=true:=cI bn;have ea:(iM acc).length=acc.length:=by simp[iM]
    simp only[e,CO,qFb G,ea,zc,zp,oP,vG];by_cases h3:200<acc.length
    ·rw[bF (cI bn),Sb h cs 4 A hc];cases s.drop (i+1) <;> simp[fc,M,h3]
    ·rw[bA (by rw[dF]; omega),bF trivial,qLo G,DB _ _ (Tok.cells ⟨2,acc,0,0⟩) rfl,nz,jZ _ bn bn,Cg 4 2 1 _ cs _ _ A bu hc rfl,gV,gV,mz _ _ rfl];cases s.drop (i+1) <;> simp[fc,M,h3,One.val,oneOf]
   ·have e:decide ((c.toNat:Int)=34)=false:=de bn;simp only[e,Ci,zb,mN,vG];have plain:∀ (hn:¬ (c.toNat=92/\i+1<s.length)),fc (c::s.drop (i+1)) acc i=fc (s.drop (i+1)) (acc++[c]) (i+1):=by
     intro hn;cases hr:s.drop (i+1) with
     |nil=>simp[fc,h1,M]
     |cons d t =>
      have:i+1<s.length:=by
       have:=dh List.length hr; simp at this; omega
      have:¬ c.toNat=92:=λe=>hn ⟨e,this⟩
      simp[fc,h1,M,this]
    have go:∀ (x:UInt8) (j:Nat) (hj:i<=j) (aa:j+1<=s.length) (dd:Nat) (ab:dd∈[22,68]) (ad:dd≠2) (ae:dd+1<1048576) (t':Nat), 
      (bQ (r8 S (ca tab.get S)) (.cm 1 1 [(.p (.int .u8 0))] [(0,(.k (kU x)))] false) h t' λah h=>bQ (r8 S (ca tab.get S)) (.append 1 1 false (.k (.v (.c v))) (.k ah)) h dd λai h=>ca tab.get S 240 0 2 [kS s,.v (.c (.ptr (.own 2 1) 0)),ai,kI (j:Int)] h)=some ((fc (s.drop (j+1)) (acc++[x]) (j+1)).val,[]):=by
     intro x j hj aa dd ab ad ae t';rw[qg (.cm 1 1 [(.p (.int .u8 0))] [(0,(.k (kU x)))] false) (j7 1 true [[.int .u8 (x.toNat:Int)]]) rfl];obtain⟨v',h',G',e',dY⟩:=qDu (by':=1) (new:=[[.int .u8 (x.toNat:Int)]]) true G ab bR bR (by simp[iM]; omega) ae;rw[e',Mv,xf,nz,jZ _ bn bn];rw[qJl] at G';have:=ih (j+1) (acc++[x]) v' h' cs bn aa cM G' (dY 2 1 _ (oC ad) A (λe=>ag (by cases e; rfl))) hc;rw[show((j:Int)+1)=((j+1:Nat):Int) by omega];exact this
    by_cases h4:c.toNat=92
    ·have e4:decide ((c.toNat:Int)=92)=true:=cI bn;have ew:IntKind.i64.wrap ((i:Int)+1)=((i+1:Nat):Int):=by rw[jZ _ bn bn]; omega
     simp only[e4,CO,nz,oW,qh,zp,oP,ew];by_cases h5:i+1<s.length
     ·obtain⟨d,af⟩:∃ d,s[i+1]?=some d:=⟨s[i+1]'h5,bR⟩;have aj:s.drop (i+1)=d::s.drop (i+1+1):=by
       obtain⟨q1,q2⟩:=cQ.1 af;rw[kV q1,q2]
      have key:fc (c::s.drop (i+1)) acc i=match jc d with|none=>bad 11|some x=>fc (s.drop (i+1+1)) (acc++[x]) (i+2):=by
       rw[aj]; simp[fc,h4]
      rw[bF (cI bn),vH s (i+1) d af,j6 270 _ _ rfl (qTO d) (by unfold wM; split <;> rfl),key];unfold wM;cases ak:jc d with
      |none =>
       dsimp only;rw[tp _ 0 _ rfl,tp _ 1 _ rfl,UJ];exact Sb h cs 11 A hc (r8 S (ca tab.get S)) 64
      |some x =>
       dsimp only;rw[tp _ 0 _ rfl,tp _ 1 _ rfl,UJ,oP,bA bu];exact go x (i+1) bn bn 68 bu bu bu 67
     ·rw[bA (by rw[dF]; omega),plain (λq=>h5 q.2)];exact go c i bn bn 22 bu bu bu 21
    ·have e4:decide ((c.toNat:Int)=92)=false:=de bn;simp only[e4,Ci,zb,mN];rw[plain (λq=>h4 q.1)];exact go c i bn bn 22 bu bu bu 21
  ·rw[zf,sE,oW,qh,oP,bA (by rw[dF]; omega),Da,uW,Sb h cs 11 A hc];rw[kT bn]; rfl
def kF(s:LB):One:=fc (s.drop 1) [] 1
def qSN(s:LB)(hs:s.length<=1073741824)(h1:1<=s.length):Om 240 [kS s] []=some ((kF s).val,[]):=by
 refine(gD rfl).trans ?_;show ca tab.get S 240 0 0 [kS s] h0=_;rw[Mw,xg,He];exact qPP s hs s.length 1 [] _ _ _ bn h1 bR (ma.nil _ 1 _) (bm.cC _ _ _ _ bu cb) rfl
open Go Go.AI
def iy:LB:=[123,125,60,62,44,58,40,41,46,36,124,61,59]
def iK(n:Nat):Bool:=Nat.beq n 123||Nat.beq n 125||Nat.beq n 60||Nat.beq n 62||Nat.beq n 44||Nat.beq n 58||Nat.beq n 40||Nat.beq n 41||Nat.beq n 46||Nat.beq n 36||Nat.beq n 124||Nat.beq n 61||Nat.beq n 59
def dJ(n:Nat):Bool:=Nat.beq n 32||Nat.beq n 9||Nat.beq n 10||Nat.beq n 13
def qO8(b:UInt8):Om 162 [kS [123,125,60,62,44,58,40,41,46,36,124,61,59],kS [b]] []=some (kB (iK b.toNat),[]):=by
 refine(gD rfl).trans ?_;have:=qHT (T:=tab.get) (S:=S) jv (f:=162) (p:=iK) (N:=60) (av:=λn=>[kS [123,125,60,62,44,58,40,41,46,36,124,61,59],kS [UInt8.ofNat n]]) bT b;rw[Av] at this;exact this
def qSm(b:UInt8):Om 162 [kS [32,9,10,13],kS [b]] []=some (kB (dJ b.toNat),[]):=by
 refine(gD rfl).trans ?_;have:=qHT (T:=tab.get) (S:=S) jv (f:=162) (p:=dJ) (N:=60) (av:=λn=>[kS [32,9,10,13],kS [UInt8.ofNat n]]) bT b;rw[Av] at this;exact this
def qPb:Om 271 [kS [45,62,32,58,61]] []=some (.v (.c (.p (.slice 1 true [[.str [45,62]],[.str [58,61]]]))),[]) :=
 (gD rfl).trans (Oy jv 200 271 0 0 _ _ _ bT)
def ub:LB:=[45,62]
def ua:LB:=[58,61]
def ig(s:LB):One :=
 if s.take 2=ub then ⟨⟨4,ub,0,0⟩,2,0⟩ else if s.take 2=ua then ⟨⟨4,ua,0,0⟩,2,0⟩
 else match s with
  |[]=>bad 11
  |c::_=>if iK c.toNat then ⟨⟨4,[c],0,0⟩,1,0⟩ else bad 11
def qSA(s:LB)(c:UInt8)(t:LB)(hs:s=c::t)(h:bm)(cs:List Cell)(A:h.get (.own 2 1)=some (.cells cs 0))(hc:cs.length=4) :
  ca tab.get S 241 0 2 [kS s,.v (.c (.ptr (.own 2 1) 0))] h=some ((if iK c.toNat then ⟨⟨4,[c],0,0⟩,1,0⟩ else bad 11:One).val,[]):=by
 have hl:1<=s.length:=by rw[hs]; simp
 have M:s.take 1=[c]:=by rw[hs]; rfl
 have U:=λ(O:bD) (h:bm) (d:Nat) (k:bt->bm->dA)=>XI (O:=O) (h:=h) (d:=d) (k:=k) s 1 hl
 rw[Mt,xd];rw[show(∀ (O:bD) (h:bm) (d:Nat) (k:bt->bm->dA),bQ O (.slice 0 true (.k (kS s)) none (some (.k (kI 1))) none) h d k=k (kS (s.take 1)) h) from U];rw[M,j6 162 _ _ rfl (qO8 c) rfl,UJ,oP];cases hp:iK c.toNat with
 |false=>rw[bF (show(!false)=true from rfl)]; exact Sb h cs 11 A hc (r8 S (ca tab.get S)) 25
 |true =>
  rw[bA (show ¬ (!true)=true by decide)];rw[show(∀ (O:bD) (h:bm) (d:Nat) (k:bt->bm->dA),bQ O (.slice 0 true (.k (kS s)) none (some (.k (kI 1))) none) h d k=k (kS (s.take 1)) h) from U];rw[M,DB _ _ (Tok.cells ⟨4,[c],0,0⟩) rfl,Cg 4 2 1 _ cs _ _ A bu hc rfl,gV,gV,mz _ _ rfl];rfl
def qUR(s:LB)(hs:1<=s.length):Om 241 [kS s] []=some ((ig s).val,[]):=by
 obtain⟨c,t,A⟩:∃ c t,s=c::t:=by cases s with
  |nil=>simp at hs
  |cons c t=>exact⟨c,t,rfl⟩
 refine(gD rfl).trans ?_;show ca tab.get S 241 0 0 [kS s] h0=_;rw[Mu,xe,He,j6 271 _ _ rfl qPb rfl,ZQ];have U:=bm.cC h0 2 (h0.gen 2+1) (.cells [.p (.int .i64 0),.p (.str []),.p (.int .i64 0),.p (.int .i64 0)] 0) bu cb;generalize (h0.own 2 (h0.gen 2+1) (.cells [.p (.int .i64 0),.p (.str []),.p (.int .i64 0),.p (.int .i64 0)] 0))=h at U;have step:∀ (i:Nat) (two:LB),[[bL.str [45,62]],[bL.str [58,61]]][i]?=some [.str two]->two.length=2->i<=1 ->
   ca tab.get S 241 0 1 [kS s,.v (.c (.ptr (.own 2 (h0.gen 2+1)) 0)),.v (.c (.p (.slice 1 true [[.str [45,62]],[.str [58,61]]]))),kI (2:Nat),kI (i:Int)] h =
    if s.take 2=two then some ((⟨⟨4,two,0,0⟩,2,0⟩:One).val,[]) else ca tab.get S 241 0 1 [kS s,.v (.c (.ptr (.own 2 (h0.gen 2+1)) 0)),.v (.c (.p (.slice 1 true [[.str [45,62]],[.str [58,61]]]))),kI (2:Nat),kI ((i+1:Nat):Int)] h:=by
  intro i two hi M aa;rw[C9,uV,qh,oP,bF (cI bn),Vh 1 _ _ i _ hi,qNn 1 0 _ (.str two) rfl,j6 272 _ _ rfl (qJk s two) rfl,oP,M];by_cases he:s.take 2=two
  ·rw[bF (cI he),bF he,DB _ _ (Tok.cells ⟨4,two,0,0⟩) rfl,oW,M,Cg 4 2 _ _ _ _ _ U bu rfl rfl,gV,gV,mz _ _ rfl];rfl
  ·rw[bA (by rw[dF]; exact he),bA he,nz,jZ _ bn bn];rfl
 have s0:=step 0 [45,62] rfl rfl bn;have s1:=step 1 [58,61] rfl rfl bn;show ca tab.get S 241 0 1 [_,_,_,kI (2:Nat),kI ((0:Nat):Int)] h=_;rw[s0,s1];unfold ig ub ua;split
 ·rfl
 split
 ·rfl
 rw[C9,uV,qh,oP,bA (by rw[dF]; omega)];refine(qSA s c t A h _ U rfl).trans ?_;rw[A]
open Go Go.AI
def eE:LB->Bool
 |[]=>false
 |c::t=>isDigit c.toNat||(decide (c.toNat=45)&&match t with|[]=>false|d::_=>isDigit d.toNat)
def lh(s:LB):One :=
 match s with
 |[]=>bad 11
 |c::_=>if dR c.toNat then pj s else if eE s then fL s else if c.toNat=34 then kF s else ig s
def Xz(r:One)(h:bm)(cs:List Cell)(hh:h.get (.own 2 1)=some (.cells cs 0))(hc:cs.length=4) :
  (fV r.val 0 h λA h=>fV r.val 1 h λM h=>fV r.val 2 h λU h=>bK 4 (.v (.c (.ptr (.own 2 1) 0))) A h λ_ h=>cJ true 4 (.v (.c (.ptr (.own 2 1) 0))) h λc0=>bI M λc1=>bI U λc2=>bS true 0 [c0,c1,c2] h)=some (r.val,[]):=by
 rw[show r.val = .dq [.agg r.t.cells,.c (.p (.int .i64 r.n)),.c (.p (.int .i64 r.e))] from rfl,tp _ 0 _ rfl,tp _ 1 _ rfl,tp _ 2 _ rfl,Cg 4 2 1 _ cs _ _ hh bu hc rfl,gV,gV,mz _ _ rfl];rfl
def Xn(s:LB)(c:UInt8)(t:LB)(A:s=c::t)(hs:s.length<=1073741824)(b:Bool)(h:bm)(cs:List Cell)(M:h.get (.own 2 1)=some (.cells cs 0))(hc:cs.length=4) :
  ca tab.get S 176 0 1 [kS s,.v (.c (.ptr (.own 2 1) 0)),kU c,kB b] h=some ((if b then fL s else if c.toNat=34 then kF s else ig s).val,[]):=by
 have hl:1<=s.length:=by rw[A]; simp
 rw[Nf,xn,oP];cases b with
 |true =>
  rw[bF rfl,j6 239 _ _ rfl (qRE s bn) rfl];exact Xz _ h cs M hc
 |false =>
  rw[bA bu,vG,oP];by_cases h1:c.toNat=34
  ·rw[bF (cI bn),j6 240 _ _ rfl (qSN s hs hl) rfl];simp only[h1,fx];exact Xz _ h cs M hc
  ·rw[bA (by rw[dF]; omega),j6 241 _ _ rfl (qUR s hl) rfl];simp only[h1,fC];exact Xz _ h cs M hc
def qWA(s:LB)(hs:s.length<=1073741824)(hl:1<=s.length):Om 176 [kS s] []=some ((lh s).val,[]):=by
 obtain⟨c,t,A⟩:∃ c t,s=c::t:=by cases s with
  |nil=>simp at hl
  |cons c t=>exact⟨c,t,rfl⟩
 have ab:s[0]?=some c:=by rw[A]; rfl
 refine(gD rfl).trans ?_;show ca tab.get S 176 0 0 [kS s] h0=_;rw[Ng,xo,He];have U:(h0.own 2 (h0.gen 2+1) (.cells [.p (.int .i64 0),.p (.str []),.p (.int .i64 0),.p (.int .i64 0)] 0)).get (.own 2 1)=_:=bm.cC h0 2 (h0.gen 2+1) (.cells [.p (.int .i64 0),.p (.str []),.p (.int .i64 0),.p (.int .i64 0)] 0) bu cb;generalize (h0.own 2 (h0.gen 2+1) (.cells [.p (.int .i64 0),.p (.str []),.p (.int .i64 0),.p (.int .i64 0)] 0))=h at U;rw[show h0.gen 2+1=1 from rfl];have ei:∀ (k:bt->bm->dA),eX (kS s) (kI 0) h k=k (kU c) h:=λk=>vH s 0 c ab
 rw[ei,j6 237 _ _ rfl (qQL c) rfl,oP];have hO:lh s=if dR c.toNat then pj s else if eE s then fL s else if c.toNat=34 then kF s else ig s:=by rw[A]; rfl
 rw[hO];cases hL:dR c.toNat with
 |true =>
  rw[bF rfl,j6 238 _ _ rfl (qUr s) rfl];exact Xz _ h _ U rfl
 |false =>
  rw[bA bu,j6 228 _ _ rfl (qGn c) rfl,oP];simp only[gh,fC];cases hD:isDigit c.toNat with
  |true =>
   have M:eE s=true:=by rw[A]; simp[eE,hD]
   rw[bF rfl,M];exact Xn s c t A hs true h _ U rfl
  |false =>
   rw[bA bu,vG];by_cases aa:c.toNat=45
   ·have e:decide ((c.toNat:Int)=45)=true:=cI bn;simp only[e,CO,oW,zc,zp];cases t with
    |nil =>
     have e1:decide ((1:Int)<(s.length:Int))=false:=de (by rw[A]; simp);have M:eE s=false:=by rw[A]; simp[eE,hD]
     simp only[e1,Ci,zb];rw[M];exact Xn s c [] A hs false h _ U rfl
    |cons d u =>
     have e1:decide ((1:Int)<(s.length:Int))=true:=cI (by rw[A]; simp; omega);have M:eE s=isDigit d.toNat:=by rw[A]; show(isDigit c.toNat||(decide (c.toNat=45)&&isDigit d.toNat))=_; rw[hD,cI aa]; rfl
     have ad:∀ (k:bt->bm->dA),eX (kS s) (kI 1) h k=k (kU d) h:=λk=>vH s 1 d (by rw[A]; rfl)
     simp only[e1,CO,ad,zp];rw[j6 228 _ _ rfl (qGn d) rfl,M];exact Xn s c (d::u) A hs _ h _ U rfl
   ·have e:decide ((c.toNat:Int)=45)=false:=de bn;have M:eE s=false:=by rw[A]; simp[eE,hD,aa]
    simp only[e,Ci,zb];rw[M];exact Xn s c t A hs false h _ U rfl
open Go Go.AI
def qJh:∀ (k:Nat) (s acc:LB) (i:Nat),s.length<=k->(fc s acc i).e=0->∃ n:Nat,(fc s acc i).n=n/\i+1<=n/\n<=i+s.length:=by
 intro k
 induction k with
 |zero =>
  intro s acc i A he;cases s with
  |nil=>simp[fc,bad] at he
  |cons _ _=>simp at A
 |succ k ih =>
  intro s acc i A he
  match s,A,he with
  |[],_,he=>simp[fc,bad] at he
  |[c],_,he =>
   unfold fc at he ⊢;by_cases h1:c.toNat<32
   ·rw[bF h1] at he; simp[bad] at he
   rw[bA h1] at he ⊢;by_cases M:c.toNat=34
   ·rw[bF M] at he ⊢;by_cases U:200<acc.length
    ·rw[bF U] at he; simp[bad] at he
    ·rw[bA U]; exact⟨i+1,rfl,bn,bR⟩
   ·rw[bA M] at he; simp[bad] at he
  |c::d::s,A,he =>
   unfold fc at he ⊢;by_cases h1:c.toNat<32
   ·rw[bF h1] at he; simp[bad] at he
   rw[bA h1] at he ⊢;by_cases M:c.toNat=34
   ·rw[bF M] at he ⊢;by_cases U:200<acc.length
    ·rw[bF U] at he; simp[bad] at he
    ·rw[bA U]; exact⟨i+1,rfl,bn,bR⟩
   rw[bA M] at he ⊢;by_cases h4:c.toNat=92
   ·rw[bF h4] at he ⊢;cases hm:jc d with
    |none=>rw[hm] at he; simp[bad] at he
    |some x =>
     rw[hm] at he;obtain⟨n,e1,e2,e3⟩:=ih s (acc++[x]) (i+2) (by simp at A; omega) he;exact⟨n,e1,bn,cM⟩
   ·rw[bA h4] at he ⊢;obtain⟨n,e1,e2,e3⟩:=ih (d::s) (acc++[c]) (i+1) (by simp at A ⊢; omega) he;exact⟨n,e1,bn,by simp at e3 ⊢; omega⟩
def qHK(s:LB)(hl:1<=s.length)(he:(lh s).e=0):∃ n:Nat,(lh s).n=n/\1<=n/\n<=s.length:=by
 obtain⟨c,t,A⟩:∃ c t,s=c::t:=by cases s with
  |nil=>simp at hl
  |cons c t=>exact⟨c,t,rfl⟩
 have hO:lh s=if dR c.toNat then pj s else if eE s then fL s else if c.toNat=34 then kF s else ig s:=by rw[A]; rfl
 rw[hO] at he ⊢;by_cases h1:dR c.toNat=true
 ·rw[bF h1] at he ⊢;unfold pj at he ⊢;by_cases M:16<cp isWord s
  ·rw[bF M] at he; simp[bad] at he
  ·rw[bA M];refine⟨cp isWord s,rfl,?_,Oz _ _⟩;rw[A]; simp[cp,isWord,h1]
 rw[bA h1] at he ⊢;by_cases M:eE s=true
 ·rw[bF M] at he ⊢;unfold fL at he ⊢;by_cases h3:19<cp isDigit (s.drop (neg s))
  ·rw[bF h3] at he; simp[bad] at he
  rw[bA h3] at he ⊢;by_cases h4:9223372036854775807+neg s<dT ((s.drop (neg s)).take (cp isDigit (s.drop (neg s))))
  ·rw[bF h4] at he; simp[bad] at he
  rw[bA h4];refine⟨neg s+cp isDigit (s.drop (neg s)),rfl,?_,?_⟩
  ·by_cases U:c=45
   ·have:neg s=1:=by unfold neg; rw[A,U]; rfl
    omega
   ·have hn:neg s=0:=by unfold neg; rw[A]; rw[bA (by simp[U])]
    have aa:¬ c.toNat=45:=λe=>U (jj.1 e)
    have hd:isDigit c.toNat=true:=by
     rw[A] at M;have ab:(isDigit c.toNat||(decide (c.toNat=45)&&_))=true:=M;rw[de aa] at ab
     simpa using ab
    rw[hn,A];simp[cp,hd]
  ·have:=Oz isDigit (s.drop (neg s));simp at this;unfold neg at this ⊢;split
   ·rename_i h; rw[bF h] at this; have:=dh List.length h; simp at this; omega
   ·rename_i h; rw[bA h] at this; omega
 rw[bA M] at he ⊢;by_cases h3:c.toNat=34
 ·rw[bF h3] at he ⊢;obtain⟨n,e1,e2,e3⟩:=qJh _ (s.drop 1) [] 1 (cB _) he;exact⟨n,e1,bn,by simp at e3; omega⟩
 rw[bA h3] at he ⊢;unfold ig at he ⊢;by_cases h4:s.take 2=ub
 ·rw[bF h4];have:=dh List.length h4;simp[ub] at this;exact⟨2,rfl,bn,bn⟩
 rw[bA h4] at he ⊢;by_cases h5:s.take 2=ua
 ·rw[bF h5];have:=dh List.length h5;simp[ua] at this;exact⟨2,rfl,bn,bn⟩
 rw[bA h5] at he ⊢;rw[A] at he ⊢;dsimp only at he ⊢;by_cases h6:iK c.toNat=true
 ·rw[bF h6]; exact⟨1,rfl,bn,bR⟩
 ·rw[bA h6] at he; simp[bad] at he
def eu:Nat->LB->Nat->List Tok->Except Int (List Tok)
 |0,_,_,acc=>.ok acc
 |f+1,s,i,acc =>
  let k:=cp dJ s
  match s.drop k with
  |[]=>.ok acc
  |c::r =>
   let o:=lh (c::r)
   if o.e=0 then eu f ((c::r).drop o.n.toNat) (i+k+o.n.toNat) (acc++[{ o.t with pos:=((i+k:Nat):Int) }]) else .error o.e
def ka:Except Int (List Tok)->Except Int (List Tok)
 |.error e=>.error e
 |.ok l=>if 400<l.length then .error 3 else .ok l
def jO(s:LB):Except Int (List Tok):=if 1500<s.length then .error 4 else ka (eu (s.length+1) s 0 [])
def kW:Except Int (List Tok)->bt
 |.error e=>.dq [.c (.p .bq),.c (.p (.int .i64 e))]
 |.ok l=>.dq [.c (.p (iq 4 (l.map Tok.row))),.c (.p (.int .i64 0))]
def qN5(s:LB)(hs:s.length<=1500)(v:Cell)(h:bm):∀ (m i:Nat),s.length - i<=m->i<=s.length ->
  ca tab.get S 106 0 2 [kS s,.v (.c v),kI (i:Int)] h=ca tab.get S 106 0 3 [kS s,.v (.c v),kI ((i+cp dJ (s.drop i):Nat):Int)] h:=by
 intro m
 induction m with
 |zero =>
  intro i hm hl;have e:decide ((i:Int)<(s.length:Int))=false:=de bn;rw[zi,sG,oW,qh,e];simp only[Ci,zb,mN];rw[kT bn]; rfl
 |succ m A =>
  intro i hm hl;by_cases hi:i<s.length
  ·obtain⟨b,hb⟩:∃ b,s[i]?=some b:=⟨s[i]'hi,bR⟩;have hd:s.drop i=b::s.drop (i+1):=by
    obtain⟨h1,M⟩:=cQ.1 hb;rw[kV h1,M]
   have e:decide ((i:Int)<(s.length:Int))=true:=cI bn;have U:IntKind.i64.wrap ((i:Int)+1)=((i+1:Nat):Int):=by rw[jZ _ bn bn]; omega
   have e1:(s.take (i+1)).drop i=[b]:=by rw[rR,hd]; simp
   rw[zi,sG,oW,qh,e];simp only[CO,nz,U,DF s i (i+1) bn bn,e1,zp];rw[j6 162 _ _ rfl (qSm b) rfl,oP,hd];cases hp:dJ b.toNat with
   |true =>
    rw[bF rfl,A (i+1) bn bn];simp only[cp,hp,fx];rw[show i+1+cp dJ (s.drop (i+1))=i+(cp dJ (s.drop (i+1))+1) by omega]
   |false =>
    rw[bA bu];simp only[cp,hp,gh,fC];rfl
  ·have e:decide ((i:Int)<(s.length:Int))=false:=de bn;rw[zi,sG,oW,qh,e];simp only[Ci,zb,mN];rw[kT bn]; rfl
def qN1(acc:List Tok)(v:Cell)(h:bm)(G:ma [46] 4 v (acc.map Tok.row) h):ca tab.get S 106 0 4 [.v (.c v)] h=some (kW (ka (.ok acc)),[]):=by
 rw[NO,xA,qFb G,zc,oP];show _=some (kW (if 400<acc.length then .error 3 else .ok acc),[]);by_cases h1:400<acc.length
 ·rw[bF (cI cM),bF h1,gV,gV,mz _ _ rfl]; rfl
 ·rw[bA (by rw[dF]; simp; omega),bA h1,gV,gV,qIz _ G]; rfl
def qMC(s:LB)(hs:s.length<=1500):∀ (f i:Nat) (acc:List Tok) (v:Cell) (h:bm),s.length - i<f->i<=s.length->acc.length<=i->ma [46] 4 v (acc.map Tok.row) h ->
  ca tab.get S 106 0 1 [kS s,.v (.c v),kI (i:Int)] h=some (kW (ka (eu f (s.drop i) i acc)),[]):=by
 intro f
 induction f with
 |zero=>intro i acc v h hm; omega
 |succ f ih =>
  intro i acc v h hm hl ha G;rw[NQ,xC,qN5 s hs v h _ i (cB _) hl];unfold eu;dsimp only;have hk:=Oz dJ (s.drop i);simp only[j0] at hk;generalize aa:cp dJ (s.drop i)=k at hk;rw[NP,xB,oW,vG,oP,pE];by_cases he:i+k=s.length
  ·rw[bF (cI bn),kT bn];exact qN1 acc v h G
  ·rw[bA (by rw[dF]; omega),Vc s (i+k) bn];generalize hr:s.drop (i+k)=r;have U:r.length=s.length - (i+k):=by rw[<- hr]; simp
   obtain⟨c,t,M⟩:∃ c t,r=c::t:=by cases r with
    |nil=>simp at U; omega
    |cons c t=>exact⟨c,t,rfl⟩
   rw[j6 176 _ _ rfl (qWA r bn bn) rfl];have hb:=qHK r bn;rw[M];dsimp only;rw[<- M];generalize ab:lh r=o at hb;rw[show o.val = .dq [.agg o.t.cells,.c (.p (.int .i64 o.n)),.c (.p (.int .i64 o.e))] from rfl,tp _ 0 _ rfl,tp _ 1 _ rfl,tp _ 2 _ rfl,He];rw[Yc 4 (.own 6 (h.gen 6+1)) 0 0 _ (.agg o.t.cells) (bm.cC _ _ _ _ bu cb) bu rfl bu,bm.rf,XA,oP];by_cases A:o.e=0
   ·obtain⟨n,e1,e2,e3⟩:=hb A;clear hb;have q1:s.length - (i+k+n)<f:=bn
    have q2:i+k+n<=s.length:=bn
    have q3:acc.length+1<=i+k+n:=bn
    have q4:(acc.length+1)*40<=1099511627776:=bn
    have q5:(-9223372036854775808:Int)<=((i+k:Nat):Int)+(n:Int):=bn
    have q6:((i+k:Nat):Int)+(n:Int)<=9223372036854775807:=bn
    have q7:(((i+k:Nat):Int)+(n:Int))=((i+k+n:Nat):Int):=bn
    rw[bA (by simp[A]),bF A,qHZ];rw[Yc 1 (.own 6 (h.gen 6+1)) (0+3) 0 _ (.c (.p (.int .i64 ((i+k:Nat):Int)))) (bm.cC _ _ _ _ bu cb) bu rfl (by exact cB 4),bm.rf];rw[qIn 4 (.own 6 (h.gen 6+1)) 0 0 _ (bm.cC _ _ _ _ bu cb) rfl];rw[qg (.cm 4 1 _ _ false) (j7 4 true [Tok.row { o.t with pos:=((i+k:Nat):Int) }]) rfl];have G1:=((G.own (d:=6) (h.gen 6+1) (.cells [.p (.int .i64 0),.p (.str []),.p (.int .i64 0),.p (.int .i64 0)] 0) bu).own (d:=6) (h.gen 6+1) (.cells (eY [.p (.int .i64 0),.p (.str []),.p (.int .i64 0),.p (.int .i64 0)] 0 (cN.agg o.t.cells).cells) 0) bu).own (d:=6) (h.gen 6+1) (.cells (eY (eY [.p (.int .i64 0),.p (.str []),.p (.int .i64 0),.p (.int .i64 0)] 0 (cN.agg o.t.cells).cells) (0+3) (cN.c (.p (.int .i64 ((i+k:Nat):Int)))).cells) 0) bu;obtain⟨v',h',G',e',_⟩:=qDu (d:=46) (by':=40) (new:=[Tok.row { o.t with pos:=((i+k:Nat):Int) }]) true G1 bu bR (by simp[Tok.row]) (by simpa using q4) bu;refine(e' _ _ _).trans ?_;rw[e1,nz,jZ _ q5 q6,q7,oJ];have:=ih (i+k+n) (acc++[{ o.t with pos:=((i+k:Nat):Int) }]) v' h' q1 q2 (by simpa using q3) (by simpa using G');rw[this,<- hr,pE]
   ·rw[bF (by simp[A]),bA A,gV,gV,mz _ _ rfl];rfl
def qRC(s:LB):Om 106 [kS s] []=some (kW (jO s),[]):=by
 refine(gD rfl).trans ?_;show ca tab.get S 106 0 0 [kS s] h0=_;rw[NR,xD,oW,zc,oP];unfold jO;by_cases h1:1500<s.length
 ·rw[bF (cI bn),bF h1,gV,gV,mz _ _ rfl]; rfl
 ·rw[bA (by rw[dF]; omega),bA h1];exact qMC s bn (s.length+1) 0 [] (.p .bq) h0 bn bn bR (ma.nil _ 4 _)
open Go Go.AI
def qPu(b:UInt8):Om 116 [kU b] []=some (kB (dJ b.toNat),[]):=(gD rfl).trans (Sg jv (p:=dJ) (N:=58) bT b)
def qQh(w d:LB)(hd:∀ b∈d,isDigit b.toNat=true)(hl:d.length<=19):∀ (m i:Nat) (h:bm),d.length - i<=m->i<=d.length ->
  ca tab.get S 186 0 2 [kS w,kS d,kN .u64 (dT (d.take i):Nat),kI (i:Int)] h=ca tab.get S 186 0 3 [kS w,kN .u64 (dT d:Nat)] h:=by
 intro m;have done:∀ (i:Nat) (h:bm),i=d.length->ca tab.get S 186 0 2 [kS w,kS d,kN .u64 (dT (d.take i):Nat),kI (i:Int)] h=ca tab.get S 186 0 3 [kS w,kN .u64 (dT d:Nat)] h:=by
  intro i h hi;subst hi;rw[tb,De,z7,oW,qh,de bn,mN]
 induction m with
 |zero=>intro i h h1 M; exact done i h bn
 |succ m U =>
  intro i h h1 M;by_cases hi:i<d.length
  ·obtain⟨c,hc⟩:∃ c,d[i]?=some c:=⟨d[i],by simp[hi]⟩;have ht:d.take (i+1)=d.take i++[c]:=by
    obtain⟨q1,q2⟩:=cQ.1 hc;rw[List.take_succ_eq_append_getElem q1,q2]
   have A:=hd c (mY hc);have aa:48<=c.toNat/\c.toNat<=57:=by simpa [isDigit,oF] using A
   have hb:=Yh (d.take i) (λb hb=>hd b (qN hb));have hp:(10:Nat) ^ (d.take i).length<=10 ^ 18:=sJ bu cM;have hn:dT (d.take i)<1000000000000000000:=bn
   have hv:dT (d.take (i+1))=10*dT (d.take i)+(c.toNat - 48):=by rw[ht,qEN]
   rw[De,z7,oW,qh,cI bn,oc,XW,Hm _ bn bn,vH d i c hc,FP];have e8:IntKind.u8.wrap ((c.toNat:Int) - 48)=((c.toNat - 48:Nat):Int):=by
    have:IntKind.u8.wrap ((c.toNat:Int) - 48)=(c.toNat:Int) - 48:=Sa .u8 _ (by show(0:Int)<=_; omega) (by show _<=(255:Int); omega);rw[this]; omega
   rw[e8,FQ,Hm _ bn bn,nz,Hm _ bn bn,nz,jZ _ bn bn,show((i:Int)+1)=((i+1:Nat):Int) by omega,show((dT (d.take i):Nat):Int)*10+((c.toNat - 48:Nat):Int)=((dT (d.take (i+1)):Nat):Int) by omega];exact U (i+1) h bn bn
  ·exact done i h bn
def zy(A:Bool)(d:LB):Int×Int:=if 19<d.length then (0,4) else if 9223372036854775807+(if A then 1 else 0)<dT d then (0,11) else (if A then -(dT d:Int) else dT d,0)
def qKQ(w:LB)(c:UInt8)(t:LB)(hw:w=c::t)(d:LB)(hd:∀ b∈d,isDigit b.toNat=true)(h:bm) :
  ca tab.get S 186 0 1 [kS w,kS d] h=some (.dq [.c (.p (.int .i64 (zy (decide (c.toNat=45)) d).1)),.c (.p (.int .i64 (zy (decide (c.toNat=45)) d).2))],[]):=by
 rw[MF,Ek,oW,zc];unfold zy;by_cases h1:19<d.length
 ·rw[cI bn,oc,gV,gV,mz _ _ rfl,bF h1]; rfl
 ·rw[de bn,mN,bA h1];have:=qQh w d hd bn d.length 0 h bn bn;refine this.trans ?_;have hb:=Yh d hd;have hp:(10:Nat) ^ d.length<=10 ^ 19:=sJ bu bn;have hn:dT d<10000000000000000000:=bn
  rw[ME,Ej,show(kI 0:bt)=kI ((0:Nat):Int) from rfl,vH w 0 c (by rw[hw]; rfl),vG];by_cases hc:c.toNat=45
  ·rw[cI (show(c.toNat:Int)=45 by omega),oc,zc,cI hc];simp only[fx];by_cases A:9223372036854775807+1<dT d
   ·rw[cI bn,oc,gV,gV,mz _ _ rfl,bF A]; rfl
   ·rw[de bn,mN,qRa,FQ,bA A];have e:IntKind.i64.wrap (IntKind.u64.wrap (0 - (dT d:Int))) = -(dT d:Int):=by
     by_cases h0:dT d=0
     ·rw[h0]; decide
     ·have M:IntKind.u64.wrap (0 - (dT d:Int))=18446744073709551616 - (dT d:Int):=by
       show(0 - (dT d:Int)) % 18446744073709551616=_;omega
      rw[M];have hw:∀ z:Int,IntKind.i64.wrap z=if 9223372036854775808<=z % 18446744073709551616 then z % 18446744073709551616 - 18446744073709551616 else z % 18446744073709551616:=by
       intro z;show(if (true&&decide (z % (2 ^ 64:Int)>=(2 ^ 63:Int)))=true then z % (2 ^ 64:Int) - (2 ^ 64:Int) else z % (2 ^ 64:Int))=_;simp only[gS,dF];rfl
      rw[hw];split <;> omega
    rw[e,gV,gV,mz _ _ rfl]; rfl
  ·rw[de (show ¬ (c.toNat:Int)=45 by omega),mN,zc,de hc];simp only[gh,fC,gH];by_cases A:9223372036854775807<dT d
   ·rw[cI bn,oc,gV,gV,mz _ _ rfl,bF A]; rfl
   ·rw[de bn,mN,FQ,jZ _ bn bn,gV,gV,mz _ _ rfl,bA A]; rfl
def qNx(c:UInt8)(t:LB)(ht:∀ b∈t,isDigit b.toNat=true)(hc:c.toNat=45\/isDigit c.toNat=true) :
  Om 186 [kS (c::t)] []=some (.dq [.c (.p (.int .i64 (zy (decide (c.toNat=45)) (if c.toNat=45 then t else c::t)).1)),.c (.p (.int .i64 (zy (decide (c.toNat=45)) (if c.toNat=45 then t else c::t)).2))],[]):=by
 refine(gD rfl).trans ?_;show ca tab.get S 186 0 0 [kS (c::t)] h0=_;rw[MG,El,show(kI 0:bt)=kI ((0:Nat):Int) from rfl,vH (c::t) 0 c rfl,vG];by_cases h1:c.toNat=45
 ·rw[cI (show(c.toNat:Int)=45 by omega),oc,show(kI 1:bt)=kI ((1:Nat):Int) from rfl,Vc (c::t) 1 bR,bF h1];exact qKQ (c::t) c t rfl t ht h0
 ·rw[de (show ¬ (c.toNat:Int)=45 by omega),mN,bA h1];refine qKQ (c::t) c t rfl (c::t) (λb hb=>?_) h0
  rcases dK.1 hb with rfl|hb
  ·rcases hc with hc|hc
   ·exact absurd hc h1
   ·exact hc
  ·exact ht b hb
def iW:LB->LB->Nat->Option (LB×Nat)
 |[],_,_=>none
 |[c],acc,i=>if c.toNat<32 then none else if c.toNat=34 then some (acc,i+1) else none
 |c::d::s,acc,i =>
  if c.toNat<32 then none
  else if c.toNat=34 then some (acc,i+1)
  else if c.toNat=92 then (match jc d with
   |none=>none
   |some x=>iW s (acc++[x]) (i+2))
  else iW (d::s) (acc++[c]) (i+1)
def zn:Option (LB×Nat)->One
 |none=>bad 11
 |some (t,k)=>if 200<t.length then bad 4 else ⟨⟨2,t,0,0⟩,(k:Int),0⟩
def qSg:∀ (n:Nat) (s acc:LB) (i:Nat),s.length<=n->fc s acc i=zn (iW s acc i):=by
 intro n
 induction n with
 |zero=>intro s acc i hs; obtain rfl:s=[]:=ku.1 bn; rfl
 |succ n A =>
  intro s acc i hs
  match s,hs with
  |[],_=>rfl
  |[c],_ =>
   rw[fc,iW];split
   ·rfl
   ·split
    ·rfl
    ·rfl
  |c::d::s,hs =>
   rw[fc,iW];split
   ·rfl
   ·split
    ·rfl
    ·split
     ·cases jc d with
      |none=>rfl
      |some x=>exact A s _ _ (by simp at hs; omega)
     ·exact A (d::s) _ _ (by simp at hs ⊢; omega)
def qPe(j:Nat):∀ (n:Nat) (s acc:LB) (i:Nat),s.length<=n->iW s acc (i+j)=(iW s acc i).map λp=>(p.1,p.2+j):=by
 intro n
 induction n with
 |zero=>intro s acc i hs; obtain rfl:s=[]:=ku.1 bn; rfl
 |succ n A =>
  intro s acc i hs
  match s,hs with
  |[],_=>rfl
  |[c],_ =>
   rw[iW,iW];split
   ·rfl
   ·split
    ·simp; omega
    ·rfl
  |c::d::s,hs =>
   rw[iW,iW];split
   ·rfl
   ·split
    ·simp; omega
    ·split
     ·cases jc d with
      |none=>rfl
      |some x =>
       show iW s (acc++[x]) (i+j+2)=Option.map _ (iW s (acc++[x]) (i+2));rw[<- A s _ (i+2) (by simp at hs; omega),show i+j+2=i+2+j by omega]
     ·rw[<- A (d::s) _ (i+1) (by simp at hs ⊢; omega),show i+j+1=i+1+j by omega]
def zm:Option (LB×Nat)->bt
 |none=>.dq [.c (.p (.str [])),.c (.p (.int .i64 (-1)))]
 |some (t,k)=>.dq [.c (.p (.str t)),.c (.p (.int .i64 (k:Int)))]
def qLm(s:LB)(hs:s.length<=1500):∀ (m i:Nat) (acc:LB) (h:bm),s.length - i<=m->i<=s.length->acc.length<=i ->
  ca tab.get S 187 0 1 [kS s,kI (i:Int),kS acc] h=some (zm (iW (s.drop i) acc i),[]):=by
 intro m;have done:∀ (i:Nat) (acc:LB) (h:bm),i=s.length->ca tab.get S 187 0 1 [kS s,kI (i:Int),kS acc] h=some (zm (iW (s.drop i) acc i),[]):=by
  intro i acc h hi;subst hi;rw[vn,Dd,zZ,oW,qh,de bn,mN,gV,gV,mz _ _ rfl]; rfl
 induction m using Nat.strongRecOn with
 |ind m ih =>
  intro i acc h h1 h2 h3;by_cases hi:i<s.length
  ·obtain⟨c,hc⟩:∃ c,s[i]?=some c:=⟨s[i],by simp[hi]⟩;have hd:s.drop i=c::s.drop (i+1):=by
    obtain⟨q1,q2⟩:=cQ.1 hc;rw[kV q1,q2]
   have e1:IntKind.i64.wrap ((i:Int)+1)=((i+1:Nat):Int):=by rw[jZ _ bn bn]; omega
   rw[Dd,zZ,oW,qh,cI bn,oc,vH s i c hc,vG];by_cases M:c.toNat=34
   ·have:iW (s.drop i) acc i=some (acc,i+1):=by
     rw[hd];cases hq:s.drop (i+1) with
     |nil=>rw[iW,bA bn,bF M]
     |cons d r=>rw[iW,bA bn,bF M]
    rw[cI (show(c.toNat:Int)=34 by omega),oc,nz,e1,gV,gV,mz _ _ rfl,this]; rfl
   rw[de (show ¬ (c.toNat:Int)=34 by omega),mN,qh];by_cases U:c.toNat<32
   ·have:iW (s.drop i) acc i=none:=by
     rw[hd];cases hq:s.drop (i+1) with
     |nil=>rw[iW,bF U]
     |cons d r=>rw[iW,bF U]
    rw[cI (show(c.toNat:Int)<32 by omega),oc,gV,gV,mz _ _ rfl,this]; rfl
   rw[de (show ¬ (c.toNat:Int)<32 by omega),mN,XA];by_cases ab:c.toNat=92
   ·rw[cI (show(c.toNat:Int)=92 by omega),show(!true)=false from rfl,mN,nz,e1,oW,qGk];by_cases hl:i+1<s.length
    ·obtain⟨d,ad⟩:∃ d,s[i+1]?=some d:=⟨s[i+1],by simp[hl]⟩;have ae:s.drop (i+1)=d::s.drop (i+2):=by
      obtain⟨q1,q2⟩:=cQ.1 ad;rw[kV q1,q2]
     have hq:iW (s.drop i) acc i=match jc d with|none=>none|some x=>iW (s.drop (i+2)) (acc++[x]) (i+2):=by
      rw[hd,ae,iW,bA U,bA M,bF ab]
     have e2:IntKind.i64.wrap ((i:Int)+2)=((i+2:Nat):Int):=by rw[jZ _ bn bn]; omega
     have A:∀ x:UInt8,jc d=some x->ca tab.get S 187 0 3 [kS s,kI (i:Int),kS (acc++[x])] h=some (zm (iW (s.drop i) acc i),[]):=by
      intro x hx;rw[hq,hx,MB,Eh,nz,e2];exact ih (s.length - (i+2)) bn (i+2) (acc++[x]) h (cB _) bn cM
     have aa:(s.take (i+2)).drop (i+1)=[d]:=by
      rw[rR,ae]; simp
     rw[show(!decide (((i+1:Nat):Int)<(s.length:Int)))=false by simp; omega,mN,nz,e1,vH s (i+1) d ad,vG];by_cases d92:d.toNat=92
     ·rw[cI (show(d.toNat:Int)=92 by omega),oc,Dc,zY,oc,nz,e1,nz,e2,DF s (i+1) (i+2) bn bn,aa,vA _ _ _ cM];exact A d (by unfold jc; rw[bA bn,bA bn,bA bn,bF d92])
     rw[de (show ¬ (d.toNat:Int)=92 by omega),mN,vG,Dc,zY];by_cases d34:d.toNat=34
     ·rw[cI (show(d.toNat:Int)=34 by omega),oc,nz,e1,nz,e2,DF s (i+1) (i+2) bn bn,aa,vA _ _ _ cM];exact A d (by unfold jc; rw[bA bn,bA bn,bF d34])
     rw[de (show ¬ (d.toNat:Int)=34 by omega),mN,vG];by_cases d110:d.toNat=110
     ·rw[cI (show(d.toNat:Int)=110 by omega),oc,vA _ _ _ cM];exact A 10 (by unfold jc; rw[bF d110])
     rw[de (show ¬ (d.toNat:Int)=110 by omega),mN,vG];by_cases d116:d.toNat=116
     ·rw[cI (show(d.toNat:Int)=116 by omega),oc,vA _ _ _ cM];exact A 9 (by unfold jc; rw[bA d110,bF d116])
     rw[de (show ¬ (d.toNat:Int)=116 by omega),mN,gV,gV,mz _ _ rfl,hq];have:jc d=none:=by unfold jc; rw[bA d110,bA d116,bA d34,bA d92]
     rw[this]; rfl
    ·have hn:s.drop (i+1)=[]:=kT bn;rw[show(!decide (((i+1:Nat):Int)<(s.length:Int)))=true by simp; omega,oc,gV,gV,mz _ _ rfl,hd,hn,iW,bA U,bA M]; rfl
   ·rw[de (show ¬ (c.toNat:Int)=92 by omega),show(!false)=true from rfl,oc,nz,e1];have aa:(s.take (i+1)).drop i=[c]:=by rw[rR,hd]; simp
    rw[DF s i (i+1) bn bn,aa,vA _ _ _ cM,nz,e1];have:=ih (s.length - (i+1)) bn (i+1) (acc++[c]) h (cB _) bn cM;rw[this,hd];cases hq:s.drop (i+1) with
    |nil =>
     have e:iW [c] acc i=none:=by rw[iW,bA U,bA M]
     rw[e]; rfl
    |cons d r =>
     have e:iW (c::d::r) acc i=iW (d::r) (acc++[c]) (i+1):=by rw[iW,bA U,bA M,bA ab]
     rw[e]
  ·exact done i acc h bn
def qPa(s:LB)(hs:s.length<=1500)(i:Nat)(hi:i<s.length):Om 187 [kS s,kI (i:Int)] []=some (zm (iW (s.drop (i+1)) [] (i+1)),[]):=by
 refine(gD rfl).trans ?_;show ca tab.get S 187 0 0 [kS s,kI (i:Int)] h0=_;rw[MD,Ei,nz,jZ _ bn bn,show((i:Int)+1)=((i+1:Nat):Int) by omega];exact qLm s hs _ (i+1) [] h0 (cB _) bn bR
open Go Go.AI
def DM(t:Tok)(k e:Int):bt:=.dq [.agg t.cells,.c (.p (.int .i64 k)),.c (.p (.int .i64 e))]
def mL(r:dA)(i:Nat)(o:One):Prop:=∃ t k,r=some (DM t k o.e,[])/\(o.e=0->t={ o.t with pos:=(i:Int) }/\k=(i:Int)+o.n)
def Hi(s:LB)(i:Nat)(c:UInt8)(h:s[i]?=some c):s.drop i=c::s.drop (i+1):=by
 obtain⟨q1,A⟩:=cQ.1 h;rw[kV q1,A]
def qOO(s:LB)(hs:s.length<=1500)(x1 x4:bt):∀ (m k:Nat) (h:bm),s.length - k<=m->k<=s.length ->
  ca tab.get S 117 0 1 [kS s,x1,x4,kI (k:Int)] h=ca tab.get S 117 0 2 [kS s,x1,x4,kI ((k+cp isWord (s.drop k):Nat):Int)] h:=by
 intro m;have done:∀ (k:Nat) (h:bm),k=s.length->ca tab.get S 117 0 1 [kS s,x1,x4,kI (k:Int)] h=ca tab.get S 117 0 2 [kS s,x1,x4,kI ((k+cp isWord (s.drop k):Nat):Int)] h:=by
  intro k h A;subst A;rw[vn,Dm,Ah,oW,qh,de bn];simp only[Ci,Yt,zb,mN]; rfl
 induction m with
 |zero=>intro k h h1 h2; exact done k h bn
 |succ m ih =>
  intro k h h1 h2;by_cases A:k<s.length
  ·obtain⟨c,hc⟩:∃ c,s[k]?=some c:=⟨s[k],by simp[A]⟩;have hd:=Hi s k c hc;have next:=ih (k+1) h bn bn;rw[Dm,Ah,oW,qh,cI bn];simp only[CO];rw[vH s k c hc,j6 184 _ _ rfl (qIF c) rfl];cases M:dR c.toNat with
   |true =>
    simp only[XO,zp,oc];rw[nz,jZ _ bn bn,show((k:Int)+1)=((k+1:Nat):Int) by omega,next,hd];simp only[cp,isWord,M,oH,fx];rw[show k+1+cp isWord (s.drop (k+1))=k+(cp isWord (s.drop (k+1))+1) by omega]
   |false =>
    simp only[XT];rw[vH s k c hc,j6 185 _ _ rfl (XQ c) rfl,zb,zp];cases U:isDigit c.toNat with
    |true =>
     rw[oc,nz,jZ _ bn bn,show((k:Int)+1)=((k+1:Nat):Int) by omega,next,hd];simp only[cp,isWord,M,U,Bool.or_true,fx];rw[show k+1+cp isWord (s.drop (k+1))=k+(cp isWord (s.drop (k+1))+1) by omega]
    |false =>
     rw[mN,hd];simp only[cp,isWord,M,U,oE,gh,fC]; rfl
  ·exact done k h bn
def qPL(s:LB)(hs:s.length<=1500)(x1 x4:bt):∀ (m k:Nat) (h:bm),s.length - k<=m->k<=s.length ->
  ca tab.get S 117 0 3 [kS s,x1,x4,kI (k:Int)] h=ca tab.get S 117 0 4 [kS s,x1,x4,kI ((k+cp isDigit (s.drop k):Nat):Int)] h:=by
 intro m;have done:∀ (k:Nat) (h:bm),k=s.length->ca tab.get S 117 0 3 [kS s,x1,x4,kI (k:Int)] h=ca tab.get S 117 0 4 [kS s,x1,x4,kI ((k+cp isDigit (s.drop k):Nat):Int)] h:=by
  intro k h A;subst A;rw[vn,Dl,Ag,oW,qh,de bn];simp only[Ci,zb,mN]; rfl
 induction m with
 |zero=>intro k h h1 U; exact done k h bn
 |succ m ih =>
  intro k h h1 U;by_cases A:k<s.length
  ·obtain⟨c,hc⟩:∃ c,s[k]?=some c:=⟨s[k],by simp[A]⟩;have hd:=Hi s k c hc;have next:=ih (k+1) h bn bn;rw[Dl,Ag,oW,qh,cI bn];simp only[CO];rw[vH s k c hc,j6 185 _ _ rfl (XQ c) rfl,zp];cases M:isDigit c.toNat with
   |true =>
    rw[oc,nz,jZ _ bn bn,show((k:Int)+1)=((k+1:Nat):Int) by omega,next,hd];simp only[cp,M,fx];rw[show k+1+cp isDigit (s.drop (k+1))=k+(cp isDigit (s.drop (k+1))+1) by omega]
   |false =>
    rw[mN,hd];simp only[cp,M,gh,fC]; rfl
  ·exact done k h bn
def qNT(s:LB)(hs:s.length<=1500)(i:Nat)(c:UInt8)(hc:s[i]?=some c)(x4:bt):∀ (m j:Nat) (h:bm),13 - j<=m->j<=13 ->
  ca tab.get S 117 0 6 [kS s,kI (i:Int),x4,kS iy,kI (j:Int)] h=if (iy.drop j).contains c then
   (bQ Om (.build [(.p (.int .i64 0)),(.p (.str [])),(.p (.int .i64 0)),(.p (.int .i64 0))] [(0,1,(.k (kI 4))),(1,1,(.k (kS [c]))),(3,1,(.k (kI (i:Int))))]) h 173 λA h =>
   bK 4 x4 A h λ_ h=>cJ true 4 x4 h λU=>bI (kI ((i+1:Nat):Int)) λc1=>bI (kI 0) λc2=>bS true 0 [U,c1,c2] h) else ca tab.get S 117 0 7 [x4] h:=by
 intro m;have ab:=(cQ.1 hc).1;have done:∀ (j:Nat) (h:bm),j=13->ca tab.get S 117 0 6 [kS s,kI (i:Int),x4,kS iy,kI (j:Int)] h=if (iy.drop j).contains c then
   (bQ Om (.build [(.p (.int .i64 0)),(.p (.str [])),(.p (.int .i64 0)),(.p (.int .i64 0))] [(0,1,(.k (kI 4))),(1,1,(.k (kS [c]))),(3,1,(.k (kI (i:Int))))]) h 173 λA h =>
   bK 4 x4 A h λ_ h=>cJ true 4 x4 h λU=>bI (kI ((i+1:Nat):Int)) λc1=>bI (kI 0) λc2=>bS true 0 [U,c1,c2] h) else ca tab.get S 117 0 7 [x4] h:=by
  intro j h hj;subst hj;rw[Dk,Ae,oW,qh,de bu,mN]; rfl
 induction m with
 |zero=>intro j h h1 h2; exact done j h bn
 |succ m ih =>
  intro j h h1 h2;by_cases hj:j<13
  ·obtain⟨d,hd⟩:∃ d,iy[j]?=some d:=⟨iy[j]'(by simpa [iy] using hj),bR⟩;have aa:=Hi iy j d hd;rw[Dk,Ae,oW,qh,cI (show(j:Int)<(iy.length:Int) by show(j:Int)<13; omega),oc,vH iy j d hd,vH s i c hc,vG,aa];by_cases M:d=c
   ·subst M;have e1:IntKind.i64.wrap ((i:Int)+1)=((i+1:Nat):Int):=by rw[jZ _ bn bn]; omega
    rw[cI rfl,oc,bF bR];simp only[nz,e1];rw[DF s i (i+1) bn bn,show(s.take (i+1)).drop i=[d] by rw[rR,Hi s i d hc]; simp]
   ·have:¬ (d.toNat:Int)=(c.toNat:Int):=λe=>M (jj.1 bn)
    rw[de this,mN,nz,jZ _ bn bn,show((j:Int)+1)=((j+1:Nat):Int) by omega,ih (j+1) h bn bn];have e:((d::iy.drop (j+1)).contains c)=(iy.drop (j+1)).contains c:=by
     rw[List.contains_cons]; simp[oC M]
    rw[e]
  ·exact done j h bn
def qH1(c:UInt8):iy.contains c=iK c.toNat:=by
 have h:∀ n:Nat,n<256->iy.contains (UInt8.ofNat n)=iK n:=bu
 have:=h c.toNat (Ax c)
 rwa [Av] at this
def JL(t:Tok)(k e:Int)(op:jE)(d:Nat)(h:bm)(cs:List Cell)(A:h.get (.own 4 1)=some (.cells cs 0))(hc:cs.length=4)(hb:cH .nil op=some (.pure (.v (.agg t.cells))))(O:bD) :
  (bQ O op h d λx h=>bK 4 (.v (.c (.ptr (.own 4 1) 0))) x h λ_ h=>cJ true 4 (.v (.c (.ptr (.own 4 1) 0))) h λM=>bI (kI k) λc1=>bI (kI e) λc2=>bS true 0 [M,c1,c2] h)=some (DM t k e,[]):=by
 rw[qg _ _ hb,Cg 4 4 1 h cs t.cells _ A bu hc rfl,gV,gV,mz _ _ rfl]; rfl
def qOp(s:LB)(hs:s.length<=1500)(i:Nat)(c:UInt8)(hc:s[i]?=some c)(h:bm)(cs:List Cell)(hh:h.get (.own 4 1)=some (.cells cs 0))(M:cs.length=4) :
  mL (ca tab.get S 117 0 5 [kS s,kI (i:Int),.v (.c (.ptr (.own 4 1) 0))] h) i (ig (s.drop i)):=by
 have af:=(cQ.1 hc).1;have hd:=Hi s i c hc;have e2:IntKind.i64.wrap ((i:Int)+2)=((i+2:Nat):Int):=by rw[jZ _ bn bn]; omega
 have A:¬ (s.drop i).take 2=ub->¬ (s.drop i).take 2=ua->mL (ca tab.get S 117 0 6 [kS s,kI (i:Int),.v (.c (.ptr (.own 4 1) 0)),kS iy,kI 0] h) i (ig (s.drop i)):=by
  intro n1 n2;have hm:ig (s.drop i)=if iK c.toNat then ⟨⟨4,[c],0,0⟩,1,0⟩ else bad 11:=by
   unfold ig;rw[bA n1,bA n2,hd]
  have:=qNT s hs i c hc (.v (.c (.ptr (.own 4 1) 0))) 13 0 h bu bu;rw[show(kI 0:bt)=kI ((0:Nat):Int) from rfl,this,eI,qH1,hm];cases hq:iK c.toNat with
  |true =>
   rw[bF rfl,bF rfl];exact⟨⟨4,[c],0,(i:Int)⟩,((i+1:Nat):Int),JL ⟨4,[c],0,(i:Int)⟩ _ 0 _ _ h cs hh M rfl _,λ_=>⟨rfl,by show((i+1:Nat):Int)=(i:Int)+1; omega⟩⟩
  |false =>
   rw[bA bu,bA bu,Nn,EJ];exact⟨Tok.zero,0,JL Tok.zero 0 11 _ _ h cs hh M rfl _,cb⟩
 have two:∀ w:LB,(s.drop i).take 2=w->(w=ub\/w=ua)->i+2<=s.length->ig (s.drop i)=⟨⟨4,w,0,0⟩,2,0⟩:=by
  intro w hw ho hl;unfold ig
  rcases ho with rfl|rfl
  ·rw[bF hw]
  ·rw[bA (by rw[hw]; decide),bF hw]
 rw[No,EK,nz,e2,oW,qK6];by_cases hl:i+2<=s.length
 ·rw[show(!decide ((s.length:Int)<((i+2:Nat):Int)))=true by simp; omega];simp only[CO];have U:(s.take (i+2)).drop i=(s.drop i).take 2:=by rw[rR,show i+2 - i=2 by omega]
  have ok:∀ w:LB,(s.drop i).take 2=w->(w=ub\/w=ua)->mL (bw .add 0 (kI (i:Int)) (kI 2) h λaa h =>
    bQ Om (.slice 0 true (.k (kS s)) (some (.k (kI (i:Int)))) (some (.k aa)) none) h 149 λab h =>
    bQ Om (.build [(.p (.int .i64 0)),(.p (.str [])),(.p (.int .i64 0)),(.p (.int .i64 0))] [(0,1,(.k (kI 4))),(1,1,(.k ab)),(3,1,(.k (kI (i:Int))))]) h 151 λad h =>
    bw .add 0 (kI (i:Int)) (kI 2) h λae h =>
    bK 4 (.v (.c (.ptr (.own 4 1) 0))) ad h λ_ h =>
    cJ true 4 (.v (.c (.ptr (.own 4 1) 0))) h λc0=>bI ae λc1=>bI (kI 0) λc2=>bS true 0 [c0,c1,c2] h) i (ig (s.drop i)):=by
   intro w hw ho;rw[nz,e2,DF s i (i+2) bn bn,U,hw,qg _ (.v (.agg (Tok.cells ⟨4,w,0,(i:Int)⟩))) rfl,nz,e2,Cg 4 4 1 h cs _ _ hh bu M rfl,gV,gV,mz _ _ rfl,two w hw ho hl];exact⟨⟨4,w,0,(i:Int)⟩,((i+2:Nat):Int),rfl,λ_=>⟨rfl,by show((i+2:Nat):Int)=(i:Int)+2; omega⟩⟩
  rw[nz,e2,DF s i (i+2) bn bn,U,Yl];by_cases h1:(s.drop i).take 2=ub
  ·rw[show decide ((s.drop i).take 2=[45,62])=true from cI h1];simp only[XO,zp,oc];exact ok _ h1 (.inl rfl)
  ·rw[show decide ((s.drop i).take 2=[45,62])=false from de h1];simp only[XT];rw[nz,e2,DF s i (i+2) bn bn,U,Yl,zb,zp];by_cases h2:(s.drop i).take 2=ua
   ·rw[show decide ((s.drop i).take 2=[58,61])=true from cI h2,oc];exact ok _ h2 (.inr rfl)
   ·rw[show decide ((s.drop i).take 2=[58,61])=false from de h2,mN];exact A h1 h2
 ·rw[show(!decide ((s.length:Int)<((i+2:Nat):Int)))=false by simp; omega];simp only[Ci,Yt,zb,mN];have hn:∀ w:LB,w.length=2->¬ (s.drop i).take 2=w:=by
   intro w hw e;have:=dh List.length e;simp at this;omega
  exact A (hn ub rfl) (hn ua rfl)
def qPi(s:LB)(hs:s.length<=1500)(i:Nat)(c:UInt8)(hc:s[i]?=some c)(hl:dR c.toNat=true)(h:bm)(cs:List Cell)(M:h.get (.own 4 1)=some (.cells cs 0))(A:cs.length=4) :
  mL (ca tab.get S 117 0 1 [kS s,kI (i:Int),.v (.c (.ptr (.own 4 1) 0)),kI (i:Int)] h) i (pj (s.drop i)):=by
 have aa:=(cQ.1 hc).1;have U:=Oz isWord (s.drop i);rw[j0] at U;rw[qOO s hs _ _ _ i h (cB _) bn];generalize hk:cp isWord (s.drop i)=n at U;unfold pj;rw[hk,Nq,EM,FP,jZ _ bn bn,show(((i+n:Nat):Int) - (i:Int))=(n:Int) by omega,zc];by_cases h1:16<n
 ·rw[cI bn,oc,bF h1];exact⟨Tok.zero,0,JL Tok.zero 0 4 _ _ h cs M A rfl _,cb⟩
 ·rw[de bn,mN,DF s i (i+n) bn bn,bA h1,show(s.take (i+n)).drop i=(s.drop i).take n by rw[rR,show i+n - i=n by omega]];exact⟨⟨1,(s.drop i).take n,0,(i:Int)⟩,((i+n:Nat):Int),JL ⟨1,(s.drop i).take n,0,(i:Int)⟩ _ 0 _ _ h cs M A rfl _,λ_=>⟨rfl,by show((i+n:Nat):Int)=(i:Int)+(n:Int); omega⟩⟩
def qQM(s:LB)(hs:s.length<=1500)(i:Nat)(c:UInt8)(hc:s[i]?=some c)(hn:c.toNat=45\/isDigit c.toNat=true)(h:bm)(cs:List Cell)(hh:h.get (.own 4 1)=some (.cells cs 0))(ae:cs.length=4) :
  mL (ca tab.get S 117 0 3 [kS s,kI (i:Int),.v (.c (.ptr (.own 4 1) 0)),kI ((i+1:Nat):Int)] h) i (fL (s.drop i)):=by
 have ah:=(cQ.1 hc).1;have hd:=Hi s i c hc;have hr:=Oz isDigit (s.drop (i+1));rw[j0] at hr;have U:=ZV isDigit (s.drop (i+1));rw[qPL s hs _ _ _ (i+1) h (cB _) bn];generalize hk:cp isDigit (s.drop (i+1))=n at hr U;have af:(s.take (i+1+n)).drop i=c::(s.drop (i+1)).take n:=by
  rw[rR,hd,show i+1+n - i=n+1 by omega,vj]
 have hlen:((s.drop (i+1)).take n).length=n:=cM
 rw[Np,EL,DF s i (i+1+n) bn bn,af,j6 186 _ _ rfl (qNx c _ U hn) rfl,tp _ 0 _ rfl,tp _ 1 _ rfl];generalize hv:zy (decide (c.toNat=45)) (if c.toNat=45 then (s.drop (i+1)).take n else c::(s.drop (i+1)).take n)=v;have key:(fL (s.drop i)).e=v.2/\(v.2=0->(fL (s.drop i)).t=⟨3,[],v.1,0⟩/\(fL (s.drop i)).n=((1+n:Nat):Int)):=by
  unfold fL;unfold zy at hv;by_cases A:c.toNat=45
  ·have aa:c=45:=jj.1 A;have M:neg (s.drop i)=1:=by unfold neg; rw[hd,aa]; rfl
   rw[M,show(s.drop i).drop 1=s.drop (i+1) by rw[pE],hk];simp only[A,rT,fx] at hv;rw[hlen] at hv;by_cases q1:19<n
   ·rw[bF q1] at hv ⊢; subst hv; exact⟨rfl,cb⟩
   ·rw[bA q1] at hv ⊢;by_cases q2:9223372036854775807+1<dT ((s.drop (i+1)).take n)
    ·rw[bF q2] at hv ⊢; subst hv; exact⟨rfl,cb⟩
    ·rw[bA q2] at hv ⊢; subst hv; exact⟨rfl,λ_=>⟨rfl,rfl⟩⟩
  ·have ab:isDigit c.toNat=true:=by rcases hn with q|q; exact absurd q A; exact q
   have M:neg (s.drop i)=0:=by
    unfold neg; rw[hd];rw[bA (by intro e; simp at e; exact A (by rw[e]; rfl))]
   have ad:cp isDigit (s.drop i)=n+1:=by rw[hd]; simp only[cp,ab,fx,hk]
   have ag:(s.drop i).take (n+1)=c::(s.drop (i+1)).take n:=by rw[hd,vj]
   rw[M,eI,ad,ag];simp only[A,decide_false,gh,fC,gH] at hv;rw[di,hlen] at hv;by_cases q1:19<n+1
   ·rw[bF q1] at hv ⊢; subst hv; exact⟨rfl,cb⟩
   ·rw[bA q1] at hv ⊢;by_cases q2:9223372036854775807<dT (c::(s.drop (i+1)).take n)
    ·rw[bF q2] at hv; rw[bF bn]; subst hv; exact⟨rfl,cb⟩
    ·rw[bA q2] at hv; rw[bA bn]; subst hv;exact⟨rfl,λ_=>⟨rfl,by show((0+(n+1):Nat):Int)=_; omega⟩⟩
 unfold mL;rw[key.1];refine⟨⟨3,[],v.1,(i:Int)⟩,((i+1+n:Nat):Int),JL ⟨3,[],v.1,(i:Int)⟩ _ v.2 _ _ h cs hh ae rfl _,λe=>?_⟩;obtain⟨k1,k2⟩:=key.2 e;rw[k1,k2];exact⟨rfl,bn⟩
def qQn(s:LB)(hs:s.length<=1500)(i:Nat)(aj:i<s.length)(h:bm)(cs:List Cell)(hh:h.get (.own 4 1)=some (.cells cs 0))(aa:cs.length=4) :
  mL (bE Om (F_ 187) [kS s,kI (i:Int)] h 110 λA h =>
   fV A 0 h λM h =>
   fV A 1 h λU h =>
   bw .lss 0 U (kI 0) h λab h =>
   cY ab (
   bQ Om (.build [(.p (.int .i64 0)),(.p (.str [])),(.p (.int .i64 0)),(.p (.int .i64 0))] []) h 115 λad h =>
   bK 4 (.v (.c (.ptr (.own 4 1) 0))) ad h λ_ h =>
   cJ true 4 (.v (.c (.ptr (.own 4 1) 0))) h λc0=>bI (kI 0) λc1=>bI (kI 11) λc2=>bS true 0 [c0,c1,c2] h)
   (cP Om 0 M h 117 λae h =>
   bw .gtr 0 ae (kI 200) h λaf h =>
   cY af (
   bQ Om (.build [(.p (.int .i64 0)),(.p (.str [])),(.p (.int .i64 0)),(.p (.int .i64 0))] []) h 119 λag h =>
   bK 4 (.v (.c (.ptr (.own 4 1) 0))) ag h λ_ h =>
   cJ true 4 (.v (.c (.ptr (.own 4 1) 0))) h λc0=>bI (kI 0) λc1=>bI (kI 4) λc2=>bS true 0 [c0,c1,c2] h)
   (bQ Om (.build [(.p (.int .i64 0)),(.p (.str [])),(.p (.int .i64 0)),(.p (.int .i64 0))] [(0,1,(.k (kI 2))),(1,1,(.k M)),(3,1,(.k (kI (i:Int))))]) h 122 λah h =>
   bK 4 (.v (.c (.ptr (.own 4 1) 0))) ah h λ_ h =>
   cJ true 4 (.v (.c (.ptr (.own 4 1) 0))) h λc0=>bI U λc1=>bI (kI 0) λc2=>bS true 0 [c0,c1,c2] h))) i (kF (s.drop i)):=by
 have ht:kF (s.drop i)=zn (iW (s.drop (i+1)) [] 1):=by
  unfold kF;rw[pE,qSg _ _ _ _ (cB _)]
 have ai:=qPe i _ (s.drop (i+1)) [] 1 (cB _);rw[show 1+i=i+1 by omega] at ai;have hp:pT (zm (iW (s.drop (i+1)) [] (i+1)))=true:=by cases iW (s.drop (i+1)) [] (i+1) <;> rfl
 rw[j6 187 _ _ rfl (qPa s hs i aj) hp,ai,ht];cases hq:iW (s.drop (i+1)) [] 1 with
 |none =>
  rw[show zm (Option.map (λp:LB×Nat=>(p.1,p.2+i)) none) = .dq [.c (.p (.str [])),.c (.p (.int .i64 (-1)))] from rfl,tp _ 0 _ rfl,tp _ 1 _ rfl,qh,cI bu,oc];exact⟨Tok.zero,0,JL Tok.zero 0 11 _ _ h cs hh aa rfl _,cb⟩
 |some p =>
  obtain⟨t,k⟩:=p;rw[show zm (Option.map (λp:LB×Nat=>(p.1,p.2+i)) (some (t,k))) = .dq [.c (.p (.str t)),.c (.p (.int .i64 ((k+i:Nat):Int)))] from rfl,tp _ 0 _ rfl,tp _ 1 _ rfl,qh,de bn,mN,oW,zc];unfold zn;dsimp only;by_cases h1:200<t.length
  ·rw[cI bn,oc,bF h1];exact⟨Tok.zero,0,JL Tok.zero 0 4 _ _ h cs hh aa rfl _,cb⟩
  ·rw[de bn,mN,bA h1];exact⟨⟨2,t,0,(i:Int)⟩,((k+i:Nat):Int),JL ⟨2,t,0,(i:Int)⟩ _ 0 _ _ h cs hh aa rfl _,λ_=>⟨rfl,by show((k+i:Nat):Int)=(i:Int)+(k:Int); omega⟩⟩
def qUl(s:LB)(hs:s.length<=1500)(i:Nat)(c:UInt8)(hc:s[i]?=some c):mL (Om 117 [kS s,kI (i:Int)] []) i (lh (s.drop i)):=by
 have ao:=(cQ.1 hc).1;have hd:=Hi s i c hc;have hO:lh (s.drop i)=if dR c.toNat then pj (s.drop i) else if eE (s.drop i) then fL (s.drop i) else if c.toNat=34 then kF (s.drop i) else ig (s.drop i):=by rw[hd]; rfl
 unfold mL;rw[show Om 117 [kS s,kI (i:Int)] []=ca tab.get S 117 0 0 [kS s,kI (i:Int)] h0 from gD rfl,Nr,EN,He,ZO];have hh:=bm.cC h0 4 (0+1) (.cells [.p (.int .i64 0),.p (.str []),.p (.int .i64 0),.p (.int .i64 0)] 0) bu cb;generalize (h0.own 4 (0+1) (.cells [.p (.int .i64 0),.p (.str []),.p (.int .i64 0),.p (.int .i64 0)] 0))=h at hh;rw[vH s i c hc,j6 184 _ _ rfl (qIF c) rfl,hO];cases h1:dR c.toNat with
 |true =>
  rw[oc,bF rfl];exact qPi s hs i c hc h1 h _ hh rfl
 |false =>
  rw[mN,bA bu,vH s i c hc,j6 185 _ _ rfl (XQ c) rfl];have e1:IntKind.i64.wrap ((i:Int)+1)=((i+1:Nat):Int):=by rw[jZ _ bn bn]; omega
  have num:eE (s.drop i)=true->(c.toNat=45\/isDigit c.toNat=true)->mL (bw .add 0 (kI (i:Int)) (kI 1) h λaq h=>ca tab.get S 117 0 3 [kS s,kI (i:Int),.v (.c (.ptr (.own 4 1) 0)),aq] h) i (if eE (s.drop i) then fL (s.drop i) else if c.toNat=34 then kF (s.drop i) else ig (s.drop i)):=by
   intro q1 q2;rw[bF q1,nz,e1];exact qQM s hs i c hc q2 h _ hh rfl
  have rest:eE (s.drop i)=false->mL (eX (kS s) (kI (i:Int)) h λab h=>bw .eql 0 ab (.v (.c (.p (.int .u8 34)))) h λad h=>cY ad (bE Om (F_ 187) [kS s,kI (i:Int)] h 110 λA h =>
   fV A 0 h λM h =>
   fV A 1 h λU h =>
   bw .lss 0 U (kI 0) h λae h =>
   cY ae (
   bQ Om (.build [(.p (.int .i64 0)),(.p (.str [])),(.p (.int .i64 0)),(.p (.int .i64 0))] []) h 115 λaf h =>
   bK 4 (.v (.c (.ptr (.own 4 1) 0))) af h λ_ h =>
   cJ true 4 (.v (.c (.ptr (.own 4 1) 0))) h λc0=>bI (kI 0) λc1=>bI (kI 11) λc2=>bS true 0 [c0,c1,c2] h)
   (cP Om 0 M h 117 λag h =>
   bw .gtr 0 ag (kI 200) h λah h =>
   cY ah (
   bQ Om (.build [(.p (.int .i64 0)),(.p (.str [])),(.p (.int .i64 0)),(.p (.int .i64 0))] []) h 119 λai h =>
   bK 4 (.v (.c (.ptr (.own 4 1) 0))) ai h λ_ h =>
   cJ true 4 (.v (.c (.ptr (.own 4 1) 0))) h λc0=>bI (kI 0) λc1=>bI (kI 4) λc2=>bS true 0 [c0,c1,c2] h)
   (bQ Om (.build [(.p (.int .i64 0)),(.p (.str [])),(.p (.int .i64 0)),(.p (.int .i64 0))] [(0,1,(.k (kI 2))),(1,1,(.k M)),(3,1,(.k (kI (i:Int))))]) h 122 λaj h =>
   bK 4 (.v (.c (.ptr (.own 4 1) 0))) aj h λ_ h =>
   cJ true 4 (.v (.c (.ptr (.own 4 1) 0))) h λc0=>bI U λc1=>bI (kI 0) λc2=>bS true 0 [c0,c1,c2] h)))
   (ca tab.get S 117 0 5 [kS s,kI (i:Int),.v (.c (.ptr (.own 4 1) 0))] h)) i (if eE (s.drop i) then fL (s.drop i) else if c.toNat=34 then kF (s.drop i) else ig (s.drop i)):=by
   intro q1;rw[bA (by rw[q1]; decide),vH s i c hc,vG];by_cases ak:c.toNat=34
   ·rw[cI (show(c.toNat:Int)=34 by omega),oc,bF ak];exact qQn s hs i ao h _ hh rfl
   ·rw[de (show ¬ (c.toNat:Int)=34 by omega),mN,bA ak];exact qOp s hs i c hc h _ hh rfl
  cases h2:isDigit c.toNat with
  |true =>
   have hn:eE (s.drop i)=true:=by rw[hd]; simp[eE,h2]
   simp only[XO,Yt,zp,oc];exact num hn (.inr h2)
  |false =>
   simp only[XT];rw[vH s i c hc,vG];by_cases aa:c.toNat=45
   ·rw[cI (show(c.toNat:Int)=45 by omega)];simp only[CO];rw[nz,e1,oW,qh,zp];by_cases hl:i+1<s.length
    ·obtain⟨d,al⟩:∃ d,s[i+1]?=some d:=⟨s[i+1],by simp[hl]⟩;have an:=Hi s (i+1) d al;rw[cI bn];simp only[CO];rw[nz,e1,vH s (i+1) d al,j6 185 _ _ rfl (XQ d) rfl,zp,zb];cases h3:isDigit d.toNat with
     |true =>
      rw[oc];exact num (by rw[hd,an]; simp[eE,aa,h3]) (.inl aa)
     |false =>
      rw[mN];exact rest (by rw[hd,an]; simp[eE,h2,h3])
    ·rw[de bn];simp only[Ci,zb,mN];have hn:s.drop (i+1)=[]:=kT bn;exact rest (by rw[hd,hn]; simp[eE,h2])
   ·rw[de (show ¬ (c.toNat:Int)=45 by omega)];simp only[Ci,zb,mN];exact rest (by rw[hd]; simp[eE,h2,aa])
open Go Go.AI
def qL6(f:Nat)(b:UInt8)(hb:dJ b.toNat=true)(s:LB)(i:Nat)(acc:List Tok):eu (f+1) (b::s) i acc=eu (f+1) s (i+1) acc:=by
 have e:cp dJ (b::s)=cp dJ s+1:=by simp[cp,hb]
 unfold eu;simp only[e,Au,show i+(cp dJ s+1)=i+1+cp dJ s by omega]
def qP0(f i:Nat)(acc:List Tok):eu f [] i acc = .ok acc:=by cases f <;> rfl
def qLx(acc:List Tok)(v:Cell)(h:bm)(G:ma [35] 4 v (acc.map Tok.row) h):ca tab.get S 56 0 2 [.v (.c v)] h=some (kW (ka (.ok acc)),[]):=by
 rw[Tf,Kp,qFb G,zc,oP];show _=some (kW (if 400<acc.length then .error 3 else .ok acc),[]);by_cases h1:400<acc.length
 ·rw[bF (cI cM),bF h1,gV,gV,mz _ _ rfl]; rfl
 ·rw[bA (by rw[dF]; simp; omega),bA h1,gV,gV,qIz _ G]; rfl
def qKr(s:LB)(hs:s.length<=1500):∀ (m i f:Nat) (acc:List Tok) (v:Cell) (h:bm),s.length - i<=m->s.length - i<f->i<=s.length->acc.length<=i->ma [35] 4 v (acc.map Tok.row) h ->
  ca tab.get S 56 0 1 [kS s,.v (.c v),kI (i:Int)] h=some (kW (ka (eu f (s.drop i) i acc)),[]):=by
 intro m;have done:∀ (i f:Nat) (acc:List Tok) (v:Cell) (h:bm),i=s.length->ma [35] 4 v (acc.map Tok.row) h->ca tab.get S 56 0 1 [kS s,.v (.c v),kI (i:Int)] h=some (kW (ka (eu f (s.drop i) i acc)),[]):=by
  intro i f acc v h hi G;subst hi;rw[vn,qP0,IV,Ea,oW,qh,de bn,mN];exact qLx acc v h G
 induction m using Nat.strongRecOn with
 |ind m ih =>
  intro i f acc v h hm hf hl ha G;by_cases hi:i<s.length
  ·obtain⟨c,hc⟩:∃ c,s[i]?=some c:=⟨s[i],by simp[hi]⟩;have hd:=Hi s i c hc;obtain⟨g,rfl⟩:∃ g,f=g+1:=⟨f - 1,bn⟩;rw[IV,Ea,oW,qh,cI bn,oc,vH s i c hc,j6 116 _ _ rfl (qPu c) rfl];cases hb:dJ c.toNat with
   |true =>
    rw[oc,nz,jZ _ bn bn,show((i:Int)+1)=((i+1:Nat):Int) by omega,hd,qL6 g c hb];exact ih (s.length - (i+1)) bn (i+1) (g+1) acc v h (cB _) bn bn bn G
   |false =>
    rw[mN];obtain⟨t,k,n1,n2⟩:=qUl s hs i c hc;rw[j6 117 _ _ rfl n1 rfl,show DM t k (lh (s.drop i)).e = .dq [.agg t.cells,.c (.p (.int .i64 k)),.c (.p (.int .i64 (lh (s.drop i)).e))] from rfl,tp _ 0 _ rfl,tp _ 1 _ rfl,tp _ 2 _ rfl,He];rw[Yc 4 (.own 6 (h.gen 6+1)) 0 0 _ (.agg t.cells) (bm.cC _ _ _ _ bu cb) bu rfl bu,bm.rf,XA];have hk:cp dJ (s.drop i)=0:=by rw[hd]; simp[cp,hb]
    have U:eu (g+1) (s.drop i) i acc=if (lh (s.drop i)).e=0 then eu g ((s.drop i).drop (lh (s.drop i)).n.toNat) (i+(lh (s.drop i)).n.toNat) (acc++[{ (lh (s.drop i)).t with pos:=(i:Int) }]) else .error (lh (s.drop i)).e:=by
     rw[eu];simp only[hk,eI,gH];rw[hd]
    have M:=qHK (s.drop i) (by rw[hd]; simp);rw[U];generalize lh (s.drop i)=o at n1 n2 M;by_cases A:o.e=0
    ·obtain⟨rfl,rfl⟩:=n2 A;obtain⟨n,e1,e2,e3⟩:=M A;rw[j0] at e3;rw[cI A,bF A,show(!true)=false from rfl,mN];have G1:=((G.own (d:=6) (h.gen 6+1) (.cells [.p (.int .i64 0),.p (.str []),.p (.int .i64 0),.p (.int .i64 0)] 0) bu).own (d:=6) (h.gen 6+1) (.cells (eY [.p (.int .i64 0),.p (.str []),.p (.int .i64 0),.p (.int .i64 0)] 0 (cN.agg (Tok.cells { o.t with pos:=(i:Int) })).cells) 0) bu);rw[qIn 4 (.own 6 (h.gen 6+1)) 0 0 _ (bm.cC _ _ _ _ bu cb) rfl];rw[qg (.cm 4 1 _ _ false) (j7 4 true [Tok.row { o.t with pos:=(i:Int) }]) rfl];have q4:((acc.map Tok.row).length+1)*40<=1099511627776:=by rw[dj]; omega
     obtain⟨v',h',G',e',_⟩:=qDu (d:=35) (by':=40) (new:=[Tok.row { o.t with pos:=(i:Int) }]) true G1 bu bR (by simp[Tok.row]) (by simpa using q4) bu;refine(e' _ _ _).trans ?_;have en:(i:Int)+o.n=((i+n:Nat):Int):=by rw[e1]; omega
     rw[en,e1,oJ,pE];exact ih (s.length - (i+n)) bn (i+n) g (acc++[{ o.t with pos:=(i:Int) }]) v' h' (cB _) bn bn cM (by simpa using G')
    ·rw[de A,bA A,show(!false)=true from rfl,oc,gV,gV,mz _ _ rfl];rfl
  ·exact done i f acc v h bn G
def qOQ(s:LB):Om 56 [kS s] []=some (kW (jO s),[]):=by
 refine(gD rfl).trans ?_;show ca tab.get S 56 0 0 [kS s] h0=_;rw[Tg,Kq,oW,zc,oP];unfold jO;by_cases h1:1500<s.length
 ·rw[bF (cI bn),bF h1,gV,gV,mz _ _ rfl]; rfl
 ·rw[bA (by rw[dF]; omega),bA h1];exact qKr s bn s.length 0 (s.length+1) [] (.p .bq) h0 bn bn bn bR (ma.nil _ 4 _)
open Go Go.AI
def iT(key:LB):List (LB)->Nat
 |[]=>0
 |a::l=>if cX a key then iT key l+1 else 0
def Vf(key:LB):∀ l:List (LB),iT key l<=l.length
 |[]=>cB _
 |a::l=>by
  unfold iT;split
  ·have:=Vf key l; simp; omega
  ·exact eV _
def vI(v:TT)(key:LB)(x:TT):TT :=
 if v.names.list[iT key v.names.list]?=some key then v else
  .mk v.kind v.name (.mk false (v.names.list.take (iT key v.names.list)++[key]++v.names.list.drop (iT key v.names.list))) (.mk false (v.kids.list.take (iT key v.names.list)++[x]++v.kids.list.drop (iT key v.names.list)))
abbrev p3:bt:=.v (.c (.ptr (.own 3 1) 0))
abbrev p5:bt:=.v (.c (.ptr (.own 5 1) 0))
abbrev p6:bt:=.v (.c (.ptr (.own 6 1) 0))
def qS4(v:TT)(key:LB)(x5 x6:bt)(h:bm)(hv:h.get (.own 3 1)=some (.cells (bp v.row) 0))(hl:v.names.len<=1000) :
  ∀ i:Nat,ca tab.get S 102 0 1 [kS key,p3,x5,x6,kI (i:Int)] h=ca tab.get S 102 0 2 [kS key,p3,x5,x6,kI ((i+iT key (v.names.list.drop i):Nat):Int)] h:=by
 refine CI v.names.len (λi hi=>?_) (λi hi U=>?_) <;> rw[NU,EU]
 ·have h1:¬ (i:Int)<(v.names.len:Int):=bn
  simp only[bW,hv,h1,tP hi,iT]
 ·have h1:(i:Int)<(v.names.len:Int):=bn
  obtain⟨s,hs,A,_⟩:=o9 hi;cases M:cX s key
  ·simp only[bW,hv,h1,A,hs,M,iT,gh,fC]
  ·simp only[bW,hv,h1,A,hs,M,iT,fx,sT i bn,U];rw[show i+1+iT key (v.names.list.drop (i+1))=i+(iT key (v.names.list.drop (i+1))+1) by omega]
def Ho(v:TT)(key:LB)(x:TT)(k:Nat):TT :=
 if v.names.list[k]?=some key then v else .mk v.kind v.name (.mk false (v.names.list.take k++[key]++v.names.list.drop k)) (.mk false (v.kids.list.take k++[x]++v.kids.list.drop k))
def Xu{β:Type}{O:bD}{h:bm}{d:Nat}{op:jE}{A:bt}{h':bm}{t:AI.Touch}(e:∀ (β:Type) (O:bD) (kt:KT β),br O op h d kt=kt A h' t)(k:KO β):bQ O op h d k=k A h':=by
 rw[Ch,e]
def qVU(v x:TT)(key:LB)(k:Nat)(h:bm)(hv:h.get (.own 3 1)=some (.cells (bp v.row) 0))(hx:h.get (.own 5 1)=some (.cells (bp x.row) 0))(h6:∃ cs,cs.length=4/\h.get (.own 6 1)=some (.cells cs 0))
  (hk:k<=v.names.len) (ab:k<=v.kids.len) (hl:v.names.len<=1000) (ad:v.kids.len<=1000) :
  ca tab.get S 102 0 2 [kS key,p3,p5,p6,kI (k:Int)] h=some (kA (Ho v key x k).row,[]):=by
 obtain⟨cs,M,h6⟩:=h6;rw[NS,ET];by_cases A:v.names.list[k]?=some key
 ·have h1:(k:Int)<(v.names.len:Int):=by
   have:=(cQ.1 A).1;unfold Sl.len; omega
  simp only[bW,rA,rC,rD,hv,h6,h1,A,M,Ho,fx]
 ·obtain⟨bk,ae,pk⟩:=qMq 1 dg v.names k hk;obtain⟨dk,af,qk⟩:=qM2 1 dg v.names k hk;obtain⟨bl,ag,pl⟩:=qMq 4 TT.row v.kids k ab;obtain⟨dl,ah,ql⟩:=qM2 4 TT.row v.kids k ab;have r1:∀ l:List (LB),∀ r∈l.map dg,r.length=1:=λl r U=>by obtain⟨_,_,rfl⟩:=fk.1 U; rfl
  have r6:∀ l:List TT,∀ r∈l.map TT.row,r.length=4:=λl r U=>by obtain⟨a,_,rfl⟩:=fk.1 U; exact TT.ct a
  have n1:v.names.list.length<=1000:=hl;have n2:v.kids.list.length<=1000:=ad;have m1:∀ l:List TT,(l.map TT.row).length=l.length:=λl=>dj _
  have m2:∀ l:List (LB),(l.map dg).length=l.length:=λl=>dj _
  obtain⟨c1,h1,t1,G1,e1,T1,K1,I1,X1⟩:=sS (h:=h) (d:=46) (D:=[46,56,61]) (sz:=1) (by':=16) (v:=.p (.slice 1 true [])) (rows:=[]) ae (.inr (.inl rfl)) bu (r1 _) (by simp[m2]; omega) bu;obtain⟨c2,h2,t2,G2,e2,T2,K2,I2,X2⟩:=sS (h:=h1) (d:=52) (D:=[52,65,70]) (sz:=4) (by':=72) (v:=.p (.slice 4 true [])) (rows:=[]) ag (.inr (.inl rfl)) bu (r6 _) (by simp[m1]; omega) bu;have ai:GS [46,56,61] 1 c1 ([]++(v.names.list.take k).map dg) h2:=G1.dY λe he g hh=>K2 e g _ (by revert he; simp; omega) hh
  obtain⟨c3,h3,t3,G3,e3,T3,K3,I3,X3⟩:=sS (h:=h2) (d:=56) (sz:=1) (by':=16) (new:=[[.str key]]) (b:=.slice 1 true [[.str key]]) (.inr ⟨_,rfl⟩) ai bu (λr U=>by simp at U; rw[U]; rfl) (by simp[m2]; omega) bu;obtain⟨c4,h4,t4,G4,e4,T4,K4,I4,X4⟩:=sS (d:=61) (by':=16) af G3 bu (r1 _) (by simp[m2]; omega) bu;have aj:GS [52,65,70] 4 c2 ([]++(v.kids.list.take k).map TT.row) h4:=G2.dY λe he g hh=>K4 e g _ (by revert he; simp; omega) (K3 e g _ (by revert he; simp; omega) hh)
  obtain⟨c5,h5,t5,G5,e5,T5,K5,I5,X5⟩:=sS (d:=65) (by':=72) (new:=[x.row]) (b:=.slice 4 true [x.row]) (.inr ⟨_,rfl⟩) aj bu (λr U=>by simp at U; rw[U]; exact TT.ct x) (by simp[m1]; omega) bu;obtain⟨c6,ak,t6,G6,e6,T6,K6,I6,X6⟩:=sS (d:=70) (by':=72) ah G5 bu (r6 _) (by simp[m1]; omega) bu;obtain⟨ra,ea⟩:=X4 (.inr (X3 (.inl bR)));obtain⟨rb,eb⟩:=X6 (.inr (X5 (.inl bR)));have dY:∀ e o,e∉[46,56,61,52,65,70]->h.get (.own e 1)=some o->(h1.get (.own e 1)=some o/\h2.get (.own e 1)=some o)/\(h3.get (.own e 1)=some o/\h4.get (.own e 1)=some o)/\h5.get (.own e 1)=some o/\ak.get (.own e 1)=some o:=by
   intro e o he ho;have a1:=K1 e 1 o (by revert he; simp <;> omega) ho;have a2:=K2 e 1 o (by revert he; simp <;> omega) a1;have a3:=K3 e 1 o (by revert he; simp <;> omega) a2;have a4:=K4 e 1 o (by revert he; simp <;> omega) a3;have a5:=K5 e 1 o (by revert he; simp <;> omega) a4;exact⟨⟨a1,a2⟩,⟨a3,a4⟩,a5,K6 e 1 o (by revert he; simp <;> omega) a5⟩
  obtain⟨⟨v1,v2⟩,⟨v3,v4⟩,v5,v6⟩:=dY 3 _ bu hv;obtain⟨⟨x1,x2⟩,⟨x3,x4⟩,x5,x6⟩:=dY 5 _ bu hx;obtain⟨⟨y1,y2⟩,⟨y3,y4⟩,y5,y6⟩:=dY 6 _ bu h6;have A1:AI.Touch.apart t3 ⟨[(Ref.own 5 1).site],[],false⟩=true:=AS T3 5 bu;have A2:AI.Touch.apart t4 ⟨[(Ref.own 5 1).site],[],false⟩=true:=AS T4 5 bu;have A3:AI.Touch.apart t3 ⟨[(Ref.own 3 1).site],[],false⟩=true:=AS T3 3 bu;have A4:AI.Touch.apart t4 ⟨[(Ref.own 3 1).site],[],false⟩=true:=AS T4 3 bu;have A5:AI.Touch.apart t5 ⟨[(Ref.own 3 1).site],[],false⟩=true:=AS T5 3 bu;have P1:dm (bp v.row) 2 [c4]=[.p (.int .i64 v.kind),.p (.str v.name),c4,.p (dI 4 TT.row v.kids)]:=by rw[TT.fD]; rfl
  have P2:∀ a b f:Cell,dm [a,b,c4,f] 3 [c6]=[a,b,c4,c6]:=λ_ _ _=>rfl
  have P3:∀ a b c d:Cell,dm cs 0 [a,b,c,d]=[a,b,c,d]:=λ_ _ _ _=>yf _ _ (by rw[M]; rfl)
  have F:∀ h,bS true 0 [.agg [.p (.int .i64 v.kind),.p (.str v.name),c4,c6]] h=some (kA (Ho v key x k).row,[]):=by
   intro h;rw[ea,eb,ZF _ rfl,Ho,bA A,TT.fD (TT.mk _ _ _ _)];show _=some (kA [.int .i64 v.kind,.str v.name,dI 1 dg (.mk false (v.names.list.take k++[key]++v.names.list.drop k)),dI 4 TT.row (.mk false (v.kids.list.take k++[x]++v.kids.list.drop k))],[]);simp only[oneOf,dI,cN.strip,Cell.strip,gG,dr,kL,kK];rfl
  have B1:∀ {β:Type}{O:bD}{h:bm}{d:Nat}{kt:KT β},br O (.cm 1 1 [.p (.str [])] [(0,.k (kS key))] false) h d kt=kt (j7 1 true [[.str key]]) h cj:=Yn _ _ rfl;have B2:∀ {β:Type}{O:bD}{h:bm}{d:Nat}{kt:KT β},br O (.cm 4 1 [.p (.int .i64 0),.p (.str []),.p .bq,.p .bq] [(0,.k (.v (.agg (bp x.row))))] false) h d kt=kt (j7 4 true [x.row]) h cj:=Hk 4 _ _ rfl (TT.ct x);by_cases aa:(k:Int)<(v.names.len:Int)
  ·obtain⟨s,hs,_,_⟩:=o9 (l:=v.names.list) (i:=k) (by unfold Sl.len at aa; omega);have al:¬ s=key:=λe=>A (by rw[hs,e])
   simp only[bW,rA,rC,rD,rE,hv,h6,aa,hs,al,M,qg _ _ pk,qg _ _ pl,tQ _ _ qk,tQ _ _ ql,Xu e1,Xu e2,e3,e4,e5,e6,v1,v3,v5,v6,x4,y6,B1,B2,rY,A1,A2,A3,A4,A5,P1,P2,P3];exact F _
  ·simp only[bW,rA,rC,rD,rE,hv,h6,aa,M,qg _ _ pk,qg _ _ pl,tQ _ _ qk,tQ _ _ ql,Xu e1,Xu e2,e3,e4,e5,e6,v1,v3,v5,v6,x4,y6,B1,B2,rY,A1,A2,A3,A4,A5,P1,P2,P3];exact F _
def sW(n:Nat)(v:TT):Prop:=v.names.len=v.kids.len/\v.names.len<=n
def UR(v x:TT)(key:LB)(hv:sW 1000 v):Om 102 [kA v.row,kS key,kA x.row] []=some (kA (vI v key x).row,[]):=by
 obtain⟨e,hl⟩:=hv;refine(gD rfl).trans ?_;show ca tab.get S 102 0 0 [kA v.row,kS key,kA x.row] h0=_;rw[NV,EV];have A:iT key v.names.list<=v.names.len:=Vf _ _;simp only[bW,rE];refine(qS4 v key _ _ _ ?_ hl 0).trans ?_
 ·rfl
 rw[eI,nY];exact qVU v x key _ _ rfl rfl ⟨_,rfl,rfl⟩ A (e▸A) hl bn
def qQ4(n:Nat)(k:Int)(s:LB)(p:List (LB))(l:List TT)(x:TT)(key:LB)(m:Nat)(hm:m<=p.length)(e:p.length=l.length)(hl:p.length<=n):sW (n+1) (.mk k s (.mk false (p.take m++[key]++p.drop m)) (.mk false (l.take m++[x]++l.drop m))):=by
 have h1:(p.take m++[key]++p.drop m).length=p.length+1:=cM
 have A:(l.take m++[x]++l.drop m).length=l.length+1:=cM
 constructor
 ·show(p.take m++[key]++p.drop m).length=(l.take m++[x]++l.drop m).length;omega
 ·show(p.take m++[key]++p.drop m).length<=n+1;omega
def qLa(n:Nat)(v x:TT)(key:LB)(hv:sW n v):sW (n+1) (vI v key x):=by
 obtain⟨e,hl⟩:=hv;unfold vI;split
 ·exact⟨e,bn⟩
 ·exact qQ4 n _ _ _ _ _ _ _ (Vf _ _) e hl
open Go Go.AI
mutual
def ot:RW->Int->Int
 |.mk k n s l,m=>if (((!decide (0<m))||decide (10<(l.len:Int)))||decide (20<(s.len:Int))) then 0 else OU l (IntKind.i64.wrap (m - 1))
def OU:Sl RW->Int->Int
 |.nil,m=>m
 |.mk _ l,m=>su l m
def su:List RW->Int->Int
 |[],m=>m
 |r::rs,m=>if 0<m then su rs (ot r m) else m
end
def qVr(l:Sl RW)(m:Int):OU l m=su l.list m:=by cases l <;> simp[OU,su,Sl.list]
def Cu(r:RW)(m:Int):Bool:=((!decide (0<m))||decide (10<(r.kids.len:Int)))||decide (20<(r.names.len:Int))
def qNG(r:RW)(m:Int):ot r m=if Cu r m then 0 else su r.kids.list (IntKind.i64.wrap (m - 1)):=by
 cases r with
 |mk k n s l=>rw[ot,qVr]; rfl
def qSf(r:RW)(g:Nat)(h:bm)(hv:h.get (.own 2 g)=some (.cells (bp r.row) 0))(hl:r.kids.len<=12)
  (U:∀ x∈r.kids.list,∀ m,Om 38 [kA x.row,kI m] []=some (kI (ot x m),[])) :
  ∀ (i:Nat) (m:Int),ca tab.get S 38 0 1 [kI m,.v (.c (.ptr (.own 2 g) 0)),kI (i:Int)] h=some (kI (su (r.kids.list.drop i) m),[]):=by
 refine CI r.kids.len (λi hi m=>?_) (λi hi A m=>?_) <;> rw[TO,KH]
 ·have h1:¬ (i:Int)<(r.kids.len:Int):=bn
  simp only[bW,ov,hv,h1,tP hi,su]
 ·have h1:(i:Int)<(r.kids.len:Int):=bn
  obtain⟨x,hs,M,hx⟩:=o9 hi;by_cases hm:0<m
  ·have cc:IM 38 [kA x.row,kI m] (kI (ot x m)):=j6 38 _ _ (by simp only[jr]) (U x hx m) rfl;simp only[bW,ov,hv,h1,hs,hm,cc,sT i bn,A,M,su,fx]
  ·simp only[bW,ov,hv,h1,hs,hm,M,su,fC]
def qV4:∀ (n:Nat) (r:RW),SizeOf.sizeOf r<n->∀ m,Om 38 [kA r.row,kI m] []=some (kI (ot r m),[]):=by
 intro n
 induction n with
 |zero=>intro r h; omega
 |succ n A =>
  intro r hs m;refine(gD rfl).trans ?_;show ca tab.get S 38 0 0 [kA r.row,kI m] h0=_;rw[TP,KI,qNG];cases hb:Cu r m
  ·unfold Cu at hb;simp (maxSteps:=9^7) +contextual only[bW,rA,rC,ov,hb];have hl:r.kids.len<=12:=by simp only[nj,qp] at hb; omega
   have:=qSf r _ _ (Vd h0 2 1 _ 0 bu) hl (λx hx=>A x (by have:=RW.mE hx; omega)) 0 (IntKind.i64.wrap (m - 1));rw[eI] at this;exact this
  ·unfold Cu at hb;simp (maxSteps:=9^7) +contextual only[bW,rA,rC,ov,hb,fx]
def Jw{β:Type}{k:KO β}{h:bm}{d:Nat}(r:RW)(m:Int):bE Om (F_ 38) [kA r.row,kI m] h d k=k (kI (ot r m)) h:=j6 38 _ _ (by simp only[jr]) (qV4 _ r (lJ _) m) rfl
mutual
def qe:RW->Prop
 |.mk k n s l=>l.len<=10/\s.len<=20/\smS l
def smS:Sl RW->Prop
 |.nil=>True
 |.mk _ l=>RU l
def RU:List RW->Prop
 |[]=>True
 |r::rs=>qe r/\RU rs
end
def qPY:∀ l:List RW,RU l↔∀ x∈l,qe x
 |[]=>by simp[RU]
 |r::l=>by simp[RU,qPY l]
def RZ(r:RW):qe r↔r.kids.len<=10/\r.names.len<=20/\∀ x∈r.kids.list,qe x:=by
 cases r with
 |mk k n s l =>
  rw[qe,<- qPY];cases l <;> simp[smS,RU,Sl.list,RW.kids,RW.names]
def qV0:∀ (n:Nat) (r:RW),SizeOf.sizeOf r<n->∀ m:Int,m<=1000->0<=ot r m/\(ot r m<=m\/m<0)/\(ot r m≠0->qe r):=by
 intro n
 induction n with
 |zero=>intro r h; omega
 |succ n ih =>
  intro r hs m hm;have hl:∀ l:List RW,(∀ x∈l,SizeOf.sizeOf x<n)->∀ m:Int,0<=m->m<=1000->0<=su l m/\su l m<=m/\(su l m≠0->∀ x∈l,qe x):=by
   intro l
   induction l with
   |nil=>intro _ m h0 _; exact⟨h0,As _,λ_ x hx=>by cases hx⟩
   |cons x l U =>
    intro hx m h0 h1;unfold su;by_cases hp:0<m
    ·rw[bF hp];obtain⟨a1,a2,a3⟩:=ih x (hx x bR) m h1;have aa:ot x m<=m:=by rcases a2 with a|a <;> omega
     obtain⟨b1,b2,b3⟩:=U (λy A=>hx y (by simp[A])) (ot x m) a1 bn;refine⟨b1,bn,λhz y A=>?_⟩
     rcases dK.1 A with rfl|A
     ·exact a3 bn
     ·exact b3 hz y A
    ·rw[bA hp];exact⟨h0,As _,λhz=>bn⟩
  rw[qNG];cases hb:Cu r m
  ·simp only[gh,fC];have M:=hb;simp only[Cu,nj,qp,Bool.not_eq_false',dF] at M;obtain⟨⟨h1,h2⟩,h3⟩:=M;rw[jZ (m - 1) bn bn];obtain⟨c1,c2,c3⟩:=hl r.kids.list (λx hx=>by have:=RW.mE hx; omega) (m - 1) bn bn;exact⟨c1,bn,λhz=>(RZ r).2 ⟨bn,bn,c3 hz⟩⟩
  ·simp only[fx];exact⟨As _,bn,λhz=>absurd rfl hz⟩
def qFn{r:RW}{m:Int}(hm:m<=1000)(h:ot r m≠0):qe r:=(qV0 _ r (lJ _) m hm).2.2 h
def jU(r:RW)(i:Nat):RW:=match r.kids.list[i % r.kids.len]? with
 |some x=>x
 |none=>.mk (IntKind.i64.wrap (r.n+(i:Int))) r.kind .nil .nil
def Xg{r:RW}(sm:qe r)(i:Nat):qe (jU r i):=by
 unfold jU;cases h:r.kids.list[i % r.kids.len]? with
 |none=>exact(RZ _).2 ⟨by show 0<=10; decide,by show 0<=20; decide,λx hx=>by cases hx⟩
 |some x=>exact((RZ r).1 sm).2.2 x (mY h)
def qQC(r:RW)(i:Nat)(sm:qe r):Om 100 [kA r.row,kI (i:Int)] []=some (kA (jU r i).row,[]):=by
 obtain⟨s1,_,_⟩:=(RZ r).1 sm;refine(gD rfl).trans ?_;show ca tab.get S 100 0 0 [kA r.row,kI (i:Int)] h0=_;rw[NX,EX];by_cases hz:r.kids.len=0
 ·have e:jU r i = .mk (IntKind.i64.wrap (r.n+(i:Int))) r.kind .nil .nil:=by
   unfold jU;rw[ky (by show r.kids.len<=_; omega)]
  have h1:((r.kids.len:Nat):Int)=0:=bn
  have P:∀ a b c d:Cell,dm ([.p (.int .i64 0),.p (.int .i64 0),.p .bq,.p .bq]:List Cell) 0 [a,b,c,d]=[a,b,c,d]:=λ_ _ _ _=>rfl
  rw[e];simp only[bW,rA,rC,rD,rE,ov,h1,P];rw[RW.fD]; rfl
 ·have h1:¬ ((r.kids.len:Nat):Int)=0:=bn
  have A:i % r.kids.len<r.kids.len:=Nat.mod_lt _ bn;obtain⟨x,hs,_,hx⟩:=o9 (l:=r.kids.list) (i:=i % r.kids.len) A;have e:jU r i=x:=by unfold jU; rw[hs]
  have hm:(i:Int).tmod (r.kids.len:Int)=((i % r.kids.len:Nat):Int):=by
   rw[Int.tmod_eq_emod_of_nonneg bn]; omega
  have P:dm ([.p (.int .i64 0),.p (.int .i64 0),.p .bq,.p .bq]:List Cell) 0 (bp x.row)=bp x.row:=yf _ _ (by simp[bp,RW.ct]);rw[e];simp only[bW,rA,rC,rD,rE,ov,h1,Vb 0 .i64 (i:Int) (r.kids.len:Int) bn,hm,hs,P]
def u27{β:Type}{k:KO β}{h:bm}{d:Nat}(r:RW)(i:Nat)(sm:qe r):bE Om (F_ 100) [kA r.row,kI (i:Int)] h d k=k (kA (jU r i).row) h:=j6 100 _ _ (by simp only[jr]) (qQC r i sm) (by simp only[jr])
def wg:List (LB):=[[97],[98],[99],[110,97,109,101],[110],[73,110,116],[116,121,112,101]]
def rm(n:Int):LB:=wg.getD (cK n 7).toNat []
def qKG(n:Int):wg[(cK n 7).toNat]?=some (rm n):=by
 have h:=DH n 7 bu;have h1:(cK n 7).toNat<wg.length:=by show _<7; omega
 unfold rm;rw[na,fQ h1]; rfl
def qWO(n:Int):Om 101 [kI n] []=some (kS (rm n),[]):=by
 have hw:=DH n 7 bu;have e:(wg.map dg)[(cK n 7).toNat]?=some (dg (rm n)):=by rw[dP,qKG]; rfl
 have w0:decide (0<=cK n 7)=true:=cI hw.1;have B:∀ {β:Type}{O:bD}{h:bm}{d:Nat}{k:KO β},bQ O (.cm 1 7 [.p (.str [])] [(0,.k (kS [97])),(1,.k (kS [98])),(2,.k (kS [99])),(3,.k (kS [110,97,109,101])),(4,.k (kS [110])),(5,.k (kS [73,110,116])),(6,.k (kS [116,121,112,101]))] false) h d k=k (j7 1 true (wg.map dg)) h:=λ{β O h d k}=>qg _ _ rfl
 refine(gD rfl).trans ?_;show ca tab.get S 101 0 0 [kI n] h0=_;rw[NW,EW];simp only[bW,B,CC n 7 bu bu,e,w0]
def u21{β:Type}{k:KO β}{h:bm}{d:Nat}(n:Int):bE Om (F_ 101) [kI n] h d k=k (kS (rm n)) h:=j6 101 _ _ rfl (qWO n) rfl
open Go Go.AI
def J9(r:RW)(i:Nat):LB:=match r.names.list[i]? with
 |some n=>rm n
 |none=>[117]
def wG(r:RW)(sub:RW->TT):Nat->Nat->TT->TT
 |0,_,t=>t
 |c+1,i,t=>wG r sub c (i+1) (vI t (J9 r i) (sub (jU r i)))
def oz(r:RW)(k:Int):Nat:=if r.names.len=0 then (if k=8 then 1 else 0) else min r.names.len 4
def jX(ns:List (LB))(k:Int)(r:RW)(sub:RW->TT):TT :=
 if k=9 then .mk 9 (ns.getD (cK r.n (ns.length:Int)).toNat []) .nil .nil
 else if k=4\/k=5\/k=6 then (if k=6/\(sub (jU r 0)).kind=6 then sub (jU r 0) else .mk k [] .nil (.mk true [sub (jU r 0)]))
 else if k=7\/k=8 then wG r sub (oz r k) 0 (.mk k [] .nil .nil)
 else .mk k [] .nil .nil
def py(r:RW)(d:Int):Int:=if d<=1/\4<=1+cK r.kind 9/\1+cK r.kind 9<=8 then 2 else 1+cK r.kind 9
abbrev z4:List Cell:=[.p (.int .i64 0),.p (.str []),.p .bq,.p .bq]
abbrev t3:bt:=.v (.c (.ptr (.own 3 1) 0))
abbrev t6:bt:=.v (.c (.ptr (.own 6 1) 0))
abbrev t8:bt:=.v (.c (.ptr (.own 8 1) 0))
structure tc (r:RW) (t:TT) (h:bm):Prop where
 a3:h.get (.own 3 1)=some (.cells (bp r.row) 0)
 a6:h.get (.own 6 1)=some (.cells z4 0)
 a8:h.get (.own 8 1)=some (.cells (bp t.row) 0)
def tc.put{r:RW}{t:TT}{h:bm}(H:tc r t h)(A:TT):tc r A (h.own 8 1 (.cells (bp A.row) 0)) :=
 ⟨(bm.bN h 8 1 _ 3 1 bu).trans H.a3,(bm.bN h 8 1 _ 6 1 bu).trans H.a6,Vd h 8 1 _ 0 bu⟩
def Xs(row:List bL)(h:row.length=4):dm z4 0 (bp row)=bp row:=yf _ _ (by simp[bp,h])
def qVK(a row:List bL)(A:a.length=4)(h:row.length=4):dm (bp a) 0 (bp row)=bp row:=yf _ _ (by simp[bp,h,A])
def Oa(r:RW)(t:TT)(h:bm)(H:tc r t h):ca tab.get S 39 0 6 [t6,t8] h=some (kA t.row,[]):=by
 rw[TJ,KE];simp only[bW,rA,rC,rD,H.a6,H.a8,Xs _ (TT.ct t)]
def pH(ns:Sl (LB))(d:Int)(f:RW->TT):Prop:=∀ x:RW,qe x->Om 39 [kA x.row,kI d,.v (.c (.p (dI 1 dg ns)))] []=some (kA (f x).row,[])
def y27{β:Type}{kt:KT β}{h:bm}{d:Nat}(r:RW)(i:Nat)(sm:qe r):br Om (.call (.k (F_ 100)) [.k (kA r.row),.k (kI (i:Int))]) h d kt=kt (kA (jU r i).row) h cj :=
 Hg 100 [kA r.row,kI (i:Int)] _ (by simp only[jr]) (qQC r i sm) (by simp only[jr])
def RO{β:Type}{kt:KT β}{h:bm}{d:Nat}{ns:Sl (LB)}{m:Int}{f:RW->TT}(ok:pH ns m f)(x:RW)(sm:qe x):br Om (.call (.k (F_ 39)) [.k (kA x.row),.k (kI m),.k (.v (.c (.p (dI 1 dg ns))))]) h d kt=kt (kA (f x).row) h cj :=
 Hg 39 [kA x.row,kI m,.v (.c (.p (dI 1 dg ns)))] _ (by simp only[jr]) (ok x sm) (by simp only[jr])
def Zl{β:Type}{k:KO β}{h:bm}{d:Nat}{ns:Sl (LB)}{m:Int}{f:RW->TT}(ok:pH ns m f)(x:RW)(sm:qe x):bE Om (F_ 39) [kA x.row,kI m,.v (.c (.p (dI 1 dg ns)))] h d k=k (kA (f x).row) h :=
 j6 39 _ _ (by simp only[jr]) (ok x sm) (by simp only[jr])
def y28{β:Type}{kt:KT β}{h:bm}{d:Nat}(v x:TT)(key:LB)(hv:sW 1000 v):br Om (.call (.k (F_ 102)) [.k (kA v.row),.k (kS key),.k (kA x.row)]) h d kt=kt (kA (vI v key x).row) h cj :=
 Hg 102 [kA v.row,kS key,kA x.row] _ (by simp only[jr]) (UR v x key hv) (by simp only[jr])
def qTr(ns:Sl (LB))(d k:Int)(f:RW->TT)(ok:pH ns (IntKind.i64.wrap (d - 1)) f)(r:RW)(sm:qe r)(i:Nat)(hi:i<=100)(nm:LB)(t:TT)(ev:sW 1000 t)(h:bm)(H:tc r t h) :
  ∃ h',tc r (vI t nm (f (jU r i))) h'/\ca tab.get S 39 0 5 [kI d,.v (.c (.p (dI 1 dg ns))),t3,t6,kI k,t8,kI (i:Int),kS nm] h=ca tab.get S 39 0 4 [kI d,.v (.c (.p (dI 1 dg ns))),t3,t6,kI k,t8,kI ((i+1:Nat):Int)] h':=by
 refine⟨_,H.put _,?_⟩;rw[TK,KF];simp only[bW,rD,ov,H.a3,H.a8,y27 r i sm,RO ok _ (Xg sm i),y28 _ _ _ ev,rY,qVK _ _ (TT.ct t) (TT.ct _),sT i bn]
def qTV(ns:Sl (LB))(d k:Int)(hk:k=7\/k=8)(f:RW->TT)(ok:pH ns (IntKind.i64.wrap (d - 1)) f)(r:RW)(sm:qe r) :
  ∀ (c i:Nat),i+c=oz r k->∀ (t:TT) (h:bm),sW (i+1) t->tc r t h->ca tab.get S 39 0 4 [kI d,.v (.c (.p (dI 1 dg ns))),t3,t6,kI k,t8,kI (i:Int)] h=some (kA (wG r f c i t).row,[]):=by
 obtain⟨_,s2,_⟩:=(RZ r).1 sm;have ab:oz r k<=4:=by unfold oz; split <;> (try split) <;> omega
 intro c
 induction c with
 |zero =>
  intro i hi t h ev H;rw[IY,Ed];have q:¬ (((i:Int)<(r.names.len:Int)/\(i:Int)<4)\/((i:Int)=0/\k=8)):=by
   unfold oz at hi;split at hi
   ·split at hi <;> omega
   ·omega
  by_cases h1:(i:Int)<(r.names.len:Int)
  ·have h2:¬ (i:Int)<4:=bn
   have A:¬ (i:Int)=0:=bn
   simp only[bW,ov,H.a3,h1,h2,A];exact Oa r t h H
  ·by_cases A:(i:Int)=0
   ·have h4:¬ k=8:=bn
    have M:¬ (0:Int)<(r.names.len:Int):=by rw[<- A]; exact h1
    simp only[bW,rF,ov,H.a3,M,A,h4];exact Oa r t h H
   ·simp only[bW,ov,H.a3,h1,A];exact Oa r t h H
 |succ c ih =>
  intro i hi t h ev H;rw[IY,Ed];have aa:sW 1000 t:=⟨ev.1,by have:=ev.2; omega⟩;by_cases h1:(i:Int)<(r.names.len:Int)
  ·have h2:(i:Int)<4:=bn
   obtain⟨n,hn,_,_⟩:=o9 (l:=r.names.list) (i:=i) (by show i<r.names.len; omega);have U:J9 r i=rm n:=by unfold J9; rw[hn]
   obtain⟨h',H',e'⟩:=qTr ns d k f ok r sm i bn (rm n) t aa h H;simp only[bW,ov,H.a3,h1,h2,hn,u21];rw[e',wG,U];exact ih (i+1) bn _ h' (qLa _ _ _ _ ev) H'
  ·have A:i=0:=by
    unfold oz at hi;split at hi
    ·split at hi <;> omega
    ·omega
   subst A;have h4:k=8:=by
    unfold oz at hi;split at hi
    ·split at hi
     ·assumption
     ·omega
    ·omega
   subst h4;have U:J9 r 0=[117]:=by
    unfold J9;rw[ky (by show r.names.len<=0; omega)]
   obtain⟨h',H',e'⟩:=qTr ns d 8 f ok r sm 0 bn [117] t aa h H;have M:¬ (0:Int)<(r.names.len:Int):=h1;have i0:((0:Nat):Int)=0:=rfl;rw[i0] at e' ⊢;simp only[bW,rF,ov,H.a3,M];rw[e',wG,U];exact ih 1 bn _ h' (qLa _ _ _ _ ev) H'
def qEO(a:Int):1<=1+cK a 9/\1+cK a 9<=9:=by
 have:=DH a 9 bu; omega
def Hd(ns:Sl (LB))(ab:ns.len<=1000)(d k:Int)(f:RW->TT)(r:RW)(sm:qe r)(hk:1<=k/\k<=9)(h9:k=9->0<ns.len)(ok:4<=k->k<=8->pH ns (IntKind.i64.wrap (d - 1)) f)(h:bm)(a3:h.get (.own 3 1)=some (.cells (bp r.row) 0))(a6:h.get (.own 6 1)=some (.cells z4 0))(g8:h.gen 8=0) :
  ca tab.get S 39 0 1 [kI d,.v (.c (.p (dI 1 dg ns))),t3,t6,kI k] h=some (kA (jX ns.list k r f).row,[]):=by
 have H:tc r (.mk k [] .nil .nil) ((h.own 8 1 (.cells z4 0)).own 8 1 (.cells (bp (TT.mk k [] .nil .nil).row) 0)) :=
  ⟨(bm.bN _ 8 1 _ 3 1 bu).trans ((bm.bN _ 8 1 _ 3 1 bu).trans a3),(bm.bN _ 8 1 _ 6 1 bu).trans ((bm.bN _ 8 1 _ 6 1 bu).trans a6),Vd _ 8 1 _ 0 bu⟩
 have PZ:∀ a b c d:Cell,dm z4 0 [a,b,c,d]=[a,b,c,d]:=λ_ _ _ _=>rfl
 rw[TL,KG];unfold jX;by_cases k9:k=9
 ·rw[bF k9];have hw:=DH r.n (ns.len:Int) bn;have w0:decide (0<=cK r.n (ns.len:Int))=true:=cI hw.1;obtain⟨s,hs,_,_⟩:=o9 (l:=ns.list) (i:=(cK r.n (ns.len:Int)).toNat) (by show _<ns.len; omega);have hd:ns.list.getD (cK r.n (ns.list.length:Int)).toNat []=s:=by
   rw[na];show(ns.list[(cK r.n (ns.len:Int)).toNat]?).getD []=s;rw[hs]; rfl
  rw[hd];subst k9;simp only[bW,rA,rC,rD,rE,rH,ov,a3,g8,PZ,CC r.n (ns.len:Int) bn bn,hs,w0];exact Oa r (.mk 9 s .nil .nil) _ (H.put (.mk 9 s .nil .nil))
 rw[bA k9];have one:∀ (c:Int) (hc:k=c),(c=4\/c=5\/c=6)->ca tab.get S 39 0 2 [kI d,.v (.c (.p (dI 1 dg ns))),t3,t6,kI k,t8,kI k,kB true] ((h.own 8 1 (.cells z4 0)).own 8 1 (.cells (bp (TT.mk k [] .nil .nil).row) 0))=some (kA (if k=6/\(f (jU r 0)).kind=6 then f (jU r 0) else .mk k [] .nil (.mk true [f (jU r 0)])).row,[]):=by
  intro c hc aa;have M:=ok bn bn;have U:IM 100 [kA r.row,kI 0] (kA (jU r 0).row):=u27 r 0 sm;have B:∀ {β:Type}{O:bD}{h:bm}{d:Nat}{k:KO β}(y:TT),bQ O (.cm 4 1 z4 [(0,.k (.v (.agg (bp y.row))))] false) h d k=k (j7 4 true [y.row]) h:=λ{β O h d k} y=>qIE 4 z4 _ rfl (TT.ct y)
  have P3:∀ x:bL,dm (bp (TT.mk k [] .nil .nil).row) 3 [.p x]=[.p (.int .i64 k),.p (.str []),.p .bq,.p x]:=λ_=>rfl
  rw[IZ,Ee];by_cases A:k=6
  ·by_cases kk:(f (jU r 0)).kind=6
   ·rw[bF ⟨A,kk⟩];subst A;simp only[bW,rA,rC,rD,rE,rG,rH,ov,H.a3,H.a6,H.a8,U,Zl M _ (Xg sm 0),B,P3,kk,vi,Xs _ (TT.ct _)]
   ·rw[bA (λe=>kk e.2)];subst A;simp only[bW,rA,rC,rD,rG,rH,ov,H.a3,H.a8,U,Zl M _ (Xg sm 0),B,P3,kk,vi];exact Oa r (.mk 6 [] .nil (.mk true [f (jU r 0)])) _ (H.put (.mk 6 [] .nil (.mk true [f (jU r 0)])))
  ·rw[bA (λe=>A e.1)];simp only[bW,rA,rD,ov,H.a3,H.a8,U,Zl M _ (Xg sm 0),B,P3,A];exact Oa r (.mk k [] .nil (.mk true [f (jU r 0)])) _ (H.put (.mk k [] .nil (.mk true [f (jU r 0)])))
 by_cases k4:k=4
 ·rw[bF (.inl k4)];have:=one 4 k4 bn;subst k4;simp only[bW,rA,rC,rD,rH,g8,PZ];exact this
 by_cases k5:k=5
 ·rw[bF (.inr (.inl k5))];have:=one 5 k5 bn;subst k5;simp only[bW,rA,rC,rD,rH,g8,PZ];exact this
 by_cases A:k=6
 ·rw[bF (.inr (.inr A))];have:=one 6 A bn;subst A;generalize (if (6:Int)=6/\(f (jU r 0)).kind=6 then f (jU r 0) else TT.mk 6 [] .nil (.mk true [f (jU r 0)]))=q at this ⊢;simp only[bW,rA,rC,rD,rH,g8,PZ];exact this
 rw[bA bn];simp only[bW,rA,rC,rD,g8,PZ,k9,k4,k5,A];rw[IZ,Ee];by_cases k7:k=7
 ·rw[bF (.inl k7)];have:=qTV ns d k (.inl k7) f (ok bn bn) r sm (oz r k) 0 bn (.mk k [] .nil .nil) _ ⟨rfl,by show 0<=_; omega⟩ H;subst k7;simp only[bW,rE,rH,ov,a3];rw[C6,Bz];simp only[bW];exact this
 by_cases k8:k=8
 ·rw[bF (.inr k8)];have:=qTV ns d k (.inr k8) f (ok bn bn) r sm (oz r k) 0 bn (.mk k [] .nil .nil) _ ⟨rfl,by show 0<=_; omega⟩ H;subst k8;simp only[bW,rE,rH,ov,a3];rw[C6,Bz];simp only[bW];exact this
 rw[bA bn];simp only[bW,rE,ov,a3,k7,k8];rw[C6,Bz];simp only[bW];exact Oa r (.mk k [] .nil .nil) _ H
def qXT(ns:Sl (LB))(A:ns.len<=1000)(hn:0<ns.len)(d:Int)(f:RW->TT)(r:RW)(sm:qe r)(ok:1<d->pH ns (IntKind.i64.wrap (d - 1)) f):Om 39 [kA r.row,kI d,.v (.c (.p (dI 1 dg ns)))] []=some (kA (jX ns.list (py r d) r f).row,[]):=by
 refine(gD rfl).trans ?_;show ca tab.get S 39 0 0 [kA r.row,kI d,.v (.c (.p (dI 1 dg ns)))] h0=_;rw[I7,Ef];have hb:=qEO r.kind;have w:IntKind.i64.wrap (1+cK r.kind 9)=1+cK r.kind 9:=jZ _ bn bn;have U:¬ ((ns.len:Nat):Int)=0:=bn
 unfold py;by_cases M:1+cK r.kind 9=9
 ·rw[bA bn];have q8:¬ ((9:Int)<=8):=bu
  by_cases hd:1<d
  ·have aa:¬ d<1+1:=bn
   simp (maxSteps:=9^7) +contextual only[bW,rA,rC,rE,ov,CC r.kind 9 bu bu,M,U,hd];exact Hd ns A d 9 f r sm bn (λ_=>hn) (λ_ h=>absurd h bu) _ rfl rfl rfl
  ·simp (maxSteps:=9^7) +contextual only[bW,rA,rC,rE,ov,CC r.kind 9 bu bu,M,U,hd];exact Hd ns A d 9 f r sm bn (λ_=>hn) (λ_ h=>absurd h bu) _ rfl rfl rfl
 ·by_cases hd:1<d
  ·rw[bA bn];simp (maxSteps:=9^7) +contextual only[bW,rA,rC,rE,ov,CC r.kind 9 bu bu,w,M,U,hd];exact Hd ns A d _ f r sm hb (λe=>absurd e M) (λ_ _=>ok hd) _ rfl rfl rfl
  ·by_cases h4:1+cK r.kind 9<4
   ·rw[bA bn];simp (maxSteps:=9^7) +contextual only[bW,rA,rC,rE,ov,CC r.kind 9 bu bu,w,M,U,hd,h4];exact Hd ns A d _ f r sm hb (λe=>absurd e M) (λh=>absurd h bn) _ rfl rfl rfl
   ·have h8:¬ (8:Int)<1+cK r.kind 9:=bn
    rw[bF bn];simp (maxSteps:=9^7) +contextual only[bW,rA,rC,rE,ov,CC r.kind 9 bu bu,w,M,U,hd,h4,h8];exact Hd ns A d 2 f r sm bn (λe=>absurd e bu) (λh=>absurd h bu) _ rfl rfl rfl
open Go Go.AI
mutual
def tk:TT->Prop
 |.mk k n ns l=>ns.len<=1000/\l.len<=1000/\UA l
def UA:Sl TT->Prop
 |.nil=>True
 |.mk _ l=>B6 l
def B6:List TT->Prop
 |[]=>True
 |r::rs=>tk r/\B6 rs
end
def qNH:∀ l:List TT,B6 l↔∀ x∈l,tk x
 |[]=>by simp[B6]
 |r::l=>by simp[B6,qNH l]
def Og(t:TT):tk t↔t.names.len<=1000/\t.kids.len<=1000/\∀ x∈t.kids.list,tk x:=by
 cases t with
 |mk k n ns l =>
  rw[tk,<- qNH];cases l <;> simp[UA,B6,Sl.list,TT.kids,TT.names]
mutual
def kb:TT->TT->Bool
 |.mk k n ns l,b=>((decide (k=b.kind)&&decide (n=b.name))&&decide (ns.list=b.names.list))&&AO l b.kids.list
def AO:Sl TT->List TT->Bool
 |.nil,m=>m.isEmpty
 |.mk _ l,m=>iJ l m
def iJ:List TT->List TT->Bool
 |[],[]=>true
 |a::l,b::m=>kb a b&&iJ l m
 |_,_=>false
end
def qSG(l:Sl TT)(m:List TT):AO l m=iJ l.list m:=by
 cases l with
 |nil=>cases m <;> simp[AO,iJ,Sl.list]
 |mk t l=>simp[AO,Sl.list]
def qLg(a b:TT):kb a b=(((decide (a.kind=b.kind)&&decide (a.name=b.name))&&decide (a.names.list=b.names.list))&&iJ a.kids.list b.kids.list):=by
 cases a with
 |mk k n ns l=>rw[kb,qSG]; rfl
def qFv:∀ (l m:List TT),l.length≠m.length->iJ l m=false
 |[],[],h=>absurd rfl h
 |[],_::_,_=>by simp[iJ]
 |_::_,[],_=>by simp[iJ]
 |a::l,b::m,h=>by
  rw[iJ,qFv l m (λe=>h (by simp[e])),lM]
abbrev tsP(s:Sl TT):bt:=.v (.c (.p (dI 4 TT.row s)))
open Go Go.AI
def eO:LB:=[44,32]
def tI:LB:=[58,32]
def cr(k:Int):LB:=if k=1 then [66,111,111,108] else if k=2 then [73,110,116] else if k=3 then [84,101,120,116] else if k=4 then [76,105,115,116] else if k=5 then [77,97,112] else if k=6 then [79,112,116] else if k=8 then [85,110,105,111,110] else []
mutual
def cn:TT->LB
 |.mk k n ns l=>if k=9 then n else if k=7 then [123]++Lib.join (DZ ns.list l) eO++[125] else if k=8 then [85,110,105,111,110,32]++([123]++Lib.join (DZ ns.list l) eO++[125]) else cr k++RF l
def DZ:List (LB)->Sl TT->List (LB)
 |_,.nil=>[]
 |ns,.mk _ l=>lY ns l
def lY:List (LB)->List TT->List (LB)
 |n::ns,t::l=>(n++tI++cn t)::lY ns l
 |_,_=>[]
def RF:Sl TT->LB
 |.nil=>[]
 |.mk _ l=>lI l
def lI:List TT->LB
 |[]=>[]
 |t::l=>[60]++cn t++[62]++lI l
end
def qT3(ns:List (LB))(l:Sl TT):DZ ns l=lY ns l.list:=by
 cases l with
 |nil=>cases ns <;> simp[DZ,lY,Sl.list]
 |mk t l=>simp[DZ,Sl.list]
def qUA(l:Sl TT):RF l=lI l.list:=by cases l <;> simp[RF,lI,Sl.list]
def s8(t:TT):LB:=[123]++Lib.join (lY t.names.list t.kids.list) eO++[125]
def Cd(t:TT):cn t=if t.kind=9 then t.name else if t.kind=7 then s8 t else if t.kind=8 then [85,110,105,111,110,32]++s8 t else cr t.kind++lI t.kids.list:=by
 cases t with
 |mk k n ns l=>rw[cn,qT3,qUA]; rfl
def XU(l:List TT):lY [] l=[]:=by cases l <;> simp[lY]
def qJO(ns:List (LB)):lY ns []=[]:=by cases ns <;> simp[lY]
def qJB:∀ (r:List (LB)) (x:LB),x∈r->x.length<=(Lib.joinTail eO r).length
 |y::r,x,h=>by
  have e:Lib.joinTail eO (y::r)=(eO++y)++Lib.joinTail eO r:=by simp[Lib.joinTail]
  rw[e,bV,bV]
  rcases dK.1 h with rfl|h
  ·omega
  ·have:=qJB r x h; omega
def qS3(l:List (LB))(x:LB)(h:x∈l):x.length<=(Lib.join l eO).length:=by
 cases l with
 |nil=>cases h
 |cons y r =>
  rw[Lib.join_cons,bV]
  rcases dK.1 h with rfl|h
  ·omega
  ·have:=qJB r x h; omega
def qKV:∀ (ns:List (LB)) (l:List TT) (i:Nat) (n:LB) (t:TT),ns[i]?=some n->l[i]?=some t->(n++tI++cn t)∈lY ns l
 |a::ns,b::l,0,n,t,h1,A=>by
  obtain rfl:a=n:=by simpa using h1
  obtain rfl:b=t:=by simpa using A
  rw[lY]; exact iR
 |a::ns,b::l,i+1,n,t,h1,A=>by
  rw[lY];exact ia _ (qKV ns l i n t (by simpa using h1) (by simpa using A))
 |[],_,i,n,t,h1,_=>by simp at h1
 |_::_,[],i,n,t,_,A=>by simp at A
def qKl:∀ (ns:List (LB)) (l:List TT),(lY ns l).length<=l.length
 |[],l=>by rw[XU]; exact eV _
 |_::_,[]=>by rw[qJO]; exact cB _
 |a::ns,b::l=>by rw[lY,di,di]; have:=qKl ns l; omega
def qPW(k:Int)(hk:k≠7/\k≠9\/True):Om 99 [kI k] []=some (kS (cr k),[]):=by
 refine(gD rfl).trans ?_;show ca tab.get S 99 0 0 [kI k] h0=_;rw[SU,Bl];unfold cr;by_cases h1:k=1
 ·rw[bF h1]; simp only[bW,h1]
 rw[bA h1];by_cases A:k=2
 ·rw[bF A]; simp only[bW,rH,A]
 rw[bA A];by_cases M:k=3
 ·rw[bF M]; simp only[bW,rH,M]
 rw[bA M];by_cases U:k=4
 ·rw[bF U]; simp only[bW,rH,U]
 rw[bA U];by_cases h5:k=5
 ·rw[bF h5]; simp only[bW,rH,h5]
 rw[bA h5];by_cases h6:k=6
 ·rw[bF h6]; simp only[bW,rH,h6]
 rw[bA h6];by_cases h8:k=8
 ·rw[bF h8]; simp only[bW,rH,h8]
 rw[bA h8];simp only[bW,h1,A,M,U,h5,h6,h8]
def u32{β:Type}{k:KO β}{h:bm}{d:Nat}(a:Int):bE Om (F_ 99) [kI a] h d k=k (kS (cr a)) h:=j6 99 _ _ rfl (qPW a (.inr trivial)) rfl
def YS{β:Type}{kt:KT β}{h:bm}{d:Nat}(a:Int):br Om (.call (.k (F_ 99)) [.k (kI a)]) h d kt=kt (kS (cr a)) h cj:=Hg 99 [kI a] _ rfl (qPW a (.inr trivial)) rfl
def qGa:∀ xs:List (LB),mQ (xs.map dg)=some xs
 |[]=>rfl
 |x::xs=>by
  show(dO (ud (dg x)) λs=>dO (mQ (xs.map dg)) λt=>some (s::t))=_;rw[qGa xs]; rfl
def qQJ(xs:List (LB))(sep:LB)(h1:(Lib.join xs sep).length<=140737488355328)(A:xs.length<=140737488355328):Om 40 [.v (.c (.p (iq 1 (xs.map dg)))),kS sep] []=some (kS (Lib.join xs sep),[]):=by
 have e:S 40 [.v (.c (.p (iq 1 (xs.map dg)))),kS sep] []=some (kS (Lib.join xs sep),[]):=by
  show(match (none:Option (bt×List bG)) with|some r=>some r|none=>DU (iq 1 (xs.map dg)) sep)=_;cases xs with
  |nil=>rfl
  |cons x xs =>
   show dO (mQ ((x::xs).map dg)) (λM=>Kc M sep)=_;rw[qGa];show(bif Nat.ble (fw (Lib.join (x::xs) sep)) 140737488355328&&Nat.ble (fw (x::xs)) 140737488355328 then _ else none)=_;rw[pU,pU,show Nat.ble (Lib.join (x::xs) sep).length 140737488355328=true from oK h1,show Nat.ble (x::xs).length 140737488355328=true from oK A]; rfl
 show Option.rec (motive:=λ_=>dA) _ some (S 40 _ [])=_;rw[e]
def pJ(t:TT):Prop:=Om 37 [kA t.row] []=some (kS (cn t),[])
abbrev q1:bt:=.v (.c (.ptr (.own 1 1) 0))
def qSs(w:LB)(l:Sl TT)(hl:l.len<=1000)(ok:∀ x∈l.list,pJ x):∀ (i:Nat) (acc:LB) (h:bm),(acc++lI (l.list.drop i)).length<=1000000000->ca tab.get S 37 0 1 [kS acc,tsP l,kI (l.len:Int),kI (i:Int)] h=some (kS (acc++lI (l.list.drop i)),[]):=by
 refine CI l.len (λi hi acc h hs=>?_) (λi hi A acc h hs=>?_) <;> rw[TQ,BA]
 ·have h1:¬ (i:Int)<(l.len:Int):=bn
  have U:l.list.drop i=[]:=tP hi;rw[U];simp only[bW,rA,rC,rD,h1,lI,fa]
 ·have h1:(i:Int)<(l.len:Int):=bn
  obtain⟨x,hx,dx,mx⟩:=o9 (l:=l.list) (i:=i) hi;rw[dx,lI] at hs ⊢;have cc:IM 37 [kA x.row] (kS (cn x)):=j6 37 _ _ (by simp only[jr]) (ok x mx) rfl;have M:=hs;simp only[bV,di,fm] at M;have s1:([60]:LB).length+(cn x).length<=4611686018427387904:=cM
  have s2:([60]++cn x).length+([62]:LB).length<=4611686018427387904:=cM
  have s3:acc.length+([60]++cn x++[62]).length<=4611686018427387904:=cM
  have A1:∀ {β:Type}{h:bm}{k:KO β},bw .add 0 (kS [60]) (kS (cn x)) h k=k (kS ([60]++cn x)) h:=λ{β h k}=>vA 0 _ _ s1
  have A2:∀ {β:Type}{h:bm}{k:KO β},bw .add 0 (kS ([60]++cn x)) (kS [62]) h k=k (kS ([60]++cn x++[62])) h:=λ{β h k}=>vA 0 _ _ s2
  have A3:∀ {β:Type}{h:bm}{k:KO β},bw .add 0 (kS acc) (kS ([60]++cn x++[62])) h k=k (kS (acc++([60]++cn x++[62]))) h:=λ{β h k}=>vA 0 _ _ s3
  have:=A (acc++([60]++cn x++[62])) ((h.own 5 (h.gen 5+1) (.cells z4 0)).own 5 (h.gen 5+1) (.cells (bp x.row) 0)) (by simp only[eH] at hs ⊢; exact hs);simp only[eH] at this;simp only[h1,hx,cc,A1,A2,A3,sT i bn,Xs _ (TT.ct _),bW,rA,rC,rD];simp only[eH];exact this
structure RS where
 p:Nat
 e:Int
 tw:Bool
def qY(L:List Tok):bL:=iq 4 (L.map Tok.row)
abbrev rO(L:List Tok)(s:RS):bG:=.cells [.p (qY L),.p (.int .i64 (s.p:Int)),.p (.int .i64 s.e),.p (.bool s.tw)] 0
abbrev P0:bt:=.v (.c (.ptr (.im 0) 0))
def dS(L:List Tok)(s:RS):kO (rO L s):=nH [qY L,.int .i64 (s.p:Int),.int .i64 s.e,.bool s.tw] 0
def wH{β:Type}{O:bD}{h:bm}{d:Nat}{k:KO β}(L:List Tok):cP O 2 (.v (.c (.p (qY L)))) h d k=k (kI (L.length:Int)) h:=by
 cases L with
 |nil=>rfl
 |cons t L =>
  show cP O 2 (.v (.c (.p (.slice 4 false ((t::L).map Tok.row))))) h d k=_;simp only[bW,dj]
def UW{β:Type}{h:bm}{k:KO β}(L:List Tok)(i:Nat)(t:Tok)(ht:L[i]?=some t):bU 4 (.v (.c (.p (qY L)))) (kI (i:Int)) h k=k (.v (.c (.p (.dc t.row 0)))) h:=by
 cases L with
 |nil=>cases ht
 |cons a L =>
  have:((a::L).map Tok.row)[i]?=some t.row:=by rw[dP,ht]; rfl
  show bU 4 (.v (.c (.p (.slice 4 false ((a::L).map Tok.row))))) (kI (i:Int)) h k=_;simp only[bW,this]
def cq(L:List Tok)(s:RS):Tok:=if s.e=0 then (L[s.p]?).getD Tok.zero else Tok.zero
abbrev zT:List Cell:=[.p (.int .i64 0),.p (.str []),.p (.int .i64 0),.p (.int .i64 0)]
def qWx(L:List Tok)(s:RS):Om 108 [P0] [rO L s]=some (.v (.agg (cq L s).cells),[rO L s]):=by
 refine(gD rfl).trans ?_;show ca tab.get S 108 1 0 [P0] { bY:=[rO L s],cW:=.nil }=_;have g0:∀ x:bG,((bm.mk [rO L s] .nil).own 2 1 x).get (.im 0)=some (rO L s):=λ_=>rfl
 have A:(bm.mk [rO L s] .nil).gen 2=0:=rfl;have fin:∀ (t:Tok) (x y:bG),bS true 1 [.agg t.cells] (((bm.mk [rO L s] .nil).own 2 1 x).own 2 1 y)=some (.v (.agg t.cells),[rO L s]):=λt x y=>sP true [.agg t.cells] _ rfl rfl (dS L s)
 have M:∀ t:Tok,dm zT 0 t.cells=t.cells:=λ_=>rfl
 have U:∀ t:Tok,t.cells.length=4:=λ_=>rfl
 have tt:∀ t:Tok,t.cells.take 4=t.cells:=λ_=>rfl
 have BZ:∀ (β:Type) (k:KO β) (h:bm),bQ Om (.build zT []) h 20 k=k (.v (.agg Tok.zero.cells)) h:=λ_ _ _=>rfl
 rw[NM,xy];unfold cq;by_cases he:s.e=0
 ·rw[bF he];by_cases hp:s.p<L.length
  ·have ht:L[s.p]?=some L[s.p]:=fQ hp;have AT:=λ(β:Type) (k:KO β) (h:bm)=>UW (h:=h) (k:=k) L s.p L[s.p] ht
   have q1:(s.p:Int)<(L.length:Int):=bn
   have LD:∀ (β:Type) (k:KO β) (h:bm),bz true 4 (.v (.c (.p (.dc L[s.p].row 0)))) h k=k (.v (.agg L[s.p].cells)) h:=λ_ _ _=>rfl
   rw[ht,oS];generalize L[s.p]=t at *;simp only[bW,rA,rC,rD,A,g0,he,q1,wH,AT,LD,M,U,tt];exact fin t _ _
  ·have ht:L[s.p]?=none:=ky bn;have q1:¬ (s.p:Int)<(L.length:Int):=bn
   rw[ht,yX];simp only[bW,rA,rC,rD,A,g0,he,q1,wH,M,U,tt,BZ];exact fin _ _ _
 ·rw[bA he];simp only[bW,rA,rC,rD,A,g0,he,wH,M,U,tt,BZ];exact fin _ _ _
def W3{β:Type}{k:KO β}{h:bm}{d:Nat}{L:List Tok}{s:RS}(A:h.get (.im 0)=some (rO L s)):bE Om (F_ 108) [P0] h d k=k (.v (.agg (cq L s).cells)) h :=
 (ny 108 (.im 0) 0 [] [] _ _ _ rfl rfl A (dS L s) (dS L s) rfl (qWx L s)).trans (by show k _ (h.put (.im 0) (rO L s))=k _ h; rw[qJS 0 _ A])
def b9(s:RS)(e:Int):RS:=if s.e=0 then { s with e:=e } else s
def qWF(L:List Tok)(s:RS)(e:Int):Om 107 [P0,kI e] [rO L s]=some (.dq [],[rO L (b9 s e)]):=by
 refine(gD rfl).trans ?_;show ca tab.get S 107 1 0 [P0,kI e] { bY:=[rO L s],cW:=.nil }=_;have g0:(bm.mk [rO L s] .nil).get (.im 0)=some (rO L s):=rfl;have P:∀ (a b c d x:Cell),dm [a,b,c,d] 2 [x]=[a,b,x,d]:=λ_ _ _ _ _=>rfl
 rw[NN,xz];unfold b9;by_cases he:s.e=0
 ·rw[bF he];have fin:bS true 1 [] ((bm.mk [rO L s] .nil).put (.im 0) (rO L { s with e:=e }))=some (.dq [],[rO L { s with e:=e }]):=sP true [] _ rfl rfl (dS L _);simp only[bW,rA,rD,g0,he,P]
 ·rw[bA he];simp only[bW,rA,g0,he]
def u56{β:Type}{k:KO β}{h:bm}{d:Nat}{L:List Tok}{s:RS}(e:Int)(A:h.get (.im 0)=some (rO L s)):bE Om (F_ 107) [P0,kI e] h d k=k (.dq []) (h.put (.im 0) (rO L (b9 s e))) :=
 ny 107 (.im 0) 0 [] [kI e] _ _ _ rfl rfl A (dS L s) (dS L _) rfl (qWF L s e)
def cU(s:RS)(b:Bool):RS:=if b=true then s else b9 s 12
def FJ(L:List Tok)(s:RS)(b:Bool):Om 43 [P0,kB b] [rO L s]=some (.dq [],[rO L (cU s b)]):=by
 refine(gD rfl).trans ?_;show ca tab.get S 43 1 0 [P0,kB b] { bY:=[rO L s],cW:=.nil }=_;have g0:(bm.mk [rO L s] .nil).get (.im 0)=some (rO L s):=rfl;have U:=λ(β:Type) (k:KO β) (d:Nat)=>u56 (k:=k) (d:=d) 12 g0
 rw[TC,Bv];unfold cU;cases b with
 |true =>
  have fin:bS true 1 [] (bm.mk [rO L s] .nil)=some (.dq [],[rO L s]):=sP true [] _ rfl rfl (dS L _);simp only[bW];exact fin
 |false =>
  have fin:bS true 1 [] ((bm.mk [rO L s] .nil).put (.im 0) (rO L (b9 s 12)))=some (.dq [],[rO L (b9 s 12)]):=sP true [] _ rfl rfl (dS L _);simp only[bW,U];exact fin
def Jv{β:Type}{k:KO β}{h:bm}{d:Nat}{L:List Tok}{s:RS}(b:Bool)(A:h.get (.im 0)=some (rO L s)):bE Om (F_ 43) [P0,kB b] h d k=k (.dq []) (h.put (.im 0) (rO L (cU s b))) :=
 ny 43 (.im 0) 0 [] [kB b] _ _ _ rfl rfl A (dS L s) (dS L _) rfl (FJ L s b)
def bJ(s:RS):RS:={ s with p:=s.p+1 }
def dU(k:Int)(L:List Tok)(s:RS)(x:LB):Bool:=decide ((cq L s).kind=k)&&decide ((cq L s).text=x)
def bZ(k:Int)(L:List Tok)(s:RS)(x:LB):RS:=if dU k L s x=true then bJ s else s
def Xb(t:Tok):t.cells=[.p (.int .i64 t.kind),.p (.str t.text),.p (.int .i64 t.n),.p (.int .i64 t.pos)]:=rfl
def Oh(L:List Tok)(s:RS)(hp:s.p<=1000000)(x:LB):Om 46 [P0,kS x] [rO L s]=some (kB (dU 4 L s x),[rO L (bZ 4 L s x)]):=by
 refine(gD rfl).trans ?_;show ca tab.get S 46 1 0 [P0,kS x] { bY:=[rO L s],cW:=.nil }=_;have g0:(bm.mk [rO L s] .nil).get (.im 0)=some (rO L s):=rfl;have U:=λ(β:Type) (k:KO β) (d:Nat)=>W3 (k:=k) (d:=d) g0
 have A:(bm.mk [rO L s] .nil).gen 5=0:=rfl;have g1:∀ a b:bG,(((bm.mk [rO L s] .nil).own 5 1 a).own 5 1 b).get (.im 0)=some (rO L s):=λ_ _=>rfl
 have M:∀ a b c d:Cell,dm zT 0 [a,b,c,d]=[a,b,c,d]:=λ_ _ _ _=>rfl
 have P1:∀ (a b c d y:Cell),dm [a,b,c,d] 1 [y]=[a,y,c,d]:=λ_ _ _ _ _=>rfl
 have w1:IntKind.i64.wrap ((s.p:Int)+1)=((s.p+1:Nat):Int):=by rw[jZ _ bn bn]; omega
 unfold bZ dU;rw[Tw,Br];rw[Xb] at U;generalize cq L s=t at *;by_cases h1:t.kind=4
 ·by_cases h2:t.text=x
  ·simp only[bW,rA,rC,rD,U,A,g1,M,P1,h1,h2,w1];rfl
  ·simp only[bW,rA,rC,rD,U,A,g1,M,P1,h1,h2,w1];rfl
 ·simp only[bW,rA,rC,rD,U,A,g1,M,P1,h1,w1];rfl
def Od(L:List Tok)(s:RS)(hp:s.p<=1000000)(x:LB):Om 44 [P0,kS x] [rO L s]=some (kB (dU 1 L s x),[rO L (bZ 1 L s x)]):=by
 refine(gD rfl).trans ?_;show ca tab.get S 44 1 0 [P0,kS x] { bY:=[rO L s],cW:=.nil }=_;have g0:(bm.mk [rO L s] .nil).get (.im 0)=some (rO L s):=rfl;have U:=λ(β:Type) (k:KO β) (d:Nat)=>W3 (k:=k) (d:=d) g0
 have A:(bm.mk [rO L s] .nil).gen 5=0:=rfl;have g1:∀ a b:bG,(((bm.mk [rO L s] .nil).own 5 1 a).own 5 1 b).get (.im 0)=some (rO L s):=λ_ _=>rfl
 have M:∀ a b c d:Cell,dm zT 0 [a,b,c,d]=[a,b,c,d]:=λ_ _ _ _=>rfl
 have P1:∀ (a b c d y:Cell),dm [a,b,c,d] 1 [y]=[a,y,c,d]:=λ_ _ _ _ _=>rfl
 have w1:IntKind.i64.wrap ((s.p:Int)+1)=((s.p+1:Nat):Int):=by rw[jZ _ bn bn]; omega
 unfold bZ dU;rw[TA,Kz];rw[Xb] at U;generalize cq L s=t at *;by_cases h1:t.kind=1
 ·by_cases h2:t.text=x
  ·simp only[bW,rA,rC,rD,U,A,g1,M,P1,h1,h2,w1];rfl
  ·simp only[bW,rA,rC,rD,U,A,g1,M,P1,h1,h2,w1];rfl
 ·simp only[bW,rA,rC,rD,U,A,g1,M,P1,h1,w1];rfl
def Dt{β:Type}{k:KO β}{h:bm}{d:Nat}{L:List Tok}{s:RS}(hp:s.p<=1000000)(x:LB)(A:h.get (.im 0)=some (rO L s)):bE Om (F_ 46) [P0,kS x] h d k=k (kB (dU 4 L s x)) (h.put (.im 0) (rO L (bZ 4 L s x))) :=
 ny 46 (.im 0) 0 [] [kS x] _ _ _ rfl rfl A (dS L s) (dS L _) rfl (Oh L s hp x)
def Cc(s:RS)(b:Bool):(cU s b).p=s.p:=by
 unfold cU b9;split
 ·rfl
 ·split <;> rfl
def ZN(L:List Tok)(s:RS)(hp:s.p<=1000000):Om 110 [P0] [rO L s]=some (kS (cq L s).text,[rO L (bJ (cU s (decide ((cq L s).kind=1))))]):=by
 refine(gD rfl).trans ?_;show ca tab.get S 110 1 0 [P0] { bY:=[rO L s],cW:=.nil }=_;have g0:(bm.mk [rO L s] .nil).get (.im 0)=some (rO L s):=rfl;have U:=λ(β:Type) (k:KO β) (d:Nat)=>W3 (k:=k) (d:=d) g0
 have M:(bm.mk [rO L s] .nil).gen 3=0:=rfl;have g1:∀ a b:bG,(((bm.mk [rO L s] .nil).own 3 1 a).own 3 1 b).get (.im 0)=some (rO L s):=λ_ _=>rfl
 have P4:∀ a b c d:Cell,dm zT 0 [a,b,c,d]=[a,b,c,d]:=λ_ _ _ _=>rfl
 have P1:∀ (a b c d y:Cell),dm [a,b,c,d] 1 [y]=[a,y,c,d]:=λ_ _ _ _ _=>rfl
 have A:=λ(a b:bG) (c:Bool) (β:Type) (k:KO β) (d:Nat)=>Jv (k:=k) (d:=d) c (g1 a b)
 rw[Xb] at U;rw[NI,xu];generalize cq L s=t at *;generalize hs:cU s (decide (t.kind=1))=s';have aa:s'.p<=1000000:=by rw[<- hs,Cc]; exact hp
 have w1:IntKind.i64.wrap ((s'.p:Int)+1)=((s'.p+1:Nat):Int):=by rw[jZ _ bn bn]; omega
 have G2:∀ a b:bG,((((bm.mk [rO L s] .nil).own 3 1 a).own 3 1 b).put (.im 0) (rO L s')).get (.im 0)=some (rO L s'):=λ_ _=>rfl
 simp only[bW,rA,rC,rD,U,A,M,P4,P1,hs,G2,w1];rfl
def u65{β:Type}{k:KO β}{h:bm}{d:Nat}{L:List Tok}{s:RS}(hp:s.p<=1000000)(A:h.get (.im 0)=some (rO L s)):bE Om (F_ 110) [P0] h d k=k (kS (cq L s).text) (h.put (.im 0) (rO L (bJ (cU s (decide ((cq L s).kind=1)))))) :=
 ny 110 (.im 0) 0 [] [] _ _ _ rfl rfl A (dS L s) (dS L _) rfl (ZN L s hp)
def mO(L:List Tok)(s:RS):RS:=cU s (decide (L.length<=s.p))
def nV(s:RS):Int:=if s.e≠0 then s.e else if s.tw=true then 6 else 0
def qXP(L:List Tok)(s:RS):Om 54 [P0] [rO L s]=some (kI (nV (mO L s)),[rO L (mO L s)]):=by
 refine(gD rfl).trans ?_;show ca tab.get S 54 1 0 [P0] { bY:=[rO L s],cW:=.nil }=_;have g0:(bm.mk [rO L s] .nil).get (.im 0)=some (rO L s):=rfl;have A:=λ(c:Bool) (β:Type) (k:KO β) (d:Nat)=>Jv (k:=k) (d:=d) c g0
 have M:(!decide ((s.p:Int)<(L.length:Int)))=decide (L.length<=s.p):=by
  by_cases h:L.length<=s.p
  ·rw[cI h,de bn]; rfl
  ·rw[de h,cI bn]; rfl
 rw[Tn,Bp];unfold mO;generalize hs:cU s (decide (L.length<=s.p))=s';have U:((bm.mk [rO L s] .nil).put (.im 0) (rO L s')).get (.im 0)=some (rO L s'):=rfl;unfold nV;by_cases h1:s'.e=0
 ·cases h2:s'.tw with
  |true =>
   simp only[bW,g0,wH,M,A,hs,U,h1,h2];rfl
  |false =>
   simp only[bW,g0,wH,M,A,hs,U,h1,h2];rfl
 ·simp only[bW,g0,wH,M,A,hs,U,h1];rfl
end Go.Proofs.YtnlmlcfipbnpgaaGreatDoor.Ab
namespace Go.AI
section
variable {β:Type} {O:bD} {h:bm} {d:Nat} {k:KO β} {kt:KT β}
def qOr{sz by':Nat}{j lb:Nat}{capb:Option Nat}{A:List Cell}{M:Nat}(hb:lb≠0)(hm:lb*by'<=1099511627776)(U:h.get (.im j)=some (.cells A M))(ly:A.length=lb*sz) :
  bQ O (.append sz by' true (.k (.v (.c (.p .bq)))) (.k (.v (.c (.cf (.im j) 0 lb capb sz))))) h d k=k (.v (.c (.cf (.im h.bY.length) 0 lb none sz))) (h.push (.cells A 0)):=by
 have ea:ee sz by' true (.v (.c (.p .bq))) none A lb=some ⟨λr=>.v (.c (.cf r 0 lb none sz)),[],some (.cells A 0),true⟩:=by
  unfold ee;rw[bA hb];dsimp only;unfold lq;rw[bF rfl,bF bn]
 show Ck O _ .nil h d k=_;rw[CK];have:ib O (.append sz by' true (.k (.v (.c (.p .bq)))) (.k (.v (.c (.cf (.im j) 0 lb capb sz))))) .nil h d=some (.v (.c (.cf (.im h.bY.length) 0 lb none sz)),h.push (.cells A 0)):=by
  unfold ib;show((cA.go [.im j] _).exec O d h).map _=_;simp only[cA.exec,fN,ek,gg,U,gC,rL,eG,hU,jb,dw,XV sz j lb capb A M ly,ea];rfl
 rw[this]; rfl
def JB(q:Nat)(h:bm)(fr:List Ref)(e:reach h cw ((bY (q+1)).flatMap λr=>match h.get r with|some o=>o.refs|none=>[]) (bY (q+1))=fr):bS true (q+1) [] h=some (.dq [],fr.map λr=>match h.get r with|some o=>o.eB (iU fr)|none=>.dead):=by
 letI:Sym:=⟨λ_=>0⟩
 rw[JI];unfold qH;simp only[oneOf,iF,gg,gC,iO,jJ,settle,bt.refs,fa,kL,bt.eB,vh];subst e;rfl
def AR(g:FuncId)(r:Ref)(x v:bt)(o o':bG)(hx:pT x=true)(hv:pT v=true)(M:h.get r=some o)(ho:kO o)(A:kO o')(hc:O g [.v (.c (.ptr (.im 0) 0)),x] [o]=some (v,[o'])) :
  br O (.call (.k (.v (.c (.func g [])))) [.k (.v (.c (.ptr r 0))),.k x]) h d kt=kt v (h.put r o') ⟨[r.site,r.site],[r.site],false⟩:=by
 obtain⟨q1,U,q3,q4⟩:=zq hx;obtain⟨p1,p2,p3,p4⟩:=zq hv;have e2:reach h cw ([bt.v (.c (.ptr r 0)),x].flatMap bt.refs) []=[r]:=by
  rw[eJ,eJ,jJ,q1];show reach h (398+1+1) [r] []=_;rw[qi _ r [] [] o bR M,ho.1];exact yu _ _
 have e3:([r]:List Ref).mapM h.get=some [o]:=by simp only[ek,gg,M,gC,rL,eG]
 have ir:iU [r] r=some (.im 0):=by simp[iU,idx]
 have e4:([bt.v (.c (.ptr r 0)),x]).map (bt.eB (iU [r]))=[.v (.c (.ptr (.im 0) 0)),x]:=by
  show [bt.v (.c (match iU [r] r with|some s=>.ptr s 0|none=>.jd)),x.eB (iU [r])]=_;rw[ir,q3]
 have co:=qG6 (d:=d) (h:=h) (O:=O) g [.v (.c (.ptr r 0)),x] [.v (.c (.ptr r 0)),x] _ [r] [o] [o] [o'] v (by show [_,x.strip]=_; rw[U]; rfl) e2 e3 e4 (by rw[dr,ho.2]; rfl) hc (cB _);have hp:cH .nil (.call (.k (.v (.c (.func g [])))) [.k (.v (.c (.ptr r 0))),.k x])=some (.call g [.v (.c (.ptr r 0)),x]):=rfl;show dO (mB (.call (.k (.v (.c (.func g [])))) [.k (.v (.c (.ptr r 0))),.k x]) .nil) (λp=>dO (p.exec O d h) λx=>kt x.1 x.2.1 x.2.2)=_;rw[zt,hp];show dO (dE O g [.v (.c (.ptr r 0)),x] d h) _=_;rw[co,nX];have h1:om h [r] [o']=h.put r o':=by show h.put r (o'.eB _)=_; rw[A.2]
 have h2:sj h [.v (.c (.ptr r 0)),x] [o] [r] [o']=⟨[r.site,r.site],[r.site],false⟩:=by
  unfold sj;rw[eJ,eJ,jJ,q1,eJ,jJ,ho.1];rfl
 dsimp only;rw[h1,h2,p3]
def XF(cs:List Cell):bQ O (.alloc cs true) h d k=k (.v (.c (.ptr (.im h.bY.length) 0))) (h.push (.cells cs 0)):=by rw[Ch]; rfl
end
def qIX(h:bm)(d g:Nat)(o x:bG)(i:Nat):(h.own d g o).put (.im i) x=(h.put (.im i) x).own d g o:=id rfl
def mA(h:bm)(o:bG):(h.push o).bY.length=h.bY.length+1:=by show(h.bY++[o]).length=_; simp
def Sp(h:bm)(cs:List Cell)(i n:Nat)(hn:h.bY.length=n):(h.push (.cells cs i)).get (.im n)=some (.cells cs i):=by rw[<- hn]; exact Hn h _ cb
def uj(h:bm)(o:bG)(i:Nat)(hi:i<h.bY.length):(h.push o).get (.im i)=h.get (.im i):=by
 unfold bm.push bm.get;simp only[j5 hi]
def wJ(h:bm)(x:bG)(i:Nat):(h.put (.im i) x).bY.length=h.bY.length:=by show(h.bY.set i x).length=_; simp
def qKj(h:bm)(o x:bG)(i:Nat)(hi:i<h.bY.length):(h.push o).put (.im i) x=(h.put (.im i) x).push o:=by
 show bm.mk ((h.bY++[o]).set i x) h.cW=bm.mk (h.bY.set i x++[o]) h.cW;rw[List.set_append_left _ _ hi]
def qIl(h:bm)(o x:bG)(n:Nat)(hn:h.bY.length=n):(h.push o).put (.im n) x=h.push x:=by
 show bm.mk ((h.bY++[o]).set n x) h.cW=bm.mk (h.bY++[x]) h.cW;rw[<- hn,xM _ _ (cB _),rS]; rfl
end Go.AI
namespace Go.Proofs.YtnlmlcfipbnpgaaGreatDoor.Ab
open Go Go.AI
def dQ(L:List Tok)(s:RS):RS:=bJ (cU s (decide ((cq L s).kind=1)))
def jh(L:List Tok)(s:RS):RS:=cU (bZ 4 L (dQ L s) [58]) (dU 4 L (dQ L s) [58])
structure WV (d:Int) (L:List Tok) (s:RS) (v:TT) (s':RS):Prop where
 one:Om 45 [P0,kI (d+1)] [rO L (jh L s)]=some (kA v.row,[rO L s'])
 hd:0<=d/\d<=100
 hp:s.p<=900000
abbrev dH(i:Nat):bG:=.cells [.ptr (.im i) 0] 0
abbrev jI(d:Int):bG:=.cells [.p (.int .i64 d)] 0
def eh(key:LB)(v:TT):List bL:=.str key::v.row
def H4(L:List Tok)(a:RS)(d:Int)(E:bG):bm:=.mk [dH 1,rO L a,jI d,E] .nil
section
variable (L:List Tok) (a b:RS) (d:Int) (E E':bG) (i:Nat) (cs:List Cell)
def qbu:(H4 L a d E).get (.im 0)=some (dH 1):=id rfl
def qbt:(H4 L a d E).get (.im 1)=some (rO L a):=id rfl
def qbs:(H4 L a d E).get (.im 2)=some (jI d):=id rfl
def qbr:(H4 L a d (.cells cs i)).get (.im 3)=some (.cells cs i):=id rfl
def qXw:(H4 L a d E).put (.im 1) (rO L b)=H4 L b d E:=id rfl
def qXC:(H4 L a d E).put (.im 3) E'=H4 L a d E':=id rfl
def qbq:(H4 L a d E).bY.length=4:=id rfl
end
abbrev z5:List Cell:=[.p (.str []),.p (.int .i64 0),.p (.str []),.p .bq,.p .bq]
def qTj{β:Type}{k:KO β}{h:bm}{d:Nat}(A c1 c2 c3 c4:Cell):bQ Om (.cm 5 1 z5 [(0,.k (.v (.agg [A,c1,c2,c3,c4])))] true) h d k=k (.v (.c (.cf (.im h.bY.length) 0 1 (some 1) 5))) (h.push (.cells [A,c1,c2,c3,c4] 0)):=by
 show Ck Om _ .nil h d k=_;rw[CK]; rfl
def FK(L:List Tok)(s:RS):(dQ L s).p=s.p+1:=by
 unfold dQ bJ;show(cU s _).p+1=_;rw[Cc]
def qUe(d:Int)(L:List Tok)(s:RS)(v:TT)(s':RS)(E:WV d L s v s') :
  Om 177 [P0,.v (.c (.ptr (.im 2) 0)),.v (.c (.ptr (.im 3) 0))] [dH 1,rO L s,jI d,.cells [.p .bq] 0] =
   some (.dq [],[dH 1,rO L s',jI d,.cells [.cf (.im 4) 0 1 none 5] 0,.cells (bp (eh (cq L s).text v)) 0]):=by
 obtain⟨e1,hd,hp⟩:=E;refine(gD rfl).trans ?_;show ca tab.get S 177 4 0 [P0,.v (.c (.ptr (.im 2) 0)),.v (.c (.ptr (.im 3) 0))] (H4 L s d (.cells [.p .bq] 0))=_;have U:∀ {β:Type}{k:KO β}{h:bm}{e:Nat},h.get (.im 1)=some (rO L s)->bE Om (F_ 110) [.v (.c (.ptr (.im 1) 0))] h e k=k (kS (cq L s).text) (h.put (.im 1) (rO L (dQ L s))):=λ{β k h e} A =>
  ny 110 (.im 1) 0 [] [] _ _ _ rfl rfl A (dS L s) (dS L _) rfl (ZN L s bn)
 have aa:(dQ L s).p<=1000000:=by rw[FK]; omega
 have yi:∀ {β:Type}{h:bm}{e:Nat}{kt:KT β},h.get (.im 1)=some (rO L (dQ L s))->br Om (.call (.k (F_ 46)) [.k (.v (.c (.ptr (.im 1) 0))),.k (kS [58])]) h e kt=kt (kB (dU 4 L (dQ L s) [58])) (h.put (.im 1) (rO L (bZ 4 L (dQ L s) [58]))) ⟨[(Ref.im 1).site,(Ref.im 1).site],[(Ref.im 1).site],false⟩:=λ{β h e kt} A =>
  AR 46 (.im 1) (kS [58]) _ _ _ rfl rfl A (dS L _) (dS L _) (Oh L _ aa [58])
 have sD:∀ {β:Type}{h:bm}{e:Nat}{kt:KT β},h.get (.im 1)=some (rO L (bZ 4 L (dQ L s) [58]))->br Om (.call (.k (F_ 43)) [.k (.v (.c (.ptr (.im 1) 0))),.k (kB (dU 4 L (dQ L s) [58]))]) h e kt=kt (.dq []) (h.put (.im 1) (rO L (jh L s))) ⟨[(Ref.im 1).site,(Ref.im 1).site],[(Ref.im 1).site],false⟩:=λ{β h e kt} A =>
  AR 43 (.im 1) (kB (dU 4 L (dQ L s) [58])) _ _ _ rfl rfl A (dS L _) (dS L _) (FJ L _ _)
 have M:∀ {β:Type}{k:KO β}{h:bm}{e:Nat},h.get (.im 1)=some (rO L (jh L s))->bE Om (F_ 45) [.v (.c (.ptr (.im 1) 0)),kI (d+1)] h e k=k (kA v.row) (h.put (.im 1) (rO L s')):=λ{β k h e} A =>
  ny 45 (.im 1) 0 [] [kI (d+1)] _ _ _ rfl rfl A (dS L _) (dS L _) (by simp only[jr]) e1
 have ed:IntKind.i64.wrap (d+1)=d+1:=jZ _ bn bn;obtain⟨a1,a2,a3,a4,gY⟩:∃ a1 a2 a3 a4,v.row=[a1,a2,a3,a4]:=by cases v; exact⟨_,_,_,_,rfl⟩
 unfold eh;rw[gY] at M ⊢;have pr:bp [a1,a2,a3,a4]=[.p a1,.p a2,.p a3,.p a4]:=rfl;generalize dU 4 L (dQ L s) [58]=bc at *;generalize ab:bZ 4 L (dQ L s) [58]=s2 at *;generalize ad:jh L s=s3 at *;generalize dQ L s=s1 at *;generalize (cq L s).text=key at *;have ap:=λ{β:Type} {k:KO β} {h:bm} {e:Nat} (gb:h.get (.im 5)=some (.cells [.p (.str key),.p a1,.p a2,.p a3,.p a4] 0))=>qOr (O:=Om) (k:=k) (d:=e) (sz:=5) (by':=88) (lb:=1) (capb:=some 1) bn bn gb rfl
 have P5:∀ a b c d e:Cell,dm z5 0 [a,b,c,d,e]=[a,b,c,d,e]:=λ_ _ _ _ _=>rfl
 have P4:∀ a b c d e x y z w:Cell,dm [a,b,c,d,e] 1 [x,y,z,w]=[a,x,y,z,w]:=λ_ _ _ _ _ _ _ _ _=>rfl
 rw[Dh,uY];simp only[bW,rA,rC,rD,qbu,qbt,qbs,qbr,qXw,qXC,qbq,U,yi,sD,M,ed,pr,qTj,XF,mA,Sp,qKj,qIl,uj,ap,P5,P4];exact(JB 3 _ [.im 0,.im 1,.im 2,.im 3,.im 6] rfl).trans rfl
def H5(L:List Tok)(a:RS)(d:Int)(E F:bG):bm:=.mk [dH 1,rO L a,jI d,E,F] .nil
section
variable (L:List Tok) (a b:RS) (d:Int) (E E' F F':bG) (i:Nat) (cs:List Cell)
def qbp:(H5 L a d E F).get (.im 0)=some (dH 1):=id rfl
def qbo:(H5 L a d E F).get (.im 1)=some (rO L a):=id rfl
def qbn:(H5 L a d E F).get (.im 2)=some (jI d):=id rfl
def qbm:(H5 L a d (.cells cs i) F).get (.im 3)=some (.cells cs i):=id rfl
def qbl:(H5 L a d E (.cells cs i)).get (.im 4)=some (.cells cs i):=id rfl
def qXr:(H5 L a d E F).put (.im 1) (rO L b)=H5 L b d E F:=id rfl
def qXi:(H5 L a d E F).put (.im 3) E'=H5 L a d E' F:=id rfl
def qXq:(H5 L a d E F).put (.im 4) F'=H5 L a d E F':=id rfl
def qbk:(H5 L a d E F).bY.length=5:=id rfl
end
def qRY(n:Nat)(xs:List bL)(hx:xs.length=n*5)(hn:n<=100000)(d:Int)(L:List Tok)(s:RS)(v:TT)(s':RS)(E:WV d L s v s') :
  Om 177 [P0,.v (.c (.ptr (.im 2) 0)),.v (.c (.ptr (.im 3) 0))] [dH 1,rO L s,jI d,.cells [.cf (.im 4) 0 n none 5] 0,.cells (bp xs) 0] =
   some (.dq [],[dH 1,rO L s',jI d,.cells [.cf (.im 5) 0 (n+1) none 5] 0,.dead,.cells (bp (xs++eh (cq L s).text v)) 0]):=by
 obtain⟨e1,hd,hp⟩:=E;refine(gD rfl).trans ?_;show ca tab.get S 177 5 0 [P0,.v (.c (.ptr (.im 2) 0)),.v (.c (.ptr (.im 3) 0))] (H5 L s d (.cells [.cf (.im 4) 0 n none 5] 0) (.cells (bp xs) 0))=_;have U:∀ {β:Type}{k:KO β}{h:bm}{e:Nat},h.get (.im 1)=some (rO L s)->bE Om (F_ 110) [.v (.c (.ptr (.im 1) 0))] h e k=k (kS (cq L s).text) (h.put (.im 1) (rO L (dQ L s))):=λ{β k h e} A =>
  ny 110 (.im 1) 0 [] [] _ _ _ rfl rfl A (dS L s) (dS L _) rfl (ZN L s bn)
 have aa:(dQ L s).p<=1000000:=by rw[FK]; omega
 have yi:∀ {β:Type}{h:bm}{e:Nat}{kt:KT β},h.get (.im 1)=some (rO L (dQ L s))->br Om (.call (.k (F_ 46)) [.k (.v (.c (.ptr (.im 1) 0))),.k (kS [58])]) h e kt=kt (kB (dU 4 L (dQ L s) [58])) (h.put (.im 1) (rO L (bZ 4 L (dQ L s) [58]))) ⟨[(Ref.im 1).site,(Ref.im 1).site],[(Ref.im 1).site],false⟩:=λ{β h e kt} A =>
  AR 46 (.im 1) (kS [58]) _ _ _ rfl rfl A (dS L _) (dS L _) (Oh L _ aa [58])
 have sD:∀ {β:Type}{h:bm}{e:Nat}{kt:KT β},h.get (.im 1)=some (rO L (bZ 4 L (dQ L s) [58]))->br Om (.call (.k (F_ 43)) [.k (.v (.c (.ptr (.im 1) 0))),.k (kB (dU 4 L (dQ L s) [58]))]) h e kt=kt (.dq []) (h.put (.im 1) (rO L (jh L s))) ⟨[(Ref.im 1).site,(Ref.im 1).site],[(Ref.im 1).site],false⟩:=λ{β h e kt} A =>
  AR 43 (.im 1) (kB (dU 4 L (dQ L s) [58])) _ _ _ rfl rfl A (dS L _) (dS L _) (FJ L _ _)
 have M:∀ {β:Type}{k:KO β}{h:bm}{e:Nat},h.get (.im 1)=some (rO L (jh L s))->bE Om (F_ 45) [.v (.c (.ptr (.im 1) 0)),kI (d+1)] h e k=k (kA v.row) (h.put (.im 1) (rO L s')):=λ{β k h e} A =>
  ny 45 (.im 1) 0 [] [kI (d+1)] _ _ _ rfl rfl A (dS L _) (dS L _) (by simp only[jr]) e1
 have ed:IntKind.i64.wrap (d+1)=d+1:=jZ _ bn bn;obtain⟨a1,a2,a3,a4,gY⟩:∃ a1 a2 a3 a4,v.row=[a1,a2,a3,a4]:=by cases v; exact⟨_,_,_,_,rfl⟩
 unfold eh;rw[gY] at M ⊢;have pr:bp [a1,a2,a3,a4]=[.p a1,.p a2,.p a3,.p a4]:=rfl;generalize dU 4 L (dQ L s) [58]=bc at *;generalize ab:bZ 4 L (dQ L s) [58]=s2 at *;generalize ad:jh L s=s3 at *;generalize dQ L s=s1 at *;generalize (cq L s).text=key at *;have ap:=λ{β:Type} {k:KO β} {h:bm} {e:Nat} (ga:h.get (.im 4)=some (.cells (bp xs) 0)) (gb:h.get (.im 6)=some (.cells [.p (.str key),.p a1,.p a2,.p a3,.p a4] 0))=>qOm (O:=Om) (k:=k) (d:=e) (sz:=5) (by':=88) (la:=n) (lb:=1) (capb:=some 1) bn bn ga gb (by rw[qV,hx]) rfl
 have P5:∀ a b c d e:Cell,dm z5 0 [a,b,c,d,e]=[a,b,c,d,e]:=λ_ _ _ _ _=>rfl
 have P4:∀ a b c d e x y z w:Cell,dm [a,b,c,d,e] 1 [x,y,z,w]=[a,x,y,z,w]:=λ_ _ _ _ _ _ _ _ _=>rfl
 rw[Dh,uY];simp only[bW,rA,rC,rD,qbp,qbo,qbn,qbm,qbl,qXr,qXi,qXq,qbk,U,yi,sD,M,ed,pr,qTj,XF,mA,Sp,qKj,qIl,uj,ap,P5,P4];have T:AI.Touch.apart ⟨[(Ref.im 0).site],[],false⟩ ⟨[(Ref.im 1).site,(Ref.im 1).site],[(Ref.im 1).site],false⟩=true:=rfl;rw[T,iv];have pa:bp xs++[.p (.str key),.p a1,.p a2,.p a3,.p a4]=bp (xs++[.str key,a1,a2,a3,a4]):=by unfold bp; simp
 rw[pa];have pl:=nH (xs++[.str key,a1,a2,a3,a4]) 0;generalize bp (xs++[.str key,a1,a2,a3,a4])=Y at pl;refine(JB 4 _ [.im 0,.im 1,.im 2,.im 3,.im 4,.im 7] ?_).trans ?_
 ·show reach _ (397+1+1+1) [.im 1,.im 7] (bY 5)=_;rw[Hj _ _ _ _ bu,qi _ (.im 7) [] (bY 5) (.cells Y 0) bu rfl,pl.1];rfl
 ·show some (bt.dq [],[dH 1,rO L s',jI d,bG.cells [Cell.cf (Ref.im 5) 0 (n+1) none 5] 0,bG.dead,(bG.cells Y 0).eB (iU [.im 0,.im 1,.im 2,.im 3,.im 4,.im 7])])=_;rw[pl.2]
def qO0{β:Type}{O:bD}{k:KO β}{h:bm}{d:Nat}(g:FuncId)(a b c:Ref):bE O (.v (.c (.func g [a,b,c]))) [] h d k=bE O (.v (.c (.func g []))) [.v (.c (.ptr a 0)),.v (.c (.ptr b 0)),.v (.c (.ptr c 0))] h d k:=rfl
structure SM (h:bm) (L:List Tok) (s:RS) (d:Int):Prop where
 g0:h.get (.im 0)=some (rO L s)
 g1:h.get (.im 1)=some (dH 0)
 g2:h.get (.im 2)=some (jI d)
 g3:h.get (.im 3)=some (.cells [.p .bq] 0)
structure IF (h:bm) (L:List Tok) (s:RS) (d:Int) (n:Nat) (xs:List bL) (j:Nat):Prop where
 g0:h.get (.im 0)=some (rO L s)
 g1:h.get (.im 1)=some (dH 0)
 g2:h.get (.im 2)=some (jI d)
 hj:4<=j
 g3:h.get (.im 3)=some (.cells [.cf (.im j) 0 n none 5] 0)
 gj:h.get (.im j)=some (.cells (bp xs) 0)
 hx:xs.length=n*5
 hn:n<=90000
def SM.put{h:bm}{L:List Tok}{s t:RS}{d:Int}(A:SM h L s d):SM (h.put (.im 0) (rO L t)) L t d :=
 ⟨bm.bX A.g0 cb,(bm.cz A.g0 bu).trans A.g1,(bm.cz A.g0 bu).trans A.g2,(bm.cz A.g0 bu).trans A.g3⟩
def IF.put{h:bm}{L:List Tok}{s t:RS}{d:Int}{n:Nat}{xs:List bL}{j:Nat}(A:IF h L s d n xs j):IF (h.put (.im 0) (rO L t)) L t d n xs j :=
 ⟨bm.bX A.g0 cb,(bm.cz A.g0 bu).trans A.g1,(bm.cz A.g0 bu).trans A.g2,A.hj,(bm.cz A.g0 bu).trans A.g3,(bm.cz A.g0 (λe=>by cases e; have:=A.hj; omega)).trans A.gj,A.hx,A.hn⟩
def qUm{h:bm}{L:List Tok}{s t:RS}{v:TT}{d:Int}(A:SM h L s d)(E:WV d L s v t) :
  ∃ h' j,(∀ {β:Type}(e:Nat)(k:KO β),bE Om (.v (.c (.func 177 [.im 1,.im 2,.im 3]))) [] h e k=k (.dq []) h')/\IF h' L t d 1 (eh (cq L s).text v) j:=by
 have M:reach h cw ([.v (.c (.ptr (.im 1) 0)),.v (.c (.ptr (.im 2) 0)),.v (.c (.ptr (.im 3) 0))].flatMap bt.refs) []=[.im 1,.im 0,.im 2,.im 3]:=by
  show reach h (395+1+1+1+1+1) [.im 1,.im 2,.im 3] []=_;rw[qi _ (.im 1) _ _ _ bu A.g1];show reach h (395+1+1+1+1) [.im 0,.im 2,.im 3] [.im 1]=_;rw[qi _ (.im 0) _ _ _ bu A.g0];show reach h (395+1+1+1) [.im 2,.im 3] [.im 1,.im 0]=_;rw[qi _ (.im 2) _ _ _ bu A.g2];show reach h (395+1+1) [.im 3] [.im 1,.im 0,.im 2]=_;rw[qi _ (.im 3) _ _ _ bu A.g3];exact yu _ _
 have hm:([.im 1,.im 0,.im 2,.im 3]:List Ref).mapM h.get=some [dH 0,rO L s,jI d,.cells [.p .bq] 0]:=by
  simp only[ek,gg,A.g0,A.g1,A.g2,A.g3,gC,rL,eG]
 have pl:=nH (eh (cq L s).text v) 0;obtain⟨h',hc,B⟩:=Hf (O:=Om) (h:=h) 177 [.v (.c (.ptr (.im 1) 0)),.v (.c (.ptr (.im 2) 0)),.v (.c (.ptr (.im 3) 0))] _ [P0,.v (.c (.ptr (.im 2) 0)),.v (.c (.ptr (.im 3) 0))] _ _ _ _ _ (.dq []) rfl M hm rfl rfl (qUe d L s v t E) (show(4:Nat)<=5 by decide) bu rfl;refine⟨h',h.bY.length+0,λe k=>(qO0 177 _ _ _).trans (hc e k),?_⟩;have hl:4<=h.bY.length:=by
  have:=(bm.ej A.g3).1;have:=(cQ.1 this).1;omega
 exact⟨B.own 1 (.im 0) _ rfl rfl cb,B.own 0 (.im 1) _ rfl rfl cb,B.own 2 (.im 2) _ rfl rfl cb,bn,B.own 3 (.im 3) _ rfl rfl cb,
  B.new 0 (.cells (bp (eh (cq L s).text v)) 0) (dh some (pl.2 _)) cb,by unfold eh; simp[TT.ct],bn⟩
def qXj{j:Nat}(hj:4<=j):iU [.im 1,.im 0,.im 2,.im 3,.im j] (.im j)=some (.im 4):=by
 have ne:∀ i:Nat,i<4->decide (Ref.im j=Ref.im i)=false:=λi hi=>de (λe=>by cases e; omega)
 unfold iU;simp only[idx,ne 1 bu,ne 0 bu,ne 2 bu,ne 3 bu,iN,rT,iv];rfl
def qSU{h:bm}{L:List Tok}{s t:RS}{v:TT}{d:Int}{n j:Nat}{xs:List bL}(A:IF h L s d n xs j)(hn:n<=80000)(E:WV d L s v t) :
  ∃ h' j,(∀ {β:Type}(e:Nat)(k:KO β),bE Om (.v (.c (.func 177 [.im 1,.im 2,.im 3]))) [] h e k=k (.dq []) h')/\IF h' L t d (n+1) (xs++eh (cq L s).text v) j:=by
 have hj:=A.hj;have M:∀ i:Nat,i<4->Ref.im j≠Ref.im i:=λi hi e=>by cases e; omega
 have nm:Ref.im j∉([.im 1,.im 0,.im 2,.im 3]:List Ref):=by
  simp only[dK,lL,lK,oG];exact⟨M 1 bu,M 0 bu,M 2 bu,M 3 bu⟩
 have pl:=nH (xs++eh (cq L s).text v) 0;have px:=nH xs 0;have hr:reach h cw ([.v (.c (.ptr (.im 1) 0)),.v (.c (.ptr (.im 2) 0)),.v (.c (.ptr (.im 3) 0))].flatMap bt.refs) []=[.im 1,.im 0,.im 2,.im 3,.im j]:=by
  show reach h (394+1+1+1+1+1+1) [.im 1,.im 2,.im 3] []=_;rw[qi _ (.im 1) _ _ _ bu A.g1];show reach h (394+1+1+1+1+1) [.im 0,.im 2,.im 3] [.im 1]=_;rw[qi _ (.im 0) _ _ _ bu A.g0];show reach h (394+1+1+1+1) [.im 2,.im 3] [.im 1,.im 0]=_;rw[qi _ (.im 2) _ _ _ bu A.g2];show reach h (394+1+1+1) [.im 3] [.im 1,.im 0,.im 2]=_;rw[qi _ (.im 3) _ _ _ bu A.g3];show reach h (394+1+1) [.im j] [.im 1,.im 0,.im 2,.im 3]=_;rw[qi _ (.im j) _ _ _ nm A.gj,px.1];exact yu _ _
 have hm:([.im 1,.im 0,.im 2,.im 3,.im j]:List Ref).mapM h.get=some [dH 0,rO L s,jI d,.cells [.cf (.im j) 0 n none 5] 0,.cells (bp xs) 0]:=by
  simp only[ek,gg,A.g0,A.g1,A.g2,A.g3,A.gj,gC,rL,eG]
 have e5:([dH 0,rO L s,jI d,.cells [.cf (.im j) 0 n none 5] 0,.cells (bp xs) 0]:List bG).map (bG.eB (iU [.im 1,.im 0,.im 2,.im 3,.im j]))=[dH 1,rO L s,jI d,.cells [.cf (.im 4) 0 n none 5] 0,.cells (bp xs) 0]:=by
  show [dH 1,rO L s,jI d,bG.cells [match iU [.im 1,.im 0,.im 2,.im 3,.im j] (.im j) with|some s=>.cf s 0 n none 5|none=>.jd] 0,(bG.cells (bp xs) 0).eB _]=_;rw[qXj hj,px.2]
 have U:([.im 1,.im 0,.im 2,.im 3,.im j]:List Ref).Nodup:=by
  have:([.im 1,.im 0,.im 2,.im 3]:List Ref).Nodup:=bu
  rw[show([.im 1,.im 0,.im 2,.im 3,.im j]:List Ref)=[.im 1,.im 0,.im 2,.im 3]++[.im j] from rfl,yW];refine⟨this,bR,?_⟩;intro a ha b hb e;rw[fY.1 hb] at e;exact nm (e▸ha)
 obtain⟨h',hc,B⟩:=Hf (O:=Om) (h:=h) 177 [.v (.c (.ptr (.im 1) 0)),.v (.c (.ptr (.im 2) 0)),.v (.c (.ptr (.im 3) 0))] _ [P0,.v (.c (.ptr (.im 2) 0)),.v (.c (.ptr (.im 3) 0))] _ _ _ _ _ (.dq []) rfl hr hm rfl e5 (qRY n xs A.hx (by have:=A.hn; omega) d L s v t E) (show(5:Nat)<=6 by decide) U rfl;refine⟨h',h.bY.length+0,λe k=>(qO0 177 _ _ _).trans (hc e k),?_⟩;have hl:4<=h.bY.length:=by
  have:=(bm.ej A.g3).1;have:=(cQ.1 this).1;omega
 exact⟨B.own 1 (.im 0) _ rfl rfl cb,B.own 0 (.im 1) _ rfl rfl cb,B.own 2 (.im 2) _ rfl rfl cb,bn,B.own 3 (.im 3) _ rfl rfl cb,
  B.new 0 (.cells (bp (xs++eh (cq L s).text v)) 0) (dh some (pl.2 _)) cb,by have:=A.hx; unfold eh; simp[TT.ct]; omega,bn⟩
abbrev Es:=List (LB×TT)
def dW(es:Es):List bL:=es.flatMap λp=>eh p.1 p.2
abbrev II:bt:=.v (.c (.func 177 [.im 1,.im 2,.im 3]))
def dz(sub:RS->TT×RS)(L:List Tok)(s:RS):(LB×TT)×RS:=(((cq L s).text,(sub (jh L s)).1),(sub (jh L s)).2)
def gu(sub:RS->TT×RS)(L:List Tok)(x:LB):Nat->RS->Es->Es×RS
 |0,s,acc=>(acc,s)
 |f+1,s,acc=>if dU 4 L s [44]=true then gu sub L x f (dz sub L (bJ s)).2 (acc++[(dz sub L (bJ s)).1]) else (acc,cU (bZ 4 L s x) (dU 4 L s x))
def ic(sub:RS->TT×RS)(L:List Tok)(x:LB)(s:RS):Es×RS:=if dU 4 L s x=true then ([],bJ s) else gu sub L x (L.length+2) (dz sub L s).2 [(dz sub L s).1]
def I1(L:List Tok)(s:RS):Prop:=(s.e=0->s.p<=L.length)/\s.p<=L.length+1
structure n8 (d:Int) (L:List Tok) (sub:RS->TT×RS) (ok:RS->Prop):Prop where
 one:∀ s,I1 L s->ok s->Om 45 [P0,kI (d+1)] [rO L s]=some (kA (sub s).1.row,[rO L (sub s).2])
 inv:∀ s,I1 L s->I1 L (sub s).2/\s.p<=(sub s).2.p
def oi(sub:RS->TT×RS)(ok:RS->Prop)(L:List Tok):Nat->RS->Prop
 |0,_=>True
 |f+1,s=>dU 4 L s [44]=true->ok (jh L (bJ s))/\oi sub ok L f (dz sub L (bJ s)).2
def yp(sub:RS->TT×RS)(ok:RS->Prop)(L:List Tok)(x:LB)(s:RS):Prop:=dU 4 L s x=false->ok (jh L s)/\oi sub ok L (L.length+2) (dz sub L s).2
def zo{k:Int}{L:List Tok}{s:RS}{x:LB}(A:k≠0)(h:dU k L s x=true):s.e=0/\s.p<L.length:=by
 unfold dU cq at h;rw[fj,dF] at h;by_cases he:s.e=0
 ·rw[bF he] at h;refine⟨he,?_⟩
  rcases vq s.p L.length with h1|h1
  ·exact h1
  ·rw[ky h1] at h;exact absurd h.1 (λe=>A e.symm)
 ·rw[bA he] at h;exact absurd h.1 (λe=>A e.symm)
def Ox{L:List Tok}{s:RS}(h:(cq L s).kind≠0):s.e=0/\s.p<L.length:=by
 unfold cq at h;by_cases he:s.e=0
 ·rw[bF he] at h;refine⟨he,?_⟩
  rcases vq s.p L.length with h1|h1
  ·exact h1
  ·rw[ky h1] at h;exact absurd rfl h
 ·rw[bA he] at h;exact absurd rfl h
def UN(s:RS)(e:Int)(he:e≠0):(b9 s e).e≠0:=by
 unfold b9;split
 ·exact he
 ·assumption
def UO{L:List Tok}{s:RS}(b:Bool)(h:I1 L s):I1 L (cU s b):=by
 refine⟨λe=>?_,by rw[Cc]; exact h.2⟩;rw[Cc];unfold cU at e;split at e
 ·exact h.1 e
 ·exact absurd e (UN _ _ bu)
def UM{k:Int}{L:List Tok}{s:RS}{x:LB}(A:k≠0)(h:I1 L s):I1 L (bZ k L s x)/\s.p<=(bZ k L s x).p:=by
 unfold bZ;split
 ·rename_i hi;obtain⟨h1,M⟩:=zo A hi;refine⟨⟨λ_=>?_,?_⟩,?_⟩
  ·show s.p+1<=_; omega
  ·show s.p+1<=_; omega
  ·show s.p<=s.p+1; omega
 ·exact⟨h,cB _⟩
def Vz{L:List Tok}{s:RS}(h:s.p<=L.length):I1 L (dQ L s):=by
 refine⟨λe=>?_,by rw[FK]; omega⟩;rw[FK];by_cases h1:(cq L s).kind=1
 ·have:=(Ox (L:=L) (s:=s) (by rw[h1]; decide)).2;omega
 ·exfalso;have:(cU s (decide ((cq L s).kind=1))).e=0:=e;rw[de h1] at this;unfold cU at this;rw[bA bu] at this;exact UN _ _ bu this
def JE{L:List Tok}{s:RS}(h:s.p<=L.length):I1 L (jh L s)/\s.p+1<=(jh L s).p:=by
 have h1:=Vz h;obtain⟨A,M⟩:=UM (k:=4) (x:=[58]) bu h1;refine⟨UO _ A,?_⟩;unfold jh;rw[Cc];rw[FK] at M;omega
def qQi{d:Int}{L:List Tok}{sub:RS->TT×RS}{okP:RS->Prop}(ok:n8 d L sub okP)(hd:0<=d/\d<=100)(M:L.length<=1000){s:RS}(h:s.p<=L.length)(hc:okP (jh L s)):WV d L s (dz sub L s).1.2 (dz sub L s).2/\I1 L (dz sub L s).2/\s.p+1<=(dz sub L s).2.p:=by
 obtain⟨h1,U⟩:=JE h;obtain⟨A,h5⟩:=ok.inv _ h1;exact⟨⟨ok.one _ h1 hc,hd,bn⟩,A,by show s.p+1<=(sub (jh L s)).2.p; omega⟩
def qU4{h:bm}{L:List Tok}{s:RS}{d:Int}{n j:Nat}{xs:List bL}(hp:s.p<=1000000)(x:LB)(A:IF h L s d n xs j) :
  ca tab.get S 111 4 2 [P0,kS x] h=some (.dq [],[rO L (cU (bZ 4 L s x) (dU 4 L s x)),dH 0,jI d,.cells [.cf (.im 4) 0 n none 5] 0,.cells (bp xs) 0]):=by
 have hj:=A.hj;have M:=A.put (t:=bZ 4 L s x);rw[Dp,u0,Dt hp x A.g0,Jv _ M.g0];have B:=M.put (t:=cU (bZ 4 L s x) (dU 4 L s x));generalize cU (bZ 4 L s x) (dU 4 L s x)=t at B ⊢;have U:=nH xs 0;have nm:Ref.im j∉(bY 4:List Ref):=by
  show Ref.im j∉[.im 0,.im 1,.im 2,.im 3];simp only[dK,lL,lK,oG,Ref.im.injEq];omega
 generalize (h.put (.im 0) (rO L (bZ 4 L s x))).put (.im 0) (rO L t)=h at B;have e:(bY (3+1)).flatMap (λr=>match h.get r with|some o=>o.refs|none=>[])=[.im 0,.im j]:=by
  show([.im 0,.im 1,.im 2,.im 3]:List Ref).flatMap _=_;simp only[eJ,jJ,B.g0,B.g1,B.g2,B.g3];rw[(dS L t).1];rfl
 refine(JB 3 h [.im 0,.im 1,.im 2,.im 3,.im j] ?_).trans ?_
 ·refine(dh (λl=>reach h cw l (bY 4)) e).trans ?_;show reach h (397+1+1+1) [.im 0,.im j] (bY 4)=_;rw[Hj _ _ _ _ bu,qi _ (.im j) [] (bY 4) _ nm B.gj,U.1];exact yu _ _
 ·have ij:iU [.im 0,.im 1,.im 2,.im 3,.im j] (.im j)=some (.im 4):=by
   have ne:∀ i:Nat,i<4->decide (Ref.im j=Ref.im i)=false:=λi hi=>de (λe=>by cases e; omega)
   unfold iU;simp only[idx,ne 1 bu,ne 0 bu,ne 2 bu,ne 3 bu,iN,rT,iv];rfl
  simp only[dr,kL,B.g0,B.g1,B.g2,B.g3,B.gj,U.2,(dS L t).2];show some (bt.dq [],[rO L t,dH 0,jI d,bG.cells [match iU [.im 0,.im 1,.im 2,.im 3,.im j] (.im j) with|some s=>.cf s 0 n none 5|none=>.jd] 0,bG.cells (bp xs) 0])=_;rw[ij]
def qHP(l:Es)(p:LB×TT):dW (l++[p])=dW l++eh p.1 p.2:=by unfold dW; simp
def qKM{d:Int}{L:List Tok}{sub:RS->TT×RS}{okP:RS->Prop}(ok:n8 d L sub okP)(hd:0<=d/\d<=100)(hL:L.length<=1000)(x:LB):∀ (f:Nat) (s:RS) (acc:Es) (h:bm) (j:Nat),I1 L s->oi sub okP L f s->L.length - s.p<f->acc.length+(L.length - s.p)<=L.length+2->IF h L s d acc.length (dW acc) j ->
  ca tab.get S 111 4 1 [P0,kS x,II] h=some (.dq [],[rO L (gu sub L x f s acc).2,dH 0,jI d,.cells [.cf (.im 4) 0 (gu sub L x f s acc).1.length none 5] 0,.cells (bp (dW (gu sub L x f s acc).1)) 0])
 |0,s,acc,h,j,I,lo,hf,ha,A=>bn
 |f+1,s,acc,h,j,I,lo,hf,ha,A=>by
  have hp:s.p<=1000000:=by have:=I.2; omega
  unfold gu;rw[Dq,u9,Dt hp [44] A.g0];cases hi:dU 4 L s [44] with
  |false =>
   have ht:bZ 4 L s [44]=s:=by unfold bZ; rw[hi]; rfl
   rw[mN,bA bu,ht];exact qU4 hp x (A.put (t:=s))
  |true =>
   obtain⟨h1,h2⟩:=zo bu hi;have ht:bZ 4 L s [44]=bJ s:=by unfold bZ; rw[hi]; rfl
   rw[oc,bF rfl,ht];have hn:(bJ s).p<=L.length:=by show s.p+1<=_; omega
   obtain⟨M,U⟩:=lo hi;obtain⟨E,I',q⟩:=qQi ok hd hL hn M;obtain⟨aa,j1,hc,B⟩:=qSU (A.put (t:=bJ s)) bn E;show bE Om II [] (h.put (.im 0) (rO L (bJ s))) 14 _=_;rw[hc];have q':s.p+2<=(dz sub L (bJ s)).2.p:=q;refine qKM ok hd hL x f _ (acc++[(dz sub L (bJ s)).1]) aa j1 I' U bn (by rw[bV]; show acc.length+1+_<=_; omega) ?_;rw[bV,qHP];exact B
def qRT{d:Int}{L:List Tok}{sub:RS->TT×RS}{okP:RS->Prop}(ok:n8 d L sub okP)(hd:0<=d/\d<=100)(hL:L.length<=1000)(x:LB)(s:RS)(h:s.p<=L.length)(ro:yp sub okP L x s)(hx:dU 4 L s x=false) :
  Om 111 [P0,kS x,II] [rO L s,dH 0,jI d,.cells [.p .bq] 0]=some (.dq [],[rO L (ic sub L x s).2,dH 0,jI d,.cells [.cf (.im 4) 0 (ic sub L x s).1.length none 5] 0,.cells (bp (dW (ic sub L x s).1)) 0]):=by
 refine(gD rfl).trans ?_;show ca tab.get S 111 4 0 [P0,kS x,II] (bm.mk [rO L s,dH 0,jI d,.cells [.p .bq] 0] .nil)=_;have A:SM (bm.mk [rO L s,dH 0,jI d,.cells [.p .bq] 0] .nil) L s d:=⟨rfl,rfl,rfl,rfl⟩;generalize bm.mk [rO L s,dH 0,jI d,.cells [.p .bq] 0] .nil=H at A;have ht:bZ 4 L s x=s:=by unfold bZ; rw[hx]; rfl
 obtain⟨M,U⟩:=ro hx;obtain⟨E,I',q⟩:=qQi ok hd hL h M;rw[wC,qK,Dt bn x A.g0,hx,mN,ht];obtain⟨h1,j1,hc,B⟩:=qUm (A.put (t:=s)) E;show bE Om II [] (H.put (.im 0) (rO L s)) 10 _=_;rw[hc];unfold ic;rw[bA (by rw[hx]; decide)];refine qKM ok hd hL x (L.length+2) _ [(dz sub L s).1] h1 j1 I' U bn (by show 1+_<=_; omega) ?_;show IF h1 L _ d 1 (eh (dz sub L s).1.1 (dz sub L s).1.2++[]) j1;rw[fa];exact B
def qTH{d:Int}{L:List Tok}{sub:RS->TT×RS}(U:L.length<=1000)(x:LB)(s:RS)(h:s.p<=L.length)(hx:dU 4 L s x=true) :
  Om 111 [P0,kS x,II] [rO L s,dH 0,jI d,.cells [.p .bq] 0]=some (.dq [],[rO L (ic sub L x s).2,dH 0,jI d,.cells [.p .bq] 0]):=by
 refine(gD rfl).trans ?_;show ca tab.get S 111 4 0 [P0,kS x,II] (bm.mk [rO L s,dH 0,jI d,.cells [.p .bq] 0] .nil)=_;have A:SM (bm.mk [rO L s,dH 0,jI d,.cells [.p .bq] 0] .nil) L s d:=⟨rfl,rfl,rfl,rfl⟩;generalize bm.mk [rO L s,dH 0,jI d,.cells [.p .bq] 0] .nil=H at A;have ht:bZ 4 L s x=bJ s:=by unfold bZ; rw[hx]; rfl
 rw[wC,qK,Dt bn x A.g0,hx,oc,ht];unfold ic;rw[bF hx];have M:=A.put (t:=bJ s);generalize H.put (.im 0) (rO L (bJ s))=h at M;generalize bJ s=t at *;have e:(bY (3+1)).flatMap (λr=>match h.get r with|some o=>o.refs|none=>[])=[.im 0]:=by
  show([.im 0,.im 1,.im 2,.im 3]:List Ref).flatMap _=_;simp only[eJ,jJ,M.g0,M.g1,M.g2,M.g3];rw[(dS L t).1];rfl
 refine(JB 3 h [.im 0,.im 1,.im 2,.im 3] ?_).trans ?_
 ·refine(dh (λl=>reach h cw l (bY 4)) e).trans ?_;show reach h (398+1+1) [.im 0] (bY 4)=_;rw[Hj _ _ _ _ bu];exact yu _ _
 ·simp only[dr,kL,M.g0,M.g1,M.g2,M.g3,(dS L t).2];rfl
def wV(x y:LB):Int:=if cX x y=true then -1 else if (!(cX x y||x==y))=true then 1 else 0
def JN(x y:LB):decide (wV x y<0)=cX x y:=by
 unfold wV;cases cX x y
 ·rw[bA bu];split <;> rfl
 ·rfl
def qXu(x:LB):Om 114 [kS x] []=some (kB false,[]):=by
 refine(gD rfl).trans ?_;show ca tab.get S 114 0 0 [kS x] h0=_;rw[Nz,xq];simp only[bW]
def ZP(x y:LB):Om 51 [kS x,kS y] []=some (kI (wV x y),[]):=by
 refine(gD rfl).trans ?_;show ca tab.get S 51 0 0 [kS x,kS y] h0=_;have c:=λ{β:Type} {k:KO β} {h:bm} {d:Nat} (x:LB)=>j6 (O:=Om) (k:=k) (h:=h) (d:=d) 114 [kS x] _ rfl (qXu x) rfl
 rw[Tq,Bq];unfold wV;cases h1:cX x y
 ·cases A:(x==y)
  ·simp only[bW,c,h1,A,fx,fC,gh]
  ·simp only[bW,c,h1,A,fC,gh]
 ·simp only[bW,c,h1,fx]
def nw(v:TT):∃ a1 a2 a3 a4,v.row=[a1,a2,a3,a4]:=by cases v; exact⟨_,_,_,_,rfl⟩
def qWZ(p q:LB×TT):Om 179 [kA (eh p.1 p.2),kA (eh q.1 q.2)] []=some (kI (wV p.1 q.1),[]):=by
 refine(gD rfl).trans ?_;obtain⟨a1,a2,a3,a4,A⟩:=nw p.2;obtain⟨M,U,b3,b4,hb⟩:=nw q.2;unfold eh;rw[A,hb];show ca tab.get S 179 0 0 [.v (.agg [.p (.str p.1),.p a1,.p a2,.p a3,.p a4]),.v (.agg [.p (.str q.1),.p M,.p U,.p b3,.p b4])] h0=_;have c:=λ{β:Type} {k:KO β} {h:bm} {d:Nat}=>j6 (O:=Om) (k:=k) (h:=h) (d:=d) 51 [kS p.1,kS q.1] _ rfl (ZP p.1 q.1) rfl
 rw[Nc,xm];simp only[bW,rA,rC,rE,c]
def DD(k:LB)(v:TT):(eh k v).length=5:=by unfold eh; simp[TT.ct]
def qIq:∀ l:Es,(dW l).length=l.length*5
 |[]=>rfl
 |p::l=>by
  have:=qIq l;show(eh p.1 p.2++dW l).length=_;rw[bV,DD,this,di]; omega
def qHi:∀ (l:Es) (i:Nat),(dW l).drop (i*5)=dW (l.drop i)
 |l,0=>bR
 |[],i+1=>by simp[dW]
 |p::l,i+1=>by
  show(eh p.1 p.2++dW l).drop ((i+1)*5)=_;rw[List.drop_append,kT (by rw[DD]; omega),DD,kK,show(i+1)*5 - 5=i*5 by omega,qHi l i];rfl
def qFh(l:Es)(i:Nat)(p:LB×TT)(h:l[i]?=some p):((bp (dW l)).drop (i*5)).take 5=bp (eh p.1 p.2):=by
 have hd:l.drop i=p::l.drop (i+1):=by
  obtain⟨h1,A⟩:=cQ.1 h;rw[kV h1,A]
 unfold bp;rw[<- mJ,<- mK,qHi,hd];show((eh p.1 p.2++dW (l.drop (i+1))).take 5).map _=_;rw[Ar,gz (by rw[DD]; omega),DD,rS,Aq,fa]
abbrev W6(n:Nat):bt:=.v (.c (.cf (.im 0) 0 n none 5))
abbrev SQ:bt:=.v (.c (.func 179 []))
def JJ{β:Type}{O:bD}{k:KO β}{h:bm}{d:Nat}(g:FuncId)(r:Ref)(args A:List bt)(o o':bG)(v:bt)(s1:args.map bt.strip=args)(s2:args.flatMap bt.refs=[r])(s3:args.map (bt.eB (iU [r]))=A)(U:h.get r=some o)(ho:kO o)(M:kO o')(hv:∀ σ,v.eB σ=v)
  (hc:O g A [o]=some (v,[o'])):bE O (.v (.c (.func g []))) args h d k=k v (h.put r o'):=by
 have e2:reach h cw (args.flatMap bt.refs) []=[r]:=by
  rw[s2];show reach h (398+1+1) [r] []=_;rw[qi _ r [] [] o bR U,ho.1];exact yu _ _
 have e3:([r]:List Ref).mapM h.get=some [o]:=by simp only[ek,gg,U,gC,rL,eG]
 rw[U5 g args args A [r] [o] [o] [o'] v s1 e2 e3 s3 (by rw[dr,ho.2]; rfl) hc (cB _),hv];show k v (h.put r (o'.eB _))=_;rw[M.2]
open Go Go.AI
def Vk:∀ x:LB,cX x x=false
 |[]=>rfl
 |a::x=>by
  have:=Vk x;simp only[cX] at this ⊢;simp[this]
def qEt:∀ x y:LB,cX x y=true->cX y x=false
 |[],[],h=>by simp[cX] at h
 |[],b::y,_=>by simp[cX]
 |a::x,[],h=>by simp[cX] at h
 |a::x,b::y,h=>by
  have M:=qEt x y;simp only[cX,qP,fj,dF,beq_iff_eq] at h;have e:cX (b::y) (a::x)=(decide (b<a)||(b==a&&cX y x)):=rfl;rw[e]
  rcases h with h|⟨h1,U⟩
  ·have A:¬ b<a:=λh'=>by have:=oD.1 h; have:=oD.1 h'; omega
   have n2:¬ b=a:=λh'=>by subst h'; have:=oD.1 h; omega
   simp[A,n2]
  ·subst h1;have A:¬ a<a:=λh'=>by have:=oD.1 h'; omega
   simp[A,M U]
def Vl:∀ x y:LB,cX x y=false->cX y x=false->x=y
 |[],[],_,_=>rfl
 |[],b::y,h,_=>by simp[cX] at h
 |a::x,[],_,h=>by simp[cX] at h
 |a::x,b::y,h1,A=>by
  have U:cX (a::x) (b::y)=(decide (a<b)||(a==b&&cX x y)):=rfl;have e2:cX (b::y) (a::x)=(decide (b<a)||(b==a&&cX y x)):=rfl;rw[U,nj,qp] at h1;rw[e2,nj,qp] at A
  have M:a=b:=jj.1 (by
   have q1:¬ a.toNat<b.toNat:=λh=>h1.1 (oD.2 h)
   have q2:¬ b.toNat<a.toNat:=λh=>A.1 (oD.2 h)
   omega)
  subst M;have r1:cX x y=false:=by simpa using h1.2
  have r2:cX y x=false:=by simpa using A.2
  rw[Vl x y r1 r2]
def qF8:∀ x y z:LB,cX y x=false->cX z y=false->cX z x=false
 |[],_,[],_,_=>rfl
 |[],[],c::z,_,A=>by simp[cX]
 |[],b::y,c::z,_,A=>by simp[cX]
 |a::x,[],_,h1,_=>by simp[cX] at h1
 |a::x,b::y,[],_,A=>by simp[cX] at A
 |a::x,b::y,c::z,h1,A=>by
  have e1:cX (b::y) (a::x)=(decide (b<a)||(b==a&&cX y x)):=rfl;have e2:cX (c::z) (b::y)=(decide (c<b)||(c==b&&cX z y)):=rfl;have e3:cX (c::z) (a::x)=(decide (c<a)||(c==a&&cX z x)):=rfl;rw[e1,nj,qp] at h1;rw[e2,nj,qp] at A;rw[e3,nj,qp];have q1:¬ b.toNat<a.toNat:=λh=>h1.1 (oD.2 h)
  have q2:¬ c.toNat<b.toNat:=λh=>A.1 (oD.2 h)
  refine⟨λh=>by have:=oD.1 h; omega,?_⟩;cases hc:(c==a) with
  |false=>rfl
  |true =>
   have M:c=a:=by simpa using hc
   subst M;have U:b=c:=jj.1 bn;subst U;have r1:cX y x=false:=by simpa using h1.2
   have r2:cX z y=false:=by simpa using A.2
   rw[qF8 x y z r1 r2]; rfl
section
variable {α:Type}
def Dw(l:List α)(i j:Nat):List α:=match l[i]?,l[j]? with
 |some p,some q=>(l.set i q).set j p
 |_,_=>l
def qUJ(l:List α)(i j:Nat):(Dw l i j).length=l.length:=by
 unfold Dw;split <;> simp
def Xj(l:List α)(i j:Nat)(p q:α)(hp:l[i]?=some p)(A:l[j]?=some q):Dw l i j=(l.set i q).set j p:=by
 unfold Dw; rw[hp,A]
def Xx(A B C:List α)(x y:α):Dw (A++x::(B++y::C)) A.length (A.length+1+B.length)=A++y::(B++x::C):=by
 have M:(A++x::(B++y::C))[A.length]?=some x:=bR
 have U:(A++x::(B++y::C))[A.length+1+B.length]?=some y:=by
  rw[kz bn,show A.length+1+B.length - A.length=B.length+1 by omega,xO];simp
 rw[Xj _ _ _ x y M U,xM _ _ (cB _),rS,Fq,xM _ _ bn,show A.length+1+B.length - A.length=B.length+1 by omega,List.set_cons_succ,xM _ _ (cB _),rS,Fq]
def qJu(A B C:List α)(x y:α)(h:Dw (A++x::(B++y::C)) A.length (A.length+1+B.length)=A++y::(B++x::C)):Dw (A++x::(B++y::C)) (A.length+1+B.length) A.length=A++y::(B++x::C):=by
 have M:(A++x::(B++y::C))[A.length]?=some x:=bR
 have U:(A++x::(B++y::C))[A.length+1+B.length]?=some y:=by
  rw[kz bn,show A.length+1+B.length - A.length=B.length+1 by omega,xO];simp
 rw[Xj _ _ _ x y M U] at h;rw[Xj _ _ _ y x U M,<- h];exact List.set_comm _ _ bn
def GZ:Nat->Nat->Nat->List α->List α
 |0,_,_,l=>l
 |n+1,a,b,l=>GZ n (a+1) (b+1) (Dw l a b)
def Xy:∀ (X Y A M C:List α),X.length=Y.length->GZ X.length A.length (A.length+X.length+M.length) (A++X++M++Y++C)=A++Y++M++X++C
 |[],[],A,M,C,h=>by simp[GZ]
 |[],y::Y,A,M,C,h=>by simp at h
 |x::X,[],A,M,C,h=>by simp at h
 |x::X,y::Y,A,M,C,h=>by
  have h':X.length=Y.length:=by simpa using h
  have e:A++(x::X)++M++(y::Y)++C=A++x::((X++M)++y::(Y++C)):=bR
  have s:=Xx A (X++M) (Y++C) x y;have U:=Xy X Y (A++[y]) (M++[x]) C h';rw[di,GZ,e,show A.length+(X.length+1)+M.length=A.length+1+(X++M).length by simp; omega,s];have e2:A++y::(X++M++x::(Y++C))=(A++[y])++X++(M++[x])++Y++C:=bR
  have e3:A++(y::Y)++M++(x::X)++C=(A++[y])++Y++(M++[x])++X++C:=bR
  rw[e2,e3,<- U]
  congr 1
  ·simp
  ·simp; omega
variable (lt:α->α->Bool)
abbrev Ord(l:List α):Prop:=l.Pairwise λp q=>lt q p=false
variable (asy:∀ p q,lt p q=true->lt q p=false) (J0:∀ p q r,lt q p=false->lt r q=false->lt r p=false)
include J0
theorem qJ6(M:∀ p,lt p p=false)(l:List α)(o:Ord lt l)(p:α)(h:l.getLast?=some p):∀ x∈l,lt p x=false:=by
 obtain⟨A,rfl⟩:=List.getLast?_eq_some_iff.1 h;intro x hx
 rcases fb.1 hx with hx|hx
 ·exact(iQ.1 o).2.2 x hx p bR
 ·rw[fY.1 hx]; exact M p
theorem qSB(A:∀ p,lt p p=false)(l:List α)(o:Ord lt l)(p:α)(h:l.head?=some p):∀ x∈l,lt x p=false:=by
 cases l with
 |nil=>cases h
 |cons q l =>
  cases h;intro x hx
  rcases dK.1 hx with rfl|hx
  ·exact A _
  ·exact(kv.1 o).1 x hx
theorem qXl(U:∀ p,lt p p=false)(X1 X2 Y1 Y2:List α)(oX:Ord lt (X1++X2))(oY:Ord lt (Y1++Y2))
  (h1:∀ p q,X1.getLast?=some p->Y2.head?=some q->lt q p=false) (h2:∀ p q,Y1.getLast?=some p->X2.head?=some q->lt q p=false) :
  ∀ x∈X1++Y1,∀ y∈X2++Y2,lt y x=false:=by
 have oX:=iQ.1 oX;have oY:=iQ.1 oY;have two:∀ (A B:List α),Ord lt A->Ord lt B->(∀ p q,A.getLast?=some p->B.head?=some q->lt q p=false)->∀ x∈A,∀ y∈B,lt y x=false:=by
  intro A B oA oB h x hx y M;obtain⟨p,hp⟩:∃ p,A.getLast?=some p:=by
   cases hA:A.getLast? with
   |none=>rw[List.getLast?_eq_none_iff.1 hA] at hx; cases hx
   |some p=>exact⟨p,rfl⟩
  obtain⟨q,hq⟩:∃ q,B.head?=some q:=by
   cases B with
   |nil=>cases M
   |cons q B=>exact⟨q,rfl⟩
  exact J0 _ _ _ (J0 _ _ _ (qJ6 lt J0 U A oA p hp x hx) (h p q hp hq)) (qSB lt J0 U B oB q hq y M)
 intro x hx y M
 rcases fb.1 hx with hx|hx <;> rcases fb.1 M with M|M
 ·exact oX.2.2 x hx y M
 ·exact two X1 Y2 oX.1 oY.2.1 h1 x hx y M
 ·exact two Y1 X2 oY.1 oX.2.1 h2 x hx y M
 ·exact oY.2.2 x hx y M
omit J0
structure wx (X Y Z:List α):Prop where
 ord:Ord lt Z
 JX:Z.Perm (X++Y)
theorem wx.len{X Y Z:List α}(m:wx lt X Y Z):Z.length=X.length+Y.length:=by rw[m.JX.length_eq,bV]
theorem qTn(Y:List α)(o:Ord lt Y):wx lt [] Y Y:=⟨o,.refl _⟩
theorem qTk(X:List α)(o:Ord lt X):wx lt X [] X:=⟨o,by rw[fa]⟩
include J0
theorem qXv(aa:∀ p,lt p p=false)(A M U Y2 Z1 Z2:List α)(oX:Ord lt (A++M))(oY:Ord lt (U++Y2))
  (h1:∀ p q,A.getLast?=some p->Y2.head?=some q->lt q p=false) (h2:∀ p q,U.getLast?=some p->M.head?=some q->lt q p=false)
  (m1:wx lt A U Z1) (m2:wx lt M Y2 Z2):wx lt (A++M) (U++Y2) (Z1++Z2):=by
 refine⟨iQ.2 ⟨m1.ord,m2.ord,λx hx y hy=>qXl lt J0 aa A M U Y2 oX oY h1 h2 x (m1.JX.mem_iff.1 hx) y (m2.JX.mem_iff.1 hy)⟩,?_⟩;refine(m1.JX.append m2.JX).trans ?_;have e1:A++U++(M++Y2)=A++(U++M++Y2):=bR
 have e2:A++M++(U++Y2)=A++(M++U++Y2):=bR
 rw[e1,e2];exact List.Perm.append_left _ (List.Perm.append_right _ xL)
include asy
theorem qXd(x:α)(A M:List α)(oY:Ord lt (A++M))(h1:∀ y∈A,lt y x=true)(h2:∀ y∈M,lt y x=false):wx lt [x] (A++M) (A++x::M):=by
 have o:=iQ.1 oY;refine⟨iQ.2 ⟨o.1,kv.2 ⟨h2,o.2.1⟩,λy U z hz=>?_⟩,vg⟩
 rcases dK.1 hz with rfl|hz
 ·exact asy _ _ (h1 y U)
 ·exact o.2.2 y U z hz
theorem qTu(y:α)(A M:List α)(U:Ord lt (A++M))(h1:∀ x∈A,lt y x=false)(h2:∀ x∈M,lt y x=true):wx lt (A++M) [y] (A++y::M):=by
 have o:=iQ.1 U;refine⟨iQ.2 ⟨o.1,kv.2 ⟨λx hx=>asy _ _ (h2 x hx),o.2.1⟩,λx hx z hz=>?_⟩,?_⟩
 ·rcases dK.1 hz with rfl|hz
  ·exact h1 x hx
  ·exact o.2.2 x hx z hz
 ·exact vg.trans (xL (l₁:=[y]) (l₂:=A++M))
end
class SK (α:Type) where
 z:Nat
 row:α->List bL
 gY:∀ a,(row a).length=z
 key:α->LB
 F:Nat
 fI:Nat
 fM:Nat
 fR:Nat
 fS:Nat
 fT:Nat
 fE:Nat
 cmp:∀ p q,Om F [kA (row p),kA (row q)] []=some (kI (wV (key p) (key q)),[])
 nI:∀ a o,S fI a o=none
 nM:∀ a o,S fM a o=none
 nR:∀ a o,S fR a o=none
 nS:∀ a o,S fS a o=none
 nT:∀ a o,S fT a o=none
 nE:∀ a o,S fE a o=none
 C3:∀ (q:Nat) (x0 x1 x2 x3:bt) (h:bm),ca tab.get S fI q 0 [x0,x1,x2,x3] h=tF z fI fM fR fS fT Om (ca tab.get S fI q) q x0 x1 x2 x3 h
 BY:∀ (q:Nat) (x0 x1 x2 x3 x4:bt) (h:bm),ca tab.get S fI q 1 [x0,x1,x2,x3,x4] h=ss z fI fM fR fS fT Om (ca tab.get S fI q) q x0 x1 x2 x3 x4 h
 BX:∀ (q:Nat) (x0 x1 x2 x3 x4 x5:bt) (h:bm),ca tab.get S fI q 2 [x0,x1,x2,x3,x4,x5] h=sr z fI fM fR fS fT Om (ca tab.get S fI q) q x0 x1 x2 x3 x4 x5 h
 Gp:∀ (q:Nat) (x0 x1 x2 x3 x4:bt) (h:bm),ca tab.get S fI q 3 [x0,x1,x2,x3,x4] h=uH z fI fM fR fS fT Om (ca tab.get S fI q) q x0 x1 x2 x3 x4 h
 BW:∀ (q:Nat) (x0 x1 x2 x3 x4:bt) (h:bm),ca tab.get S fM q 0 [x0,x1,x2,x3,x4] h=sq z fI fM fR fS fT Om (ca tab.get S fM q) q x0 x1 x2 x3 x4 h
 C0:∀ (q:Nat) (x0 x1 x2 x3 x4:bt) (h:bm),ca tab.get S fM q 1 [x0,x1,x2,x3,x4] h=tE z fI fM fR fS fT Om (ca tab.get S fM q) q x0 x1 x2 x3 x4 h
 Gn:∀ (q:Nat) (x0 x1 x2:bt) (h:bm),ca tab.get S fM q 2 [x0,x1,x2] h=uG z fI fM fR fS fT Om (ca tab.get S fM q) q x0 x1 x2 h
 CZ:∀ (q:Nat) (x0 x1 x2:bt) (h:bm),ca tab.get S fM q 3 [x0,x1,x2] h=tD z fI fM fR fS fT Om (ca tab.get S fM q) q x0 x1 x2 h
 Gm:∀ (q:Nat) (h:bm),ca tab.get S fM q 4 [] h=uF z fI fM fR fS fT Om (ca tab.get S fM q) q h
 CY:∀ (q:Nat) (x0 x1 x2 x3 x4:bt) (h:bm),ca tab.get S fM q 5 [x0,x1,x2,x3,x4] h=tB z fI fM fR fS fT Om (ca tab.get S fM q) q x0 x1 x2 x3 x4 h
 CX:∀ (q:Nat) (x0 x1 x2 x3 x4:bt) (h:bm),ca tab.get S fM q 6 [x0,x1,x2,x3,x4] h=tA z fI fM fR fS fT Om (ca tab.get S fM q) q x0 x1 x2 x3 x4 h
 Gl:∀ (q:Nat) (x0 x1 x2:bt) (h:bm),ca tab.get S fM q 7 [x0,x1,x2] h=uD z fI fM fR fS fT Om (ca tab.get S fM q) q x0 x1 x2 h
 CW:∀ (q:Nat) (x0 x1 x2:bt) (h:bm),ca tab.get S fM q 8 [x0,x1,x2] h=tz z fI fM fR fS fT Om (ca tab.get S fM q) q x0 x1 x2 h
 Gk:∀ (q:Nat) (h:bm),ca tab.get S fM q 9 [] h=uC z fI fM fR fS fT Om (ca tab.get S fM q) q h
 AM:∀ (q:Nat) (x0 x1 x2 x3 x4:bt) (h:bm),ca tab.get S fM q 10 [x0,x1,x2,x3,x4] h=pz z fI fM fR fS fT Om (ca tab.get S fM q) q x0 x1 x2 x3 x4 h
 yj:∀ (q:Nat) (x0 x1 x2 x3 x4 x5 x6 x7 x8:bt) (h:bm),ca tab.get S fM q 11 [x0,x1,x2,x3,x4,x5,x6,x7,x8] h=oR z fI fM fR fS fT Om (ca tab.get S fM q) q x0 x1 x2 x3 x4 x5 x6 x7 x8 h
 v8:∀ (q:Nat) (x0 x1 x2 x3 x4 x5 x6 x7 x8 x9:bt) (h:bm),ca tab.get S fM q 12 [x0,x1,x2,x3,x4,x5,x6,x7,x8,x9] h=nP z fI fM fR fS fT Om (ca tab.get S fM q) q x0 x1 x2 x3 x4 x5 x6 x7 x8 x9 h
 v7:∀ (q:Nat) (x0 x1 x2 x3 x4 x5 x6 x7:bt) (h:bm),ca tab.get S fM q 13 [x0,x1,x2,x3,x4,x5,x6,x7] h=nO z fI fM fR fS fT Om (ca tab.get S fM q) q x0 x1 x2 x3 x4 x5 x6 x7 h
 vZ:∀ (q:Nat) (x0 x1 x2 x3 x4 x5 x6:bt) (h:bm),ca tab.get S fM q 14 [x0,x1,x2,x3,x4,x5,x6] h=nN z fI fM fR fS fT Om (ca tab.get S fM q) q x0 x1 x2 x3 x4 x5 x6 h
 vY:∀ (q:Nat) (x0 x1 x2 x3 x4:bt) (h:bm),ca tab.get S fM q 15 [x0,x1,x2,x3,x4] h=nL z fI fM fR fS fT Om (ca tab.get S fM q) q x0 x1 x2 x3 x4 h
 Gi:∀ (q:Nat) (x0 x1 x2 x3 x4:bt) (h:bm),ca tab.get S fR q 0 [x0,x1,x2,x3,x4] h=uB z fI fM fR fS fT Om (ca tab.get S fR q) q x0 x1 x2 x3 x4 h
 BV:∀ (q:Nat) (x0 x1 x2 x3 x4:bt) (h:bm),ca tab.get S fR q 1 [x0,x1,x2,x3,x4] h=sn z fI fM fR fS fT Om (ca tab.get S fR q) q x0 x1 x2 x3 x4 h
 Gh:∀ (q:Nat) (x0 x1 x2 x3:bt) (h:bm),ca tab.get S fR q 2 [x0,x1,x2,x3] h=uA z fI fM fR fS fT Om (ca tab.get S fR q) q x0 x1 x2 x3 h
 Gg:∀ (q:Nat) (x0 x1 x2 x3 x4:bt) (h:bm),ca tab.get S fS q 0 [x0,x1,x2,x3,x4] h=uz z fI fM fR fS fT Om (ca tab.get S fS q) q x0 x1 x2 x3 x4 h
 CV:∀ (q:Nat) (x0 x1 x2 x3 x4:bt) (h:bm),ca tab.get S fS q 1 [x0,x1,x2,x3,x4] h=tx z fI fM fR fS fT Om (ca tab.get S fS q) q x0 x1 x2 x3 x4 h
 Gf:∀ (q:Nat) (x0 x1 x2:bt) (h:bm),ca tab.get S fT q 0 [x0,x1,x2] h=ux z fI fM fR fS fT Om (ca tab.get S fT q) q x0 x1 x2 h
 CU:∀ (q:Nat) (x0 x1 x2 x3 x4 x5:bt) (h:bm),ca tab.get S fT q 1 [x0,x1,x2,x3,x4,x5] h=tv z fI fM fR fS fT Om (ca tab.get S fT q) q x0 x1 x2 x3 x4 x5 h
 Ge:∀ (q:Nat) (x0 x1 x2 x3 x4:bt) (h:bm),ca tab.get S fT q 2 [x0,x1,x2,x3,x4] h=uw z fI fM fR fS fT Om (ca tab.get S fT q) q x0 x1 x2 x3 x4 h
 CT:∀ (q:Nat) (x0 x1 x2 x3:bt) (h:bm),ca tab.get S fT q 3 [x0,x1,x2,x3] h=tu z fI fM fR fS fT Om (ca tab.get S fT q) q x0 x1 x2 x3 h
 ze:∀ (q:Nat) (x0 x1 x2 x3 x4 x5:bt) (h:bm),ca tab.get S fT q 4 [x0,x1,x2,x3,x4,x5] h=rz z fI fM fR fS fT Om (ca tab.get S fT q) q x0 x1 x2 x3 x4 x5 h
 BU:∀ (q:Nat) (x0 x1 x2 x3 x4:bt) (h:bm),ca tab.get S fT q 5 [x0,x1,x2,x3,x4] h=sk z fI fM fR fS fT Om (ca tab.get S fT q) q x0 x1 x2 x3 x4 h
 Gd:∀ (q:Nat) (x0 x1 x2 x3:bt) (h:bm),ca tab.get S fT q 6 [x0,x1,x2,x3] h=uv z fI fM fR fS fT Om (ca tab.get S fT q) q x0 x1 x2 x3 h
 Gq:∀ (q:Nat) (x0 x1:bt) (h:bm),ca tab.get S fE q 0 [x0,x1] h=uI z fI fM fR fS fT Om (ca tab.get S fE q) q x0 x1 h
section
variable {α:Type}
abbrev fF(K:SK α):bt:=.v (.c (.func K.F []))
abbrev sK(K:SK α)(n:Nat):bt:=.v (.c (.cf (.im 0) 0 n none K.z))
def rws(K:SK α)(l:List α):List bL:=l.flatMap K.row
def iI(K:SK α)(p q:α):Bool:=cX (K.key p) (K.key q)
def qMa(K:SK α)(p:α):iI K p p=false:=Vk _
def UZ(K:SK α)(p q:α)(h:iI K p q=true):iI K q p=false:=qEt _ _ h
def FV(K:SK α)(p q r:α)(h1:iI K q p=false)(A:iI K r q=false):iI K r p=false:=qF8 (K.key p) (K.key q) (K.key r) h1 A
end
section
variable {α:Type} [K:SK α]
def Jy{β:Type}{k:KO β}{h:bm}{d:Nat}(p q:α):bE Om (fF K) [.v (.agg (bp (K.row p))),.v (.agg (bp (K.row q)))] h d k=k (kI (wV (K.key p) (K.key q))) h:=j6 K.F _ _ (by simp only[jr]) (K.cmp p q) rfl
def qIM:∀ l:List α,(rws K l).length=l.length*K.z
 |[]=>by simp[rws]
 |p::l=>by
  have:=qIM l;show(K.row p++rws K l).length=_;rw[bV,K.gY,this,di,nk,Nat.add_comm]
def qHD:∀ (l:List α) (i:Nat),(rws K l).drop (i*K.z)=rws K (l.drop i)
 |l,0=>bR
 |[],i+1=>by simp[rws]
 |p::l,i+1=>by
  show(K.row p++rws K l).drop ((i+1)*K.z)=_;rw[List.drop_append,kT (by rw[K.gY,nk]; omega),K.gY,kK,nk,Ap,qHD l i];rfl
def qKu:∀ (l:List α) (i:Nat),(rws K l).take (i*K.z)=rws K (l.take i)
 |l,0=>by simp[rws]
 |[],i+1=>by simp[rws]
 |p::l,i+1=>by
  show(K.row p++rws K l).take ((i+1)*K.z)=_;rw[Ar,gz (by rw[K.gY,nk]; omega),K.gY,nk,Ap,qKu l i];rfl
def qVP(a b:List α):rws K (a++b)=rws K a++rws K b:=by unfold rws; rw[xR]
def qMT(n:Nat)(l:List α)(hl:l.length=n)(i:Nat)(hi:i<n):i*K.z+K.z<=(rws K l).length:=by
 rw[qIM,hl];have:=nc K.z hi;rw[nk] at this;exact this
end
section
variable {α:Type}
def qMv(K:SK α)(l:List α)(i:Nat)(p:α)(h:l[i]?=some p):((bp (rws K l)).drop (i*K.z)).take K.z=bp (K.row p):=by
 have hd:l.drop i=p::l.drop (i+1):=by
  obtain⟨h1,A⟩:=cQ.1 h;rw[kV h1,A]
 unfold bp;rw[<- mJ,<- mK,qHD,hd];show((K.row p++rws K (l.drop (i+1))).take K.z).map _=_;rw[Ar,gz (by rw[K.gY]; omega),K.gY,rS,Aq,fa]
def qNL(K:SK α)(l:List α)(i:Nat)(p:α)(h:i<l.length):dm (bp (rws K l)) (i*K.z) (bp (K.row p))=bp (rws K (l.set i p)):=by
 unfold dm eY bp;have A:(List.map Cell.p (K.row p)).length=K.z:=by rw[dj,K.gY]
 rw[A,<- mK,<- mJ,qKu,show i*K.z+K.z=(i+1)*K.z by rw[nk],qHD,<- gG,<- gG]
 congr 1
 have hs:l.set i p=l.take i++p::l.drop (i+1):=by
  rw[List.set_eq_take_append_cons_drop,bF h]
 rw[hs,qVP];show _=rws K (l.take i)++(K.row p++rws K (l.drop (i+1)));rw[eH]
end
def Zi{β:Type}{h:bm}{k:KO β}(a:Int):bw .shr 0 (kN .u64 a) (kN .u64 1) h k=k (kN .u64 (a / 2)) h:=qET _ _ _ _ _ (by
 show some (Cell.p (.int .u64 (a.fdiv (2 ^ (min ((1:Int).toNat) 64)))))=_
 rw[show(2:Int) ^ (min ((1:Int).toNat) 64)=2 by decide,Int.fdiv_eq_ediv_of_nonneg _ bu])
def Xl{β:Type}{h:bm}{k:KO β}(i j:Nat)(hi:i<=10000)(hj:j<=10000) :
  (bw .add 0 (kI (i:Int)) (kI (j:Int)) h λA h=>gI .u64 A h λM h=>bw .shr 0 M (.v (.c (.p (.int .u64 1)))) h λU h=>gI .i64 U h k)=k (kI (((i+j) / 2:Nat):Int)) h:=by
 have e1:IntKind.i64.wrap ((i:Int)+(j:Int))=((i+j:Nat):Int):=by rw[jZ _ bn bn]; omega
 have e2:IntKind.u64.wrap ((i+j:Nat):Int)=((i+j:Nat):Int):=Hm _ bn bn;have e3:IntKind.i64.wrap (((i+j:Nat):Int) / 2)=(((i+j) / 2:Nat):Int):=by rw[jZ _ bn bn]; omega
 rw[nz,e1,FQ,e2,Zi,FQ,e3]
abbrev SS(i j:Nat):Prop:=IntKind.i64.wrap ((i:Int)+(j:Int))=((i+j:Nat):Int)
def JC(i j:Nat)(hi:i<=100000)(hj:j<=100000):SS i j:=by unfold SS; rw[jZ _ bn bn]; omega
def Ca(i j:Nat)(hi:i<=100000)(hj:j<=i):IntKind.i64.wrap ((i:Int) - (j:Int))=((i - j:Nat):Int):=by rw[jZ _ bn bn]; omega
def yq(i:Nat)(hi:i<=100000):IntKind.i64.wrap ((i:Int)+1)=((i+1:Nat):Int):=by rw[jZ _ bn bn]; omega
def UL(i:Nat)(hi:i<=100000)(h1:1<=i):IntKind.i64.wrap ((i:Int) - 1)=((i - 1:Nat):Int):=by rw[jZ _ bn bn]; omega
def qTb(i:Nat)(hi:i<=100000):IntKind.i64.wrap (2*(i:Int))=((2*i:Nat):Int):=by rw[jZ _ bn bn]; omega
def qWm(i:Nat)(hi:i<=100000):IntKind.i64.wrap ((i:Int)*2)=((2*i:Nat):Int):=by rw[jZ _ bn bn]; omega
section
variable {α:Type} [K:SK α]
abbrev gR(K:SK α)(l:List α):bG:=.cells (bp (rws K l)) 0
abbrev Cn(K:SK α)(l:List α):bm:=bm.mk [gR K l] .nil
structure AG (K:SK α) (n:Nat) (l:List α) (i:Nat) (p:α):Prop where
 get:l[i]?=some p
 lt:i<n
 le:(0:Int)<=((i:Nat):Int)
 row:((bp (rws K l)).drop (i*K.z)).take K.z=bp (K.row p)
 len:(bp (K.row p)).length=K.z
 fit:i*K.z+K.z<=(rws K l).length
def WO(n:Nat)(l:List α)(hl:l.length=n)(i:Nat)(hi:i<n):∃ p,AG K n l i p:=by
 have hp:l[i]?=some (l[i]'bn):=fQ bn;exact⟨_,hp,hi,bn,qMv K l i _ hp,by rw[qV,K.gY],qMT n l hl i hi⟩
def Xw{n:Nat}{l:List α}(hl:l.length=n){i j:Nat}{p q:α}(A:AG K n l i p)(B:AG K n l j q) :
  dm (bp (rws K l)) (i*K.z) (bp (K.row q))=bp (rws K (l.set i q))/\dm (bp (rws K (l.set i q))) (j*K.z) (bp (K.row p))=bp (rws K (Dw l i j))/\j*K.z+K.z<=(rws K (l.set i q)).length:=by
 have a:=A.lt;have b:=B.lt;refine⟨qNL K l i q bn,?_,qMT n _ (by rw[vl]; exact hl) j b⟩;rw[Xj l i j p q A.get B.get];exact qNL K (l.set i q) j p (by rw[vl]; omega)
def qLc(n:Nat)(hn:n<=1000)(a b N:Nat)(aa:a+N<=b)(hb:b+N<=n):∀ (m i:Nat) (l:List α) (h:bm),i+m=N->l.length=n->h.get (.im 0)=some (gR K l) ->
  ca tab.get S K.fS 1 1 [sK K n,kI (a:Int),kI (b:Int),kI (N:Int),kI (i:Int)] h=some (.dq [],[gR K (GZ m (a+i) (b+i) l)])
 |0,i,l,h,hi,hl,U=>by
  have t:¬ (i:Int)<(N:Int):=bn
  have fin:=sP true [] _ rfl U (nH (rws K l) 0);rw[K.CV,tx];simp only[bW,t,fin,GZ,oneOf]
 |m+1,i,l,h,hi,hl,U=>by
  have t:(i:Int)<(N:Int):=bn
  obtain⟨p,A⟩:=WO n l hl (a+i) bn;obtain⟨q,B⟩:=WO n l hl (b+i) bn;obtain⟨s1,s2,s3⟩:=Xw hl A B;have M:(h.put (.im 0) (gR K (l.set (a+i) q))).get (.im 0)=some (gR K (l.set (a+i) q)):=bm.bX U cb;have ab:((h.put (.im 0) (gR K (l.set (a+i) q))).put (.im 0) (gR K (Dw l (a+i) (b+i)))).get (.im 0)=some (gR K (Dw l (a+i) (b+i))):=bm.bX M cb;have ih:=qLc n hn a b N aa hb m (i+1) _ _ bn (by rw[qUJ,hl]) ab;rw[GZ];refine jD ?_ ih;have e1:IntKind.i64.wrap ((a:Int)+(i:Int))=((a+i:Nat):Int):=JC a i bn bn;have e2:IntKind.i64.wrap ((b:Int)+(i:Int))=((b+i:Nat):Int):=JC b i bn bn;have e3:=yq i bn;rw[K.CV,tx];simp only[bW,t,e1,e2,e3,A.lt,A.le,A.row,A.len,A.fit,B.lt,B.le,B.row,B.len,U,s1,s2,s3,M,eV]
def qWP(n:Nat)(hn:n<=1000)(a b N:Nat)(A:a+N<=b)(hb:b+N<=n)(l:List α)(hl:l.length=n):Om K.fS [sK K n,kI (a:Int),kI (b:Int),kI (N:Int),(fF K)] [gR K l]=some (.dq [],[gR K (GZ N a b l)]):=by
 refine(gD (K.nS _ _)).trans ?_;show ca tab.get S K.fS 1 0 [sK K n,kI (a:Int),kI (b:Int),kI (N:Int),(fF K)] (Cn K l)=_;rw[K.Gg,uz];exact qLc n hn a b N A hb N 0 l _ bn hl rfl
def Zt{β:Type}{k:KO β}{h:bm}{d:Nat}(n:Nat)(hn:n<=1000)(a b N:Nat)(A:a+N<=b)(hb:b+N<=n)(l:List α)(hl:l.length=n)(M:h.get (.im 0)=some (gR K l)):bE Om (.v (.c (.func K.fS []))) [sK K n,kI (a:Int),kI (b:Int),kI (N:Int),(fF K)] h d k=k (.dq []) (h.put (.im 0) (gR K (GZ N a b l))) :=
 JJ K.fS (.im 0) [sK K n,kI (a:Int),kI (b:Int),kI (N:Int),(fF K)] _ _ _ _ rfl rfl rfl M (nH _ 0) (nH _ 0) (λ_=>rfl) (qWP n hn a b N A hb l hl)
def qG2(n:Nat)(hn:n<=1000):∀ (f:Nat) (P Q A C:List α) (h:bm),P.length+Q.length<=f->1<=P.length->1<=Q.length->(A++P++Q++C).length=n->h.get (.im 0)=some (gR K (A++P++Q++C)) ->
  ca tab.get S K.fR 1 1 [sK K n,kI ((A.length+P.length:Nat):Int),(fF K),kI (P.length:Int),kI (Q.length:Int)] h=some (.dq [],[gR K (A++Q++P++C)])
 |0,P,Q,A,C,h,hf,hP,hQ,hl,hg=>bn
 |f+1,P,Q,A,C,h,hf,hP,hQ,hl,hg=>by
  have ad:A.length+P.length+Q.length+C.length=n:=by rw[<- hl]; simp only[bV]
  by_cases he:P.length=Q.length
  ·have t:¬ ((P.length:Int)≠(Q.length:Int)):=bn
   have e1:IntKind.i64.wrap (((A.length+P.length:Nat):Int) - (P.length:Int))=((A.length:Nat):Int):=by rw[Ca _ _ bn bn]; congr 1; omega
   have sw:=Xy P Q A [] C he;simp only[fa,fm,gH] at sw;have c:=λ{β:Type} {k:KO β} {d:Nat}=>Zt (k:=k) (d:=d) n hn A.length (A.length+P.length) P.length (cB _) bn _ hl hg
   rw[sw] at c;have fin:=sP true [] _ rfl (bm.bX (o:=gR K (A++Q++P++C)) hg cb) (nH _ 0);rw[K.BV,sn];simp only[bW,he];rw[K.Gh,uA];rw[he] at e1 c;simp only[bW,e1,c,fin,oneOf]
  ·have t:((P.length:Int)≠(Q.length:Int)):=bn
   have t':¬ ((P.length:Int)=(Q.length:Int)):=bn
   by_cases ae:Q.length<P.length
   ·have t2:(Q.length:Int)<(P.length:Int):=bn
    obtain⟨U,M,rfl,h1⟩:∃ U M,P=U++M/\U.length=Q.length:=⟨P.take Q.length,P.drop Q.length,(mI _ _).symm,cM⟩;rw[bV] at hf hP ad he t t' ae t2 ⊢;have aa:=Xy U Q A M C h1;have ea:A++(U++M)++Q++C=A++U++M++Q++C:=bR
    have eb:A++Q++M++U++C=(A++Q)++M++U++C:=bR
    have e1:IntKind.i64.wrap (((A.length+(U.length+M.length):Nat):Int) - ((U.length+M.length:Nat):Int))=((A.length:Nat):Int):=by rw[Ca _ _ bn bn]; congr 1; omega
    have e2:IntKind.i64.wrap (((U.length+M.length:Nat):Int) - (Q.length:Int))=((M.length:Nat):Int):=by rw[Ca _ _ bn bn]; congr 1; omega
    have c:=λ{β:Type} {k:KO β} {d:Nat}=>Zt (k:=k) (d:=d) n hn A.length (A.length+(U.length+M.length)) Q.length bn bn _ hl hg
    rw[ea,show A.length+(U.length+M.length)=A.length+U.length+M.length by omega,<- h1,aa] at c;rw[ea] at hg hl;have ab:(h.put (.im 0) (gR K (A++Q++M++U++C))).get (.im 0)=some (gR K ((A++Q)++M++U++C)):=bm.bX hg cb;have ih:=qG2 n hn f M U (A++Q) C _ bn bn bn (by simp only[bV]; omega) ab;have er:A++Q++U++M++C=A++Q++(U++M)++C:=bR
    rw[er] at ih;refine jD ?_ ih;have em:(A++Q).length+M.length=A.length+(U.length+M.length):=cM
    rw[em,K.BV,sn];rw[show A.length+U.length+M.length=A.length+(U.length+M.length) by omega] at c;rw[h1] at *;simp only[bW,t,t2,e1,e2,c]
   ·have t2:¬ (Q.length:Int)<(P.length:Int):=bn
    obtain⟨Q1,Q2,rfl,h1⟩:∃ Q1 Q2,Q=Q1++Q2/\Q2.length=P.length:=⟨Q.take (Q.length - P.length),Q.drop (Q.length - P.length),(mI _ _).symm,cM⟩;rw[bV] at hf hQ ad he t t' ae t2 ⊢;have aa:=Xy P Q2 A Q1 C h1.symm;have ea:A++P++(Q1++Q2)++C=A++P++Q1++Q2++C:=bR
    have e1:IntKind.i64.wrap (((A.length+P.length:Nat):Int) - (P.length:Int))=((A.length:Nat):Int):=by rw[Ca _ _ bn bn]; congr 1; omega
    have e2:IntKind.i64.wrap (((A.length+P.length:Nat):Int)+((Q1.length+Q2.length:Nat):Int))=((A.length+P.length+(Q1.length+Q2.length):Nat):Int):=JC _ _ bn bn;have e3:IntKind.i64.wrap (((A.length+P.length+(Q1.length+Q2.length):Nat):Int) - (P.length:Int))=((A.length+P.length+Q1.length:Nat):Int):=by rw[Ca _ _ bn bn]; congr 1; omega
    have e4:IntKind.i64.wrap (((Q1.length+Q2.length:Nat):Int) - (P.length:Int))=((Q1.length:Nat):Int):=by rw[Ca _ _ bn bn]; congr 1; omega
    have c:=λ{β:Type} {k:KO β} {d:Nat}=>Zt (k:=k) (d:=d) n hn A.length (A.length+P.length+Q1.length) P.length bn bn _ hl hg
    rw[ea,aa] at c;rw[ea] at hg hl;have eb:A++Q2++Q1++P++C=A++Q2++Q1++(P++C):=bR
    have ab:(h.put (.im 0) (gR K (A++Q2++Q1++P++C))).get (.im 0)=some (gR K (A++Q2++Q1++(P++C))):=by rw[<- eb]; exact bm.bX hg cb
    have ih:=qG2 n hn f Q2 Q1 A (P++C) _ bn bn bn (by simp only[bV]; omega) ab;have er:A++Q1++Q2++(P++C)=A++(Q1++Q2)++P++C:=bR
    rw[er,h1] at ih;refine jD ?_ ih;rw[K.BV,sn];simp only[bW,t,t2,e1,e2,e3,e4,c]
def qQp(n:Nat)(hn:n<=1000)(P Q A C:List α)(M:1<=P.length)(U:1<=Q.length)(hl:(A++P++Q++C).length=n) :
  Om K.fR [sK K n,kI (A.length:Int),kI ((A.length+P.length:Nat):Int),kI ((A.length+P.length+Q.length:Nat):Int),(fF K)] [gR K (A++P++Q++C)]=some (.dq [],[gR K (A++Q++P++C)]):=by
 have aa:A.length+P.length+Q.length+C.length=n:=by rw[<- hl]; simp only[bV]
 refine(gD (K.nR _ _)).trans ?_;show ca tab.get S K.fR 1 0 _ (Cn K (A++P++Q++C))=_;have e1:IntKind.i64.wrap (((A.length+P.length:Nat):Int) - (A.length:Int))=((P.length:Nat):Int):=by rw[Ca _ _ bn bn]; congr 1; omega
 have e2:IntKind.i64.wrap (((A.length+P.length+Q.length:Nat):Int) - ((A.length+P.length:Nat):Int))=((Q.length:Nat):Int):=by rw[Ca _ _ bn bn]; congr 1; omega
 rw[K.Gi,uB];simp only[bW,e1,e2];exact qG2 n hn (P.length+Q.length) P Q A C _ (cB _) M U hl rfl
end
def ZM{α:Type}(A:List α)(x:α)(C:List α):(A++x::C)[A.length]?=some x:=bR
def Oq{α:Type}(A:List α)(x:α)(C:List α)(i:Nat)(h:i=A.length):(A++x::C)[i]?=some x:=by subst h; simp
section
variable {α:Type} [K:SK α]
def FI{n:Nat}{l:List α}(hl:l.length=n){i:Nat}(hi:i<n)(p:α)(hp:l[i]?=some p):AG K n l i p:=by
 obtain⟨q,A⟩:=WO n l hl i hi;have:=A.get;rw[hp] at this;cases this;exact A
def qQe(n:Nat)(hn:n<=1000)(b i0:Nat)(A C:List α)(x:α):∀ (k:Nat) (X1 U:List α) (h:bm),X1.length=k->(A++X1++x::U++C).length=n->Ord (iI K) (X1++U)->(∀ y∈U,(iI K) x y=true)->h.get (.im 0)=some (gR K (A++X1++x::U++C)) ->
  ∃ h' Z,Ord (iI K) Z/\Z.Perm (x::(X1++U))/\h'.get (.im 0)=some (gR K (A++Z++C))/\ca tab.get S K.fI 1 2 [sK K n,kI (A.length:Int),kI (b:Int),(fF K),kI (i0:Int),kI ((A.length+X1.length:Nat):Int)] h=ca tab.get S K.fI 1 3 [sK K n,kI (A.length:Int),kI (b:Int),(fF K),kI (i0:Int)] h'
 |0,X1,U,h,hk,hl,o,hx,hg=>by
  have e:=ku.1 hk;subst e;refine⟨h,x::U,kv.2 ⟨λy hy=>(UZ K) _ _ (hx y hy),o⟩,.refl _,by rw[hg]; simp,?_⟩;have t:¬ (A.length:Int)<(A.length:Int):=bn
  rw[fm,gH,K.BX,sr];simp only[bW,t]
 |k+1,X1,U,h,hk,hl,o,hx,hg=>by
  obtain⟨W,y,rfl⟩:∃ W y,X1=W++[y]:=by
   have:X1≠[]:=λe=>by rw[e] at hk; cases hk
   exact⟨X1.dropLast,X1.getLast this,(Fp this).symm⟩
  have hW:W.length=k:=by rw[bV,gM] at hk; omega
  have ae:A.length+k+1+1+U.length+C.length=n:=by rw[<- hl,<- hW]; simp only[bV,di,fm]; omega
  have ea:A++(W++[y])++x::U++C=(A++W)++y::([]++x::(U++C)):=bR
  rw[ea] at hl hg;have aa:(A++W).length=A.length+k:=by rw[bV,hW]
  have B0:AG K n ((A++W)++y::([]++x::(U++C))) (A.length+k) y:=FI hl bn y (Oq _ _ _ _ aa.symm)
  have B1:AG K n ((A++W)++y::([]++x::(U++C))) (A.length+k+1) x:=FI hl bn x (by
   have:=ZM (A++W++[y]) x (U++C);rw[bV,gM,aa] at this
   rw[<- this]; simp)
  obtain⟨s1,s2,s3⟩:=Xw hl B1 B0;have sw:=qJu (A++W) [] (U++C) y x (Xx _ _ _ _ _);rw[fm,gH,aa] at sw;rw[sw] at s2;have hlen:((A.length+(W++[y]).length:Nat):Int)=((A.length+k+1:Nat):Int):=by rw[bV,gM,hW]; rfl
  have t:(A.length:Int)<((A.length+k+1:Nat):Int):=bn
  have ew:IntKind.i64.wrap (((A.length+k+1:Nat):Int) - 1)=((A.length+k:Nat):Int):=by rw[UL _ bn bn]; rfl
  have ab:=bm.bX (o:=gR K ((A++W++y::([]++x::(U++C))).set (A.length+k+1) y)) hg cb;rw[hlen];cases hb:cX (K.key x) (K.key y)
  ·have ox:∀ z∈W++[y],(iI K) x z=false:=λz hz=>(FV K) z y x (qJ6 (iI K) (FV K) (qMa K) (W++[y]) (iQ.1 o).1 y bR z hz) hb
   have M:=qTu (iI K) (UZ K) (FV K) x (W++[y]) U o ox hx;refine⟨h,W++[y]++x::U,M.ord,M.JX.trans (xL (l₁:=W++[y]++U) (l₂:=[x])),by rw[hg]; simp,?_⟩;rw[K.BX,sr];simp only[bW,t,ew,B0.lt,B0.le,B0.row,B0.len,B1.lt,B1.le,B1.row,B1.len,hg,Jy,JN,hb]
  ·have ad:=bm.bX (o:=gR K ((A++W)++x::([]++y::(U++C)))) ab cb;have eb:(A++W)++x::([]++y::(U++C))=A++W++x::(y::U)++C:=bR
   rw[eb] at ad s2
   obtain⟨h',Z,oZ,pZ,gZ,eZ⟩:=qQe n hn b i0 A C x k W (y::U) _ hW (by rw[<- hl]; simp only[bV,di,fm]; omega) (by have:=o; rw[eH] at this; exact this) (λz hz=>by
    rcases dK.1 hz with rfl|hz
    ·exact hb
    ·exact hx z hz) ad
   refine⟨h',Z,oZ,(by rw[show W++[y]++U=W++y::U by simp]; exact pZ),gZ,?_⟩;rw[<- eZ,hW,K.BX,sr];simp only[bW,t,ew,B0.lt,B0.le,B0.row,B0.len,B1.lt,B1.le,B1.row,B1.len,B1.fit,hg,Jy,JN,hb,s1,s2,s3,ab,eV]
def qLb(n:Nat)(hn:n<=1000)(A D:List α):∀ (C Z:List α) (h:bm),(A++Z++C++D).length=n->Ord (iI K) Z->h.get (.im 0)=some (gR K (A++Z++C++D)) ->
  ∃ U,Ord (iI K) U/\U.Perm (Z++C)/\ca tab.get S K.fI 1 1 [sK K n,kI (A.length:Int),kI ((A.length+Z.length+C.length:Nat):Int),(fF K),kI ((A.length+Z.length:Nat):Int)] h=some (.dq [],[gR K (A++U++D)])
 |[],Z,h,hl,o,hg=>by
  refine⟨Z,o,by rw[fa],?_⟩;rw[fa] at hg;have t:¬ ((A.length+Z.length:Nat):Int)<((A.length+Z.length:Nat):Int):=bn
  have fin:=sP true [] _ rfl hg (nH _ 0);rw[fm,gH,K.BY,ss];simp only[bW,t,fin,oneOf]
 |x::C,Z,h,hl,o,hg=>by
  have aa:A.length+Z.length+(C.length+1)+D.length=n:=by rw[<- hl]; simp only[bV,di]
  have t:((A.length+Z.length:Nat):Int)<((A.length+Z.length+(x::C).length:Nat):Int):=by rw[di]; omega
  have ea:A++Z++x::C++D=A++Z++x::[]++(C++D):=bR
  rw[ea] at hg hl;obtain⟨h',M,oZ,pZ,gZ,eZ⟩:=qQe n hn (A.length+Z.length+(x::C).length) (A.length+Z.length) A (C++D) x Z.length Z [] h rfl hl (by rw[fa]; exact o) (λy hy=>by cases hy) hg;have lZ:M.length=Z.length+1:=by rw[pZ.length_eq,fa,di]
  have eb:A++M++(C++D)=A++M++C++D:=bR
  rw[eb] at gZ;obtain⟨U,o',p',e'⟩:=qLb n hn A D C M h' (by simp only[bV]; omega) oZ gZ;refine⟨U,o',p'.trans ?_,?_⟩
  ·rw[fa] at pZ;exact(pZ.append_right C).trans (vg (a:=x) (l₁:=Z) (l₂:=C)).symm
  ·rw[<- e',K.BY,ss];have ew:=yq (A.length+Z.length) bn;have e1:((A.length+Z.length+(x::C).length:Nat):Int)=((A.length+M.length+C.length:Nat):Int):=by rw[di,lZ]; congr 1; omega
   have e2:((A.length+Z.length+1:Nat):Int)=((A.length+M.length:Nat):Int):=by rw[lZ]; rfl
   rw[qh,oP,bF (cI t),eZ,K.Gp,uH,nz,ew,e1,e2]
def qPV(n:Nat)(hn:n<=1000)(A X D:List α)(hl:(A++X++D).length=n) :
  ∃ Z,Ord (iI K) Z/\Z.Perm X/\Om K.fI [sK K n,kI (A.length:Int),kI ((A.length+X.length:Nat):Int),(fF K)] [gR K (A++X++D)]=some (.dq [],[gR K (A++Z++D)]):=by
 have U:A.length+X.length+D.length=n:=by rw[<- hl]; simp only[bV]
 have M:=yq A.length bn;cases X with
 |nil =>
  refine⟨[],List.Pairwise.nil,.refl _,(gD (K.nI _ _)).trans ?_⟩;show ca tab.get S K.fI 1 0 _ (Cn K (A++[]++D))=_;have t:¬ ((A.length+1:Nat):Int)<(A.length:Int):=bn
  have fin:=sP true [] (gR K (A++[]++D)) rfl (h:=Cn K (A++[]++D)) rfl (nH _ 0);rw[fm,gH,K.C3,tF,nz,M,K.BY,ss];simp only[bW,t,fin,oneOf]
 |cons x C =>
  have ea:A++x::C++D=A++[x]++C++D:=bR
  rw[ea] at hl ⊢;obtain⟨Z,o,p,e⟩:=qLb n hn A D C [x] (Cn K (A++[x]++C++D)) hl (Fo _ _) rfl;refine⟨Z,o,p,(gD (K.nI _ _)).trans ?_⟩;show ca tab.get S K.fI 1 0 _ (Cn K (A++[x]++C++D))=_;rw[K.C3,tF,nz,M];have e1:((A.length+(x::C).length:Nat):Int)=((A.length+[x].length+C.length:Nat):Int):=by rw[di,gM]; congr 1; omega
  rw[e1];exact e
def Vt{β:Type}{k:KO β}{h:bm}{d:Nat}(n a b:Nat)(l l':List α)(hc:Om K.fI [sK K n,kI (a:Int),kI (b:Int),(fF K)] [gR K l]=some (.dq [],[gR K l']))(A:h.get (.im 0)=some (gR K l)):bE Om (.v (.c (.func K.fI []))) [sK K n,kI (a:Int),kI (b:Int),(fF K)] h d k=k (.dq []) (h.put (.im 0) (gR K l')) :=
 JJ K.fI (.im 0) [sK K n,kI (a:Int),kI (b:Int),(fF K)] _ _ _ _ rfl rfl rfl A (nH _ 0) (nH _ 0) (λ_=>rfl) hc
def bs1(n:Nat)(hn:n<=1000)(A C:List α)(x:α):∀ (k:Nat) (U Ym Y2:List α) (h:bm),Ym.length<=k->(A++x::(U++Ym++Y2)++C).length=n->Ord (iI K) (U++Ym++Y2)->(∀ y∈U,(iI K) y x=true)->(∀ y∈Y2,(iI K) y x=false)->h.get (.im 0)=some (gR K (A++x::(U++Ym++Y2)++C)) ->
  ∃ V1 V2,U++Ym++Y2=V1++V2/\(∀ y∈V1,(iI K) y x=true)/\(∀ y∈V2,(iI K) y x=false)/\ca tab.get S K.fM 1 1 [sK K n,kI (A.length:Int),(fF K),kI ((A.length+1+U.length:Nat):Int),kI ((A.length+1+U.length+Ym.length:Nat):Int)] h=ca tab.get S K.fM 1 2 [sK K n,kI (A.length:Int),kI ((A.length+1+V1.length:Nat):Int)] h
 |k,U,[],Y2,h,hk,hl,o,h1,h2,hg=>by
  refine⟨U,Y2,bR,h1,h2,?_⟩;have t:¬ ((A.length+1+U.length:Nat):Int)<((A.length+1+U.length:Nat):Int):=bn
  rw[fm,gH,K.C0,tE];simp only[bW,t]
 |0,U,_::_,Y2,h,hk,hl,o,h1,h2,hg=>by simp at hk
 |k+1,U,u::Ym,Y2,h,hk,hl,o,h1,h2,hg=>by
  generalize hY:u::Ym=M at *;have hM:1<=M.length:=by rw[<- hY]; simp
  have ab:A.length+1+(U.length+M.length+Y2.length)+C.length=n:=by rw[<- hl]; simp only[bV,di]; omega
  obtain⟨j,hj⟩:∃ j,j=(A.length+1+U.length+(A.length+1+U.length+M.length)) / 2:=⟨_,rfl⟩
  have j2:j<A.length+1+U.length+M.length:=bn
  obtain⟨M1,y,M2,e,hm⟩:∃ M1 y M2,M=M1++y::M2/\M1.length=j - (A.length+1+U.length):=by
   refine⟨M.take (j - (A.length+1+U.length)),M[j - (A.length+1+U.length)]'bn,M.drop (j - (A.length+1+U.length)+1),?_,by rw[ji]; omega⟩;rw[<- kV bn,mI]
  subst e;have ea:A++x::(U++(M1++y::M2)++Y2)++C=(A++x::(U++M1))++y::(M2++Y2++C):=bR
  have eb:A++x::(U++(M1++y::M2)++Y2)++C=A++x::(U++(M1++y::M2)++Y2++C):=bR
  have aa:(M1++y::M2).length=M1.length+1+M2.length:=by simp only[bV,di]; omega
  rw[aa] at hk hM ab hj j2 ⊢;have Bx:AG K n (A++x::(U++(M1++y::M2)++Y2)++C) A.length x:=FI hl bn x (by rw[eb]; exact ZM _ _ _);have By:AG K n (A++x::(U++(M1++y::M2)++Y2)++C) j y:=FI hl bn y (by rw[ea]; exact Oq _ _ _ _ (by simp only[bV,di]; omega));have t:((A.length+1+U.length:Nat):Int)<((A.length+1+U.length+(M1.length+1+M2.length):Nat):Int):=bn
  have hf:=λ{β:Type} {h:bm} {k:KO β}=>Xl (β:=β) (h:=h) (k:=k) (A.length+1+U.length) (A.length+1+U.length+(M1.length+1+M2.length)) bn bn
  rw[<- hj] at hf;have o':=o;rw[eH,eH] at o';have o1:=(iQ.1 (iQ.1 o').2.1);have step:ca tab.get S K.fM 1 1 [sK K n,kI (A.length:Int),(fF K),kI ((A.length+1+U.length:Nat):Int),kI ((A.length+1+U.length+(M1.length+1+M2.length):Nat):Int)] h =
    if cX (K.key y) (K.key x)=true then ca tab.get S K.fM 1 1 [sK K n,kI (A.length:Int),(fF K),kI ((j+1:Nat):Int),kI ((A.length+1+U.length+(M1.length+1+M2.length):Nat):Int)] h
    else ca tab.get S K.fM 1 1 [sK K n,kI (A.length:Int),(fF K),kI ((A.length+1+U.length:Nat):Int),kI (j:Int)] h:=by
   have ew:=yq j bn;rw[K.C0,tE,qh,oP,bF (cI t),hf];cases hb:cX (K.key y) (K.key x)
   ·simp only[bW,ew,Bx.lt,Bx.le,Bx.row,Bx.len,By.lt,By.le,By.row,By.len,hg,Jy,JN,hb,gh,fC]
   ·simp only[bW,ew,Bx.lt,Bx.le,Bx.row,Bx.len,By.lt,By.le,By.row,By.len,hg,Jy,JN,hb,fx]
  rw[step];cases hb:cX (K.key y) (K.key x)
  ·rw[bA bu];have ec:U++(M1++y::M2)++Y2=U++M1++(y::M2++Y2):=bR
   rw[ec] at hl hg o ⊢
   obtain⟨V1,V2,q1,q2,q3,q4⟩:=bs1 n hn A C x k U M1 (y::M2++Y2) h bn hl o h1 (λz hz=>by
    rcases dK.1 hz with rfl|hz
    ·exact hb
    ·rcases fb.1 hz with hz|hz
     ·have:=(iQ.1 o1.2.1).1;have oo:(iI K) z y=false:=(kv.1 o1.2.1).1 z (fb.2 (.inl hz));exact(FV K) x y z hb oo
     ·exact h2 z hz) hg
   refine⟨V1,V2,q1,q2,q3,?_⟩;rw[<- q4];have:A.length+1+U.length+M1.length=j:=bn
   rw[this]
  ·rw[bF rfl];have ec:U++(M1++y::M2)++Y2=(U++M1++[y])++M2++Y2:=bR
   rw[ec] at hl hg o ⊢
   obtain⟨V1,V2,q1,q2,q3,q4⟩:=bs1 n hn A C x k (U++M1++[y]) M2 Y2 h bn hl o (λz hz=>by
    rcases fb.1 hz with hz|hz
    ·rcases fb.1 hz with hz|hz
     ·exact h1 z hz
     ·have oo:(iI K) y z=false:=o1.2.2 z hz y bR;cases hc:(iI K) z x
      ·have:=(FV K) x z y hc oo;rw[show(iI K) y x=true from hb] at this; cases this
      ·rfl
    ·rw[fY.1 hz]; exact hb) h2 hg
   refine⟨V1,V2,q1,q2,q3,?_⟩;rw[<- q4];have e1:A.length+1+(U++M1++[y]).length=j+1:=by simp only[bV,gM]; omega
   have e2:j+1+M2.length=A.length+1+U.length+(M1.length+1+M2.length):=bn
   rw[e1,e2]
end
end Go.Proofs.YtnlmlcfipbnpgaaGreatDoor.Ab
