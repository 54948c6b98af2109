/- Own work. Condition: what each theorem names. -/
import Derived.Test.YtnlmlcfipbnpgaaGreatDoorAd
set_option linter.all false
set_option maxRecDepth 100000
open Nat renaming reduceAdd->rA,reduceMul->rB,reduceLT->rC,reduceLeDiff->rD,reduceEqDiff->rE
open Int renaming reduceLT->rF,reduceLE->rG,reduceEq->rH,reduceToNat->rI
open Option renaming some.injEq->rJ,bind_eq_some_iff->rK,bind_eq_bind->rL
namespace Go.AI
open Go.RowKit Go.ChangeShapes Go.WideShapes
abbrev KO(β:Type):=bt->bm->Option β
abbrev KT(β:Type):=bt->bm->Touch->Option β
abbrev LB:=List UInt8
def j9(P:Program):Nat->TypeId->List bL->Prop
 |0,_,_=>False
 |n+1,t,row=>match P.underlying t with
  |some .bool=>∃ b,row=[.bool b]
  |some (.int k)=>∃ x,row=[.int k x]/\(Lit.int k x).wf=true
  |some .string=>∃ s:LB,row=[.str s]/\s.length<=maxLen
  |some (.slice e)=>row=[.bq]\/∃ rows,row=[.slice (P.cellsOf e) false rows]/\rows.length<=maxLen/\∀ r∈rows,j9 P n e r
  |some (.struct A)=>∃ rs:List (List bL),row=rs.flatten/\cS (λ(f:Field) r=>j9 P n f.type r) A.toList rs
  |_=>False
def uP(P:Program):List Field->Nat->Nat->Bool
 |[],o,n=>o==n
 |f::A,o,n=>f.offset==o&&uP P A (o+P.cellsOf f.type) n
def uk(P:Program)(ts:List TypeId):Bool:=ts.all λt=>match P.underlying t with
 |some .bool|some (.int _)|some .string=>true
 |some (.slice e)=>ts.contains e&&Nat.blt 0 (P.cellsOf e)
 |some (.struct A)=>uP P A.toList 0 (P.cellsOf t)&&A.toList.all λf=>ts.contains f.type
 |_=>false
def qMK{α:Type}{p:Nat->α->Prop}:∀ (n:Nat),(∀ i,i<n->∃ a,p i a)->∃ l:List α,l.length=n/\∀ i a,l[i]?=some a->p i a:=by
 intro n
 induction n with
 |zero=>intro _; exact⟨[],rfl,λi r e=>by simp at e⟩
 |succ n U =>
  intro h;obtain⟨l,h1,h2⟩:=U λi hi=>h i bn
  obtain⟨a,ha⟩:=h n bn;refine⟨l++[a],by simp[h1],λi r e=>?_⟩;by_cases hi:i<l.length
  ·rw[j5 hi] at e; exact h2 i r e
  ·have A:i<(l++[a]).length:=(cQ.1 e).1;have M:i=n:=by simp at A; omega
   subst M;rw[kz bn,h1,rS] at e;simp at e; subst e;exact ha
section
variable [Sym] {H:Type} {enc:TypeId×Value->H} {P:Program} {w:World} {spare:Nat->Bool} {held:Bool} {b0:Nat}
def qNz{R:TypeId->List Value->List bL->Prop}(hR:∀ t cs row,R t cs row->cS (eW (allI w)) row cs)(Q:TypeId->List bL->Prop)(U:∀ t cs row,R t cs row->Q t row)(cs:List Value) :
  ∀ (A:List Field) (o:Nat),uP P A o cs.length=true->(∀ f∈A,∃ row,R f.type ((cs.drop f.offset).take (P.cellsOf f.type)) row) ->
  ∃ rs:List (List bL),cS (eW (allI w)) rs.flatten (cs.drop o)/\cS (λ(f:Field) r=>Q f.type r) A rs:=by
 intro A
 induction A with
 |nil =>
  intro o h _;have:o=cs.length:=by simpa [uP] using h
  exact⟨[],by rw[this,vn]; trivial,bB⟩
 |cons f A ih =>
  intro o h M;simp only[uP,fj,beq_iff_eq] at h;obtain⟨rfl,h2⟩:=h;obtain⟨row,gY⟩:=M f bR;obtain⟨rs,h3,h4⟩:=ih _ h2 (λg hg=>M g (by simp[hg]));refine⟨row::rs,?_,U _ _ _ gY,h4⟩;have e:cs.drop f.offset=(cs.drop f.offset).take (P.cellsOf f.type)++cs.drop (f.offset+P.cellsOf f.type):=by
   rw[<- pE]; exact(mI _ _).symm
  rw[vb,e];exact(hR _ _ _ gY).append h3
def qLD{ts:List TypeId}(ag:uk P ts=true):∀ (fuel:Nat) (t:TypeId) (cs:List Value) (x:DataW H×List MemPlace),t∈ts->DataW.trod enc P w 0 spare held fuel t cs=some x ->
  ∃ row,cS (eW (allI w)) row cs/\j9 P fuel t row:=by
 intro fuel
 induction fuel with
 |zero=>intro t cs x _ h; simp[DataW.trod] at h
 |succ n ih =>
  intro t cs x ht h;have hp:=lU.1 ag t ht;cases hu:P.underlying t with
  |none=>rw[hu] at hp; cases hp
  |some u =>
   rw[hu] at hp;cases u with
   |bool =>
    obtain⟨b,rfl,_⟩:=DataW.trod_bool hu h;exact⟨[.bool b],⟨.bool b,bB⟩,by simp only[j9,hu]; exact⟨b,rfl⟩⟩
   |int k =>
    obtain⟨z,rfl,_,hw⟩:=DataW.trod_int hu h;exact⟨[.int k z],⟨.int k z,bB⟩,by simp only[j9,hu]; exact⟨z,rfl,hw⟩⟩
   |string =>
    obtain⟨s,rfl,_,hs⟩:=DataW.trod_string hu h;exact⟨[.str s.data.toList],⟨.str _ _ rfl,bB⟩,by simp only[j9,hu]; exact⟨_,rfl,by simpa using hs⟩⟩
   |slice e =>
    simp only[fj,rQ] at hp;obtain⟨he,ah⟩:=hp;have hc:0<P.cellsOf e:=vp ah
    rcases DataW.trod_slice hu h with ⟨rfl,_⟩|⟨a,len,cap,elems,rest,m,hm,rfl,_,_,ak,al,an,aa,_⟩
    ·exact⟨[.bq],⟨.bq,bB⟩,by simp[j9,hu]⟩
    ·cases hm;have each:∀ i,i<len->∃ row:List bL,∃ cs:List Value,w.cells? 0 (a.add (i*P.cellsOf e)) (P.cellsOf e)=some cs/\cS (eW (allI w)) row cs/\j9 P n e row:=by
      intro i hi;have h1:=aa i hi;have h2:∃ y,elems[i]?=some y:=⟨elems[i]'bn,bR⟩;obtain⟨y,hy⟩:=h2;rw[hy] at h1;obtain⟨cs,c1,c2⟩:=yZ.1 h1;obtain⟨row,r1,r2⟩:=ih e cs y he c2;exact⟨row,cs,c1,r1,r2⟩
     have M:∃ rows:List (List bL),rows.length=len/\∀ i (r:List bL),rows[i]?=some r->∃ cs:List Value,w.cells? 0 (a.add (i*P.cellsOf e)) (P.cellsOf e)=some cs/\cS (eW (allI w)) r cs/\j9 P n e r:=qMK len each;obtain⟨rows,q1,U⟩:=M;refine⟨[.slice (P.cellsOf e) false rows],⟨?_,bB⟩,?_⟩
     ·cases A:rows with
      |nil =>
       rw[A] at q1;have:len=0:=by rw[<- q1]; rfl
       subst this;exact .emp _ _ _ _ cb
      |cons r0 ai =>
       obtain⟨ab,c1,_⟩:=U 0 r0 (by rw[A]; rfl);obtain⟨_,c3,c4⟩:=World.cells?_some c1;have hs:a.spot=none:=by
        have h0:=c4 0 hc;rw[s9] at h0;have e0:(a.add 0).add 0=a:=rfl;rw[e0] at h0;have:∃ v,ab[0]?=some v:=⟨ab[0]'bn,bR⟩;obtain⟨v,hv⟩:=this;rw[hv] at h0;exact qOx h0
       have ea:a=⟨a.block,a.off,none⟩:=by cases a; simp at hs; subst hs; rfl
       rw[<- A];have key:eW (allI w) (.slice (P.cellsOf e) false rows) (.slice (some ⟨a.block,a.off,none⟩) rows.length cap):=by
        refine eW.slice _ false rows a.block a.off cap (λi j=>(((w.cells? 0 (a.add (i*P.cellsOf e)) (P.cellsOf e)).getD [])[j]?).getD .nilIface) cb bn ?_ ?_ ?_
        ·intro i r A;obtain⟨cs,d1,d2,_⟩:=U i r A;rw[d2.length]; exact(World.cells?_some d1).2.1
        ·intro i r j v A hj;obtain⟨cs,d1,d2,_⟩:=U i r A;obtain⟨_,d4,d5⟩:=World.cells?_some d1;obtain⟨b,e1,e2⟩:=d2.get j v hj;have aj:j<P.cellsOf e:=by rw[<- d4]; exact(cQ.1 e1).1
         have:=d5 j aj;rw[ea,Ce,Ce,e1] at this;show w.cell? ⟨a.block,a.off+i*P.cellsOf e+j,none⟩=_;rw[this,d1];simp only[oS,e1]
        ·intro i r j v A hj;obtain⟨cs,d1,d2,_⟩:=U i r A;obtain⟨b,e1,e2⟩:=d2.get j v hj;rw[d1];simp only[oS,e1];exact e2
       rw[q1,<- ea] at key;exact key
     ·simp only[j9,hu];refine .inr ⟨rows,rfl,bn,λr A=>?_⟩;obtain⟨i,hi⟩:=xU.1 A;obtain⟨_,_,_,h3⟩:=U i r hi;exact h3
   |struct fs =>
    simp only[fj] at hp;obtain⟨xs,m,hm,_,hl,ao,hf⟩:=DataW.trod_struct hu h;cases hm;have ad:∀ f∈fs.toList,f.type∈ts:=λf hf=>by simpa using lU.1 hp.2 f hf
    rw[<- hl] at hp
    obtain⟨rs,r1,r2⟩:=qNz (P:=P) (w:=w) (R:=λt cs row=>cS (eW (allI w)) row cs/\j9 P n t row) (λ_ _ _ h=>h.1) (λt row=>j9 P n t row) (λ_ _ _ h=>h.2) cs fs.toList 0 hp.1 (by
     intro f ae;obtain⟨i,hi⟩:=xU.1 ae;have af:fs[i]?=some f:=by simpa using hi
     have h1:=hf i f af;have aq:i<fs.size:=(vd.1 af).1;have h2:xs[i]?=some (xs[i]'bn):=bR
     rw[h2] at h1;obtain⟨row,q1,U⟩:=ih f.type _ _ (ad f ae) h1
     exact⟨row,q1,U⟩)
    rw[eI] at r1;exact⟨rs.flatten,r1,by simp only[j9,hu]; exact⟨rs,rfl,r2⟩⟩
   |_=>cases hp
def qJt{ts:List TypeId}(A:uk P ts=true){t:TypeId}{v:Value}{d:DataW H}{ps:List MemPlace}(ht:t∈ts)(hv:v.cells=#[v])(hd:DataW.Trod enc P w 0 spare held t v d ps) :
  ∃ n row x,row=[x]/\fq qm (allI w) (.pv x) v/\j9 P n t row:=by
 obtain⟨fuel,U⟩:=hd;rw[hv] at U;obtain⟨row,M,r2⟩:=qLD A fuel t _ _ ht U
 match row,M with
 |[x],M=>exact⟨fuel,[x],x,rfl,cD.p _ _ M.1,r2⟩
def qPF{I:eK}:∀ {row:List bL}{cs:List Value},cS (eW I) row cs->cS (cD qm I) (bp row) cs
 |[],[],_=>trivial
 |_::_,_::_,h=>⟨cD.p _ _ h.1,qPF h.2⟩
def qT6{ts:List TypeId}(A:uk P ts=true){t:TypeId}{cs:Array Value}{d:DataW H}{ps:List MemPlace}(ht:t∈ts)(hd:DataW.Trod enc P w 0 spare held t (.agg cs) d ps) :
  ∃ n row,fq qm (allI w) (.v (.agg (bp row))) (.agg cs)/\j9 P n t row:=by
 obtain⟨fuel,M⟩:=hd;obtain⟨row,U,r2⟩:=qLD A fuel t _ _ ht M;exact⟨fuel,row,⟨cs,rfl,qPF U⟩,r2⟩
end
section
variable {β:Type} {O:bD} {h:bm} {d:Nat} {k:KO β}
def bm.push(h:bm)(o:bG):bm:={ h with bY:=h.bY++[o] }
def bm.mA(h:bm)(o:bG):(h.push o).bY.length=h.bY.length+1:=by simp[bm.push]
def bm.wJ(h:bm)(i:Nat)(o:bG):(h.put (.im i) o).bY.length=h.bY.length:=by show(h.bY.set i o).length=_; simp
def bm.OT{h:bm}{i:Nat}{o:bG}(A:h.get (.im i)=some o):i<h.bY.length:=by
 rcases vq i h.bY.length with q|q
 ·exact q
 ·have:h.bY[i]?=none:=by simp; exact q
  have e:(match h.bY[i]? with|some .dead=>none|o=>o)=some o:=A;rw[this] at e; cases e
def bm.zD(h:bm){i:Nat}{o:bG}(hi:i<h.bY.length)(ho:o ≠ .dead):(h.put (.im i) o).get (.im i)=some o:=by
 show(match (h.bY.set i o)[i]? with|some .dead=>none|o=>o)=some o;rw[BO hi];split
 ·rename_i e; cases e; exact absurd rfl ho
 ·rfl
def HG(b sz:Nat)(v:Cell)(rows:List (List bL))(h:bm):Prop :=
 b<=h.bY.length/\((rows=[]/\v = .p .bq)\/(rows≠[]/\∃ n,b<=n/\v = .cf (.im n) 0 rows.length none sz/\h.get (.im n)=some (.cells (bp rows.flatten) 0)))
def HG.nil(b sz:Nat)(h:bm)(hb:b<=h.bY.length):HG b sz (.p .bq) [] h:=⟨hb,.inl ⟨rfl,rfl⟩⟩
def XH{sz:Nat}:∀ {rows:List (List bL)},(∀ r∈rows,r.length=sz)->(bp rows.flatten).length=rows.length*sz:=by
 intro rows;unfold bp;rw[dj]
 induction rows with
 |nil=>intro _; simp
 |cons a r M=>intro A; rw[vb,bV,M (λx hx=>A x (by simp[hx])),A a bR,di,nk,Nat.add_comm]
end
section
variable {β:Type} {O:bD} {h:bm} {d:Nat} {k:KT β}
def qGe(op:jE)(v:bt)(hb:cH .nil op=some (.pure v)):br O op h d k=k v h cj:=by
 show dO (mB op .nil) (λp=>dO (p.exec O d h) λx=>k x.1 x.2.1 x.2.2)=_;rw[zt,hb]; rfl
def qL0(g:FuncId)(A:List bt)(v:bt)(M:iG pT A=true)(ho:O g A []=some (v,[]))(hv:pT v=true):br O (.call (.k (.v (.c (.func g [])))) (A.map .k)) h d k=k v h cj:=by
 obtain⟨a1,a2,a3⟩:=qM3 M;obtain⟨_,_,q3,_⟩:=zq hv;have hb:cH .nil (.call (.k (.v (.c (.func g [])))) (A.map .k))=some (.call g A):=by
  have hm:(A.map X.k).mapM (λx=>X.ev .nil x)=some A:=by
   clear M ho a1 a2 a3
   induction A with
   |nil=>rfl
   |cons a A U=>rw[dr,ek,U]; rfl
  show((A.map X.k).mapM (λx=>X.ev .nil x)).bind (λvs=>some (cA.call g (vs++[])))=_;rw[hm]; simp
 have hc:dE O g A d h=some (v,h,cj):=by
  unfold dE;simp[a1,a2,reach,cw,a3,ho,q3,fu,cj];rfl
 show dO (mB (.call (.k (.v (.c (.func g [])))) (A.map .k)) .nil) (λp=>dO (p.exec O d h) λx=>k x.1 x.2.1 x.2.2)=_;rw[zt,hb];show dO (dE O g A d h) _=_;rw[hc]
end
section
variable {β:Type} {O:bD} {h:bm} {d:Nat} {k:KO β} {kt:KT β}
def qET(op:BinOp)(kd:Nat)(x y c:Cell)(hb:pB op kd x y=some c):bw op kd (.v (.c x)) (.v (.c y)) h k=k (.v (.c c)) h:=by
 show dO (IC op kd x y) (λc=>k (.v (.c c)) h)=_;rw[qMU,hb,nX]
def JR(op:jE)(dM:List Ref)(A:List bG->Option AF)(v:bt)(h':bm)(t:Touch)(hb:cH .nil op=some (.go dM A))(M:fN dM A d h=some (v,h',t)):br O op h d kt=kt v h' t:=by
 show dO (mB op .nil) (λp=>dO (p.exec O d h) λx=>kt x.1 x.2.1 x.2.2)=_;rw[zt,hb];show dO (fN dM A d h) _=_;rw[M,nX]
def qLE(z:List Cell):br O (.alloc z false) h d kt=kt (.v (.c (.ptr (.own d (h.gen d+1)) 0))) (h.own d (h.gen d+1) (.cells z 0)) ⟨[],[.own d],false⟩:=JR _ _ _ _ _ _ rfl rfl
end
noncomputable def RJ(g:FuncId)(F:List bt->Option bt)(S:bD):bD:=λf args A=>bif Nat.beq f g then (match A with
 |[]=>match F args with
  |some v=>some (v,[])
  |none=>S f args []
 |_=>S f args A) else S f args A
def y7(T:FuncId->Option cg)(S S2:bD):Prop:=(∀ f a o r,S2 f a o=some r->r8 S (ca T S) f a o=some r)/\∀ f a o,S2 f a o=none->S f a o=none
def y7.refl(T:FuncId->Option cg)(S:bD):y7 T S S:=⟨λf a o r e=>by show Option.rec (motive:=λ_=>dA) _ some (S f a o)=_; rw[e],λ_ _ _ e=>e⟩
def y7.add{T:FuncId->Option cg}{S S2:bD}(K:y7 T S S2)(g:FuncId)(F:List bt->Option bt)(M:∀ args v,F args=some v->r8 S (ca T S) g args []=some (v,[])):y7 T S (RJ g F S2):=by
 constructor
 ·intro f a o r e;unfold RJ at e;rw[pN] at e;by_cases A:f=g
  ·subst A;rw[cI rfl,iv] at e;split at e
   ·split at e
    ·rename_i v hv;cases e;exact M a v hv
    ·exact K.1 _ _ _ _ e
   ·exact K.1 _ _ _ _ e
  ·rw[de A,iN] at e;exact K.1 _ _ _ _ e
 ·intro f a o e;unfold RJ at e;rw[pN] at e;by_cases A:f=g
  ·subst A;rw[cI rfl,iv] at e;split at e
   ·split at e
    ·cases e
    ·exact K.2 _ _ _ e
   ·exact K.2 _ _ _ e
  ·rw[de A,iN] at e;exact K.2 _ _ _ e
def lB{α β:Type}(o:Option α)(k:α->Option β):Option β:=o.bind k
def pY{β:Type}(o:Option bG)(k:List Cell->Nat->Option β):Option β:=match o with
 |some (.cells cs imm)=>k cs imm
 |_=>none
def uQ{β:Type}(c:Bool)(x:Option β):Option β:=bif c then x else none
@[congr] theorem ON {α β:Type} {o o':Option α} {k:α->Option β} (e:o=o'):lB o k=lB o' k:=by rw[e]
@[congr] theorem OO {β:Type} {o o':Option bG} {k:List Cell->Nat->Option β} (e:o=o'):pY o k=pY o' k:=by rw[e]
@[congr] theorem SL {β:Type} {c c':Bool} {x:Option β} (e:c=c'):uQ c x=uQ c' x:=by rw[e]
section
variable {β:Type} {O:bD} {h:bm} {d:Nat} {k:KO β}
@[congr] theorem RP {op A:jE} (e:op=A):bQ O op h d k=bQ O A h d k:=by rw[e]
@[congr] theorem N0 {op:BinOp} {kd:Nat} {a A b b':bt} (e:a=A) (f:b=b'):bw op kd a b h k=bw op kd A b' h k:=by rw[e,f]
@[congr] theorem GN {K:IntKind} {a A:bt} (e:a=A):gI K a h k=gI K A h k:=by rw[e]
@[congr] theorem Js {g:Bool} {n:Nat} {a A:bt} (e:a=A):bz g n a h k=bz g n A h k:=by rw[e]
@[congr] theorem GQ {n:Nat} {a A v M:bt} (e:a=A) (f:v=M):bK n a v h k=bK n A M h k:=by rw[e,f]
@[congr] theorem GW {o:Nat} {a A:bt} (e:a=A):bC o a h k=bC o A h k:=by rw[e]
@[congr] theorem GU {sz:Nat} {a A i M:bt} (e:a=A) (f:i=M):bU sz a i h k=bU sz A M h k:=by rw[e,f]
@[congr] theorem GR {a A i M:bt} (e:a=A) (f:i=M):eX a i h k=eX A M h k:=by rw[e,f]
@[congr] theorem NZ {a A:bt} {i:Nat} (e:a=A):fV a i h k=fV A i h k:=by rw[e]
@[congr] theorem Ju {g:bt} {M A:List bt} (e:M=A):bE O g M h d k=bE O g A h d k:=by rw[e]
@[congr] theorem NY {kd:Nat} {a A:bt} (e:a=A):cP O kd a h d k=cP O kd A h d k:=by rw[e]
@[congr] theorem RQ {c c':bt} {x y:Option β} (e:c=c'):cY c x y=cY c' x y:=by rw[e]
@[congr 100] theorem GV {c c':bt} {w:Bool} {A:(KO β)->Option β} (e:c=c'):bo c w A h k=bo c' w A h k:=by rw[e]
@[congr] theorem Jt {g:Bool} {n:Nat} {a A:bt} {k:cN->dA} (e:a=A):cJ g n a h k=cJ g n A h k:=by rw[e]
@[congr] theorem Jx {a A:bt} {k:cN->Option β} (e:a=A):bI a k=bI A k:=by rw[e]
def qMt(sz:Nat)(t:Bool)(rows:List (List bL))(i:Int):bU sz (j7 sz t rows) (kI i) h k=uQ (decide (0<=i)) (lB rows[i.toNat]? λrow=>k (.v (.c (.p (.dc row 0)))) h):=by
 by_cases hi:0<=i
 ·obtain⟨n,rfl⟩:∃ n:Nat,i=n:=⟨i.toNat,bn⟩;rw[cI hi];show(bif Nat.beq sz sz then dO (lC rows n) _ else _)=lB rows[(n:Int).toNat]? _;rw[pN,cI rfl,AW,oJ];unfold lB;cases rows[n]? <;> rfl
 ·rw[de hi];obtain⟨n,rfl⟩:∃ n:Nat,i=Int.negSucc n:=⟨(-i-1).toNat,bn⟩;rfl
def qGY(sz:Nat)(r:Ref)(rows:List (List bL))(i:Int):bU sz (.v (.c (.gm sz rows r))) (kI i) h k=uQ (decide (0<=i)) (lB rows[i.toNat]? λrow=>k (.v (.c (.p (.dc row 0)))) h):=by
 by_cases hi:0<=i
 ·obtain⟨n,rfl⟩:∃ n:Nat,i=n:=⟨i.toNat,bn⟩;rw[cI hi];show(bif Nat.beq sz sz then dO (lC rows n) _ else _)=lB rows[(n:Int).toNat]? _;rw[pN,cI rfl,AW,oJ];unfold lB;cases rows[n]? <;> rfl
 ·rw[de hi];obtain⟨n,rfl⟩:∃ n:Nat,i=Int.negSucc n:=⟨(-i-1).toNat,bn⟩;rfl
def qKH(sz:Nat)(r:Ref)(off len:Nat)(cap:Option Nat)(i:Int):bU sz (.v (.c (.cf r off len cap sz))) (kI i) h k=uQ (decide (0<=i)&&decide (i.toNat<len)) (k (.v (.c (.ptr r (off+i.toNat*sz)))) h):=by
 by_cases hi:0<=i
 ·obtain⟨n,rfl⟩:∃ n:Nat,i=n:=⟨i.toNat,bn⟩;rw[cI hi];show(bif Nat.beq sz sz&&Nat.blt n len then _ else _)=uQ (true&&decide ((n:Int).toNat<len)) _;rw[pN,cI rfl,oJ];have:Nat.blt n len=decide (n<len):=by
   by_cases h:n<len
   ·rw[cI h]; exact oK h
   ·rw[de h]; exact xS.2 λe=>h (vp e)
  rw[this]; rfl
 ·rw[de hi];obtain⟨n,rfl⟩:∃ n:Nat,i=Int.negSucc n:=⟨(-i-1).toNat,bn⟩;rfl
def qDD(n off:Nat)(row:List bL):bz false n (.v (.c (.p (.dc row off)))) h k=lB row[off]? λv=>k (.v (.c (.p v))) h:=by
 show dO (lC (bp row) off) _=_;rw[AW];show dO ((row.map Cell.p)[off]?) _=_;rw[dP];cases row[off]? <;> rfl
def qCU(n:Nat)(row:List bL)(hn:row.length=n):bz true n (.v (.c (.p (.dc row 0)))) h k=k (.v (.agg (bp row))) h:=by
 show(bif Nat.beq (fw (qc (qo (bp row) 0) n)) n then _ else _)=_;rw[pU,Sn,So,eI];have:(bp row).take n=bp row:=gz (by simp[bp,hn]);rw[this,show(bp row).length=n by simp[bp,hn],pN,cI rfl]; rfl
def qOS(n off:Nat)(r:Ref):bz false n (.v (.c (.ptr r off))) h k=pY (h.get r) λcs _=>lB cs[off]? λc=>k (.v (.c c)) h:=by
 show dO (qG h r) (λo=>cellsOf o λcs _=>mT false n cs off λv=>k v h)=_;rw[FL];cases h.get r with
 |none=>rfl
 |some o=>cases o with
  |cells cs imm =>
   show dO (lC cs off) _=lB cs[off]? _;rw[AW];cases cs[off]? <;> rfl
  |_=>rfl
def qMI(n off:Nat)(r:Ref):bz true n (.v (.c (.ptr r off))) h k=pY (h.get r) λcs _=>uQ (decide (((cs.drop off).take n).length=n)) (k (.v (.agg ((cs.drop off).take n))) h):=by
 show dO (qG h r) (λo=>cellsOf o λcs _=>mT true n cs off λv=>k v h)=_;rw[FL];cases h.get r with
 |none=>rfl
 |some o=>cases o with
  |cells cs imm =>
   show(bif Nat.beq (fw (qc (qo cs off) n)) n then _ else _)=_;rw[pU,Sn,So,pN]; rfl
  |_=>rfl
def qTA(n off:Nat)(r:Ref){k:cN->dA}:cJ true n (.v (.c (.ptr r off))) h k=pY (h.get r) λcs _=>uQ (decide (((cs.drop off).take n).length=n)) (k (.agg ((cs.drop off).take n))):=by
 show dO (qG h r) (λo=>cellsOf o λcs _=>mT true n cs off λv=>bI v k)=_;rw[FL];cases h.get r with
 |none=>rfl
 |some o=>cases o with
  |cells cs imm =>
   show(bif Nat.beq (fw (qc (qo cs off) n)) n then _ else _)=_;rw[pU,Sn,So,pN]; rfl
  |_=>rfl
def dm(cs:List Cell)(off:Nat)(x:List Cell):List Cell:=eY cs off x
def yf(cs x:List Cell)(e:x.length=cs.length):dm cs 0 x=x:=by
 unfold dm eY; simp[e]
def qVh(n off:Nat)(r:Ref)(x:cN):bK n (.v (.c (.ptr r off))) (.v x) h k=pY (h.get r) λcs imm=>uQ (decide (imm<=off)&&(decide (x.cells.length=n)&&decide (off+n<=cs.length))) (k .undef (h.put r (.cells (dm cs off x.cells) imm))):=by
 show dO (qG h r) (λo=>cellsOf o λcs imm=>bif Nat.ble imm off&&(Nat.beq (fw x.cells) n&&Nat.ble (Nat.add off n) (fw cs)) then _ else _)=_;rw[FL];cases h.get r with
 |none=>rfl
 |some o=>cases o with
  |cells cs imm =>
   show(bif Nat.ble imm off&&(Nat.beq (fw x.cells) n&&Nat.ble (off+n) (fw cs)) then _ else _)=_;rw[pU,pU,Oo,Oo,pN]; rfl
  |_=>rfl
def qXs(vs:List cN)(i:Nat):fV (.dq vs) i h k=lB vs[i]? λv=>k (.v v) h:=by
 show dO (lC vs i) _=_;rw[AW];cases vs[i]? <;> rfl
def qWg(kd:Nat)(a b:LB):bw .add kd (kS a) (kS b) h k=uQ (decide (a.length+b.length<=4611686018427387904)) (k (kS (a++b)) h):=by
 show dO (bif Nat.ble (Nat.add (fw a) (fw b)) 4611686018427387904 then _ else _) _=_;rw[pU,pU,Oo];show dO (bif decide (a.length+b.length<=4611686018427387904) then _ else _) _=_;cases decide (a.length+b.length<=4611686018427387904) <;> rfl
def qWt(kd:Nat)(a b:LB):bw .lss kd (kS a) (kS b) h k=k (kB (cX a b)) h:=qET _ _ _ _ _ (by rfl)
def qWo(kd:Nat)(a b:LB):bw .gtr kd (kS a) (kS b) h k=k (kB (!(cX a b||a==b))) h:=qET _ _ _ _ _ (by rfl)
def qES(z:List Cell)(ps:List (Nat×Nat×X))(qs:List (Nat×Nat×cN))(M:(ps.mapM λ(p:Nat×Nat×X)=>match p.2.2.ev .nil with|some (.v v)=>some (p.1,p.2.1,v)|_=>none)=some qs):bQ O (.build z ps) h d k=lB (iu z qs) λcs=>k (.v (.agg cs)) h:=by
 cases U:iu z qs with
 |none =>
  show Ck O _ .nil h d k=_;rw[CK];have:cH .nil (.build z ps)=none:=by
   show(do let A <- ps.mapM (λ(p:Nat×Nat×X)=>match p.2.2.ev .nil with|some (.v v)=>some (p.1,p.2.1,v)|_=>none); let cs <- iu z A; pure (cA.pure (.v (.agg cs))))=none;rw[M]; simp[U]
  unfold ib; rw[this]; rfl
 |some cs =>
  refine DB z ps cs ?_;show(do let A <- ps.mapM (λ(p:Nat×Nat×X)=>match p.2.2.ev .nil with|some (.v v)=>some (p.1,p.2.1,v)|_=>none); let cs <- iu z A; pure (cA.pure (.v (.agg cs))))=_;rw[M]; simp[U]
def qSM(z:List Cell):bQ O (.build z []) h d k=k (.v (.agg z)) h:=qES z [] [] rfl
def qSL(z:List Cell)(o n:Nat)(v:cN):bQ O (.build z [(o,n,.k (.v v))]) h d k=lB (iu z [(o,n,v)]) λcs=>k (.v (.agg cs)) h:=qES _ _ _ rfl
def qTE(z:List Cell)(o n A M:Nat)(v v2:cN):bQ O (.build z [(o,n,.k (.v v)),(A,M,.k (.v v2))]) h d k=lB (iu z [(o,n,v),(A,M,v2)]) λcs=>k (.v (.agg cs)) h:=qES _ _ _ rfl
def qHx(l:List bL):tY (bp l)=some l:=by
 unfold tY bp
 induction l with
 |nil=>rfl
 |cons a r A=>rw[dr,ek,A]; rfl
def qQj(sz:Nat)(z:List Cell):bQ O (.cm sz 0 z [] false) h d k=k (j7 sz true []) h:=qg _ _ rfl
def qIE(sz:Nat)(z:List Cell)(r:List bL)(hz:z.length=sz)(A:r.length=sz):bQ O (.cm sz 1 z [(0,.k (.v (.agg (bp r))))] false) h d k=k (j7 sz true [r]) h:=by
 refine qg _ _ ?_;subst hz;have U:iu (rep 1 z) [(0*z.length,z.length,cN.agg (bp r))]=some (bp r):=by
  have M:(cN.agg (bp r)).cells.length=z.length:=by show(bp r).length=_; unfold bp; rw[dj,A]
  have l2:(rep 1 z).length=z.length:=by simp[rep]
  simp only[iu,M,l2,s9,nY,cB,and_self,fx];show some (eY (rep 1 z) 0 (bp r))=_;have l3:(bp r).length=z.length:=M;simp[eY,l3,rep]
 have e2:chunk z.length 1 (bp r)=some [r]:=by
  show(do let row <- tY ((bp r).take z.length); if row.length=z.length then pure (row::(<- chunk z.length 0 ((bp r).drop z.length))) else none)=_;have:(bp r).take z.length=bp r:=gz (by simp[bp,A]);rw[this,qHx];simp[A,chunk]
 simp only[cH,ek,gg,X.ev,gC,rL,eG,U,e2,gh,fC]
def Yq(l:List bL):iG DW (bp l)=true:=by
 unfold bp
 induction l with
 |nil=>rfl
 |cons a r A=>exact A
def ZD(gU:Bool)(x:bL):bS gU 0 [.c (.p x)] h=some (.v (.c (.p x)),[]):=mz _ _ rfl
def qWc(gU:Bool)(r:List bL):bS gU 0 [.agg (bp r)] h=some (.v (.agg (bp r)),[]):=mz _ _ (by show(bif iG DW (bp r) then true else false)=true; rw[Yq]; rfl)
end
def qQD{α β:Type}(a:α)(k:α->Option β):lB (some a) k=k a:=rfl
def qSK{α A β:Type}(f:α->A)(o:Option α)(k:A->Option β):lB (o.map f) k=lB o λa=>k (f a):=by cases o <;> rfl
def qNc{β:Type}(cs:List Cell)(imm:Nat)(k:List Cell->Nat->Option β):pY (some (.cells cs imm)) k=k cs imm:=rfl
def qSH{β:Type}(x:Option β):uQ true x=x:=rfl
def qNZ(row:List bL)(i:Nat):(bp row)[i]?=(row[i]?).map .p:=by unfold bp; rw[dP]
def qV(row:List bL):(bp row).length=row.length:=by unfold bp; rw[dj]
def qbd(n:Nat):decide ((0:Int)<=(n:Int))=true:=cI bn
def Vd(h:bm)(d g:Nat)(cs:List Cell)(imm:Nat)(hd:d+1<1048576):(h.own d g (.cells cs imm)).get (.own d g)=some (.cells cs imm):=bm.cC h d g _ hd cb
def ex:=eU @nz<|eU @FP<|eU @XW<|eU @vG<|eU @XA<|eU @qh<|eU @zc<|eU @qK6<|eU @qGk<|eU @Yl<|eU @qPK<|eU @qWg<|eU @qWt<|eU @qWo<|eU @oc<|eU @mN<|eU @CO<|eU @XT<|eU @XO<|eU @Ci<|eU @Yt<|eU @UJ<|eU @zp<|eU @zb<|eU @oW<|eU @qTU<|eU @ZQ<|eU @FQ<|@gV
def exM:=eU @qMt<|eU @qKH<|eU @qDD<|eU @qOS<|eU @qMI<|eU @qTA<|eU @qVh<|eU @qHZ<|eU @qLn<|eU @qXs<|eU @He<|eU @qQD<|eU @qNc<|eU @qSH<|eU @qNZ<|eU @qV<|eU @qbd<|eU @bm.rf<|eU @Vd<|eU @bm.bN<|@bm.zx
def exF:=eU @ZD<|eU @qWc<|@yf
noncomputable def gv(p:Bool)(v:bt):bt:=bif p then v else .undef
def qa8(v:bt):gv true v=v:=rfl
def qa9(v:bt):gv false v = .undef:=rfl
def qXz(p q:Bool)(v:bt):gv p (gv q v)=gv (p&&q) v:=by cases p <;> rfl
section
variable {β:Type} {O:bD} {h:bm} {d:Nat} {k:KO β}
def g_t(c:Bool)(v:bt):bo (kB c) true (λA=>A v h) h k=k (gv c v) h:=by cases c <;> rfl
def g_f(c:Bool)(v:bt):bo (kB c) false (λA=>A v h) h k=k (gv (!c) v) h:=by cases c <;> rfl
def qba(p c:Bool)(v:bt):bo (gv p (kB c)) true (λA=>A v h) h k=k (gv (p&&c) v) h:=by cases p <;> cases c <;> rfl
@[congr] theorem Yy {c c':Bool} {M A:(KO β)->Option β} (e:c=c') (f:c'=true->∀ U,M U=A U):bo (kB c) true M h k=bo (kB c') true A h k:=by
 subst e; cases c
 ·rfl
 ·rw[show M=A from funext (f rfl)]
@[congr] theorem Yz {c c':Bool} {M A:(KO β)->Option β} (e:c=c') (f:c'=false->∀ U,M U=A U):bo (kB c) false M h k=bo (kB c') false A h k:=by
 subst e; cases c
 ·rw[show M=A from funext (f rfl)]
 ·rfl
@[congr] theorem VY {p U c c':Bool} {M A:(KO β)->Option β} (e0:p=U) (e:c=c') (f:U=true->c'=true->∀ kk,M kk=A kk):bo (gv p (kB c)) true M h k=bo (gv U (kB c')) true A h k:=by
 subst e0; subst e; cases p <;> cases c
 ·rfl
 ·rfl
 ·rfl
 ·rw[show M=A from funext (f rfl rfl)]
@[congr] theorem VZ {p U c c':Bool} {M A:(KO β)->Option β} (e0:p=U) (e:c=c') (f:U=true->c'=false->∀ kk,M kk=A kk):bo (gv p (kB c)) false M h k=bo (gv U (kB c')) false A h k:=by
 subst e0; subst e; cases p <;> cases c
 ·rfl
 ·rfl
 ·rw[show M=A from funext (f rfl rfl)]
 ·rfl
@[congr 2000] theorem VX {c c':Bool} {M A:(KO β)->Option β} (e:c=c') (f:c'=false->∀ U,M U=A U):bo (kB (!c)) true M h k=bo (kB (!c')) true A h k:=by
 subst e; cases c
 all_goals first|rfl|rw[show M=A from funext (f rfl)]
@[congr 2000] theorem V0 {c c':Bool} {M A:(KO β)->Option β} (e:c=c') (f:c'=true->∀ U,M U=A U):bo (kB (!c)) false M h k=bo (kB (!c')) false A h k:=by
 subst e; cases c
 all_goals first|rfl|rw[show M=A from funext (f rfl)]
@[congr 2000] theorem Sz {p U c c':Bool} {M A:(KO β)->Option β} (e0:p=U) (e:c=c') (f:U=true->c'=false->∀ kk,M kk=A kk):bo (gv p (kB (!c))) true M h k=bo (gv U (kB (!c'))) true A h k:=by
 subst e0; subst e; cases p <;> cases c
 all_goals first|rfl|rw[show M=A from funext (f rfl rfl)]
@[congr 2000] theorem SA {p U c c':Bool} {M A:(KO β)->Option β} (e0:p=U) (e:c=c') (f:U=true->c'=true->∀ kk,M kk=A kk):bo (gv p (kB (!c))) false M h k=bo (gv U (kB (!c'))) false A h k:=by
 subst e0; subst e; cases p <;> cases c
 all_goals first|rfl|rw[show M=A from funext (f rfl rfl)]
@[congr 1500] theorem V8 {a U b b' c c':Bool} {M A:(KO β)->Option β} (e0:a=U) (e1:b=b') (e:c=c') (f:U=true->b'=true->c'=true->∀ kk,M kk=A kk):bo (gv (a&&b) (kB c)) true M h k=bo (gv (U&&b') (kB c')) true A h k:=by
 subst e0; subst e1; subst e; cases a <;> cases b <;> cases c
 all_goals first|rfl|rw[show M=A from funext (f rfl rfl rfl)]
@[congr 1500] theorem V9 {a U b b' c c':Bool} {M A:(KO β)->Option β} (e0:a=U) (e1:b=b') (e:c=c') (f:U=true->b'=true->c'=false->∀ kk,M kk=A kk):bo (gv (a&&b) (kB c)) false M h k=bo (gv (U&&b') (kB c')) false A h k:=by
 subst e0; subst e1; subst e; cases a <;> cases b <;> cases c
 all_goals first|rfl|rw[show M=A from funext (f rfl rfl rfl)]
@[congr 3000] theorem SB {a U b b' c c':Bool} {M A:(KO β)->Option β} (e0:a=U) (e1:b=b') (e:c=c') (f:U=true->b'=true->c'=false->∀ kk,M kk=A kk):bo (gv (a&&b) (kB (!c))) true M h k=bo (gv (U&&b') (kB (!c'))) true A h k:=by
 subst e0; subst e1; subst e; cases a <;> cases b <;> cases c
 all_goals first|rfl|rw[show M=A from funext (f rfl rfl rfl)]
@[congr 3000] theorem SD {a U b b' c c':Bool} {M A:(KO β)->Option β} (e0:a=U) (e1:b=b') (e:c=c') (f:U=true->b'=true->c'=true->∀ kk,M kk=A kk):bo (gv (a&&b) (kB (!c))) false M h k=bo (gv (U&&b') (kB (!c'))) false A h k:=by
 subst e0; subst e1; subst e; cases a <;> cases b <;> cases c
 all_goals first|rfl|rw[show M=A from funext (f rfl rfl rfl)]
def qWv(b c:Bool):bQ O (.pick (.k (kB b)) (.k (gv b (kB c))) (.k (kB false))) h d k=k (kB (b&&c)) h:=by cases b <;> rfl
def qXh(b c:Bool):bQ O (.pick (.k (kB b)) (.k (kB true)) (.k (gv (!b) (kB c)))) h d k=k (kB (b||c)) h:=by cases b <;> rfl
def qVw(b c:Bool):bQ O (.pick (.k (kB (!b))) (.k (kB true)) (.k (gv b (kB c)))) h d k=k (kB (!b||c)) h:=by cases b <;> rfl
def qXy(v:cN):bQ O (.box (.k (.v v)) false) h d k=k (.v (.c (.ptr (.own d (h.gen d+1)) 0))) (h.own d (h.gen d+1) (.cells v.cells 0)):=rfl
def qLy(r:Ref)(o:Nat):bQ O (.cO (.k (.v (.c (.ptr r o))))) h d k=k (.v (.c (.ptr r o))) h:=qg _ _ rfl
def kO(o:bG):Prop:=o.refs=[]/\∀ σ,o.eB σ=o
def nH(r:List bL)(imm:Nat):kO (.cells (bp r) imm):=by
 constructor
 ·show(bp r).flatMap Cell.refs=[]
  induction r with
  |nil=>rfl
  |cons a r A=>exact A
 ·intro σ;show bG.cells ((bp r).map (Cell.eB σ)) imm=_
  congr 1
  induction r with
  |nil=>rfl
  |cons a r A=>show Cell.p a::(bp r).map (Cell.eB σ)=_; rw[A]; rfl
def ZK{ps:List bt}(hp:iG pT ps=true):ps.map bt.strip=ps/\ps.flatMap bt.refs=[]/\∀ σ,ps.map (bt.eB σ)=ps:=by
 letI:Sym:=⟨λ_=>0⟩
 induction ps with
 |nil=>exact⟨rfl,rfl,λ_=>rfl⟩
 |cons a ps M =>
  have e:(bif pT a then iG pT ps else false)=true:=hp;cases A:pT a with
  |false=>rw[A] at e; cases e
  |true =>
   rw[A] at e;obtain⟨i1,i2,i3⟩:=M e;obtain⟨q1,U,q3,_⟩:=zq A;refine⟨?_,?_,λσ=>?_⟩
   ·rw[dr,i1,U]
   ·rw[eJ,i2,q1]; rfl
   ·rw[dr,i3,q3]
def ny(g:FuncId)(r:Ref)(off:Nat)(A M:List bt)(o o':bG)(v:bt)(h1:iG pT A=true)(h2:iG pT M=true)(hg:h.get r=some o)(ho:kO o)(U:kO o')(hv:pT v=true)
  (hc:O g (A ++ .v (.c (.ptr (.im 0) off))::M) [o]=some (v,[o'])):bE O (.v (.c (.func g []))) (A ++ .v (.c (.ptr r off))::M) h d k=k v (h.put r o'):=by
 letI:Sym:=⟨λ_=>0⟩
 show mG O g (A ++ .v (.c (.ptr r off))::M) d h k=_;rw[Ov];obtain⟨a1,a2,a3⟩:=ZK h1;obtain⟨b1,b2,b3⟩:=ZK h2;obtain⟨_,_,q3,_⟩:=zq hv;have e1:(A ++ .v (.c (.ptr r off))::M).map bt.strip=A ++ .v (.c (.ptr r off))::M:=by
  rw[gG,dr,a1,b1]; rfl
 have e2:(A ++ .v (.c (.ptr r off))::M).flatMap bt.refs=[r]:=by
  rw[xR,eJ,a2,b2]; rfl
 have e3:reach h cw [r] []=[r]:=by
  show reach h 400 [r] []=[r];unfold reach;rw[show([]:List Ref).contains r=false from rfl,iN,hg];dsimp only;rw[ho.1];simp[reach]
 have e4:(A ++ .v (.c (.ptr r off))::M).map (bt.eB (iU [r]))=A ++ .v (.c (.ptr (.im 0) off))::M:=by
  rw[gG,dr,a3,b3];have:iU [r] r=some (.im 0):=by simp[iU,idx]
  show A++bt.v (.c (match iU [r] r with|some s=>.ptr s off|none=>.jd))::M=_;rw[this]
 have:dE O g (A ++ .v (.c (.ptr r off))::M) d h=some (v,h.put r o',{ rd:=(([r]:List Ref)++([o]:List bG).flatMap bG.refs++[r]).map Ref.site,wr:=([r]:List Ref).map Ref.site++(List.range ([]:List bG).length).map (λj=>Site.im (h.bY.length+j)),oU:=Nat.blt 0 ([]:List bG).length }):=by
  unfold dE;simp only[e1,e2,e3,JD,hg,iO,e4,dr,kL,ho.2,hc,U.2,q3,di,fm,Nat.lt_irrefl,fC,List.take,List.drop,fu]
 rw[this]; rfl
def sP(gU:Bool)(vs:List cN)(o:bG)(hv:iG ld vs=true)(A:h.get (.im 0)=some o)(ho:kO o):bS gU 1 vs h=some (oneOf vs,[o]):=by
 letI:Sym:=⟨λ_=>0⟩
 show qH gU vs h 1=_;obtain⟨q1,q2,q3,M⟩:=zq (XJ hv);unfold qH;have U:(if gU then iF h (oneOf vs) else some (oneOf vs,[]))=some (oneOf vs,[]):=by cases gU <;> simp[M]
 rw[show bY 1=[Ref.im 0] from rfl];simp[U,settle,A,ho.1,q1,q3,reach,cw,ho.2]
end
def qNV(h:bm)(i:Nat)(cs:List Cell)(imm:Nat)(hs:(h.get (.im i)).isSome=true):(h.put (.im i) (.cells cs imm)).get (.im i)=some (.cells cs imm):=by
 obtain⟨o,ho⟩:=Option.isSome_iff_exists.1 hs;exact bm.zD h (bm.OT ho) cb
def qIZ(h:bm)(i:Nat)(o:bG)(d g:Nat):(h.put (.im i) o).get (.own d g)=h.get (.own d g):=rfl
def qU8(l:List bG)(d:Nat):(bm.mk l .nil).gen d=0:=rfl
noncomputable def rZ(o:Option bG):Bool:=match o with
 |some (.cells cs _)=>iG DW cs
 |_=>false
def qN4(imm:Nat):rZ (some (.cells [] imm))=true:=rfl
def qLq(x:bL)(l:List Cell)(imm:Nat):rZ (some (.cells (.p x::l) imm))=rZ (some (.cells l imm)):=rfl
def qJ4:∀ {cs:List Cell},iG DW cs=true->∃ r,cs=bp r
 |[],_=>⟨[],rfl⟩
 |.p x::cs,h=>by
  obtain⟨r,e⟩:=qJ4 (cs:=cs) h;exact⟨x::r,by rw[e]; rfl⟩
 |.ptr .. :: _,h=>by cases h
 |.cf .. :: _,h=>by cases h
  |.func .. :: _,h=>by cases h
 |.gm .. :: _,h=>by cases h
 |.jd::_,h=>by cases h
def qEn{h:bm}(gU:Bool)(vs:List cN)(hv:iG ld vs=true)(hp:rZ (h.get (.im 0))=true):bS gU 1 vs h=some (oneOf vs,[(h.get (.im 0)).getD .dead]):=by
 cases ho:h.get (.im 0) with
 |none=>rw[ho] at hp; cases hp
 |some o=>cases o with
  |cells cs imm =>
   rw[ho] at hp;obtain⟨r,rfl⟩:=qJ4 (show iG DW cs=true from hp);exact sP gU vs _ hv ho (nH r imm)
  |_=>rw[ho] at hp; cases hp
def exQ:=eU (tW (∀ (h:bm)(gU:Bool)(x:bL),rZ (h.get (.im 0))=true->bS gU 1 [.c (.p x)] h=some (.v (.c (.p x)),[(h.get (.im 0)).getD .dead])) (λ_ gU x hp=>qEn gU _ rfl hp))<|eU (tW (∀ (h:bm)(gU:Bool),rZ (h.get (.im 0))=true->bS gU 1 [] h=some (.dq [],[(h.get (.im 0)).getD .dead])) (λ_ gU hp=>qEn gU _ rfl hp))<|eU @qN4<|eU @qLq<|(tW (∀ o d:bG,(some o).getD d=o) (λ_ _=>rfl))
def qPs{α:Type}(p:α->Bool):iG p []=true:=rfl
def qHq{α:Type}(p:α->Bool)(a:α)(l:List α):iG p (a::l)=(p a&&iG p l):=by show(bif p a then iG p l else false)=_; cases p a <;> rfl
def qP8(r:List bL):pT (.v (.agg (bp r)))=true:=Yq r
def qXZ(x:bL):pT (.v (.c (.p x)))=true:=rfl
def qWS(l:List cN):pT (.dq l)=iG ld l:=rfl
def qUg(x:bL):ld (.c (.p x))=true:=rfl
def qQf(r:List bL):ld (.agg (bp r))=true:=Yq r
def jr:=eU @qPs<|eU @qHq<|eU @qP8<|eU @qXZ<|eU @qWS<|eU @qUg<|eU @qQf<|(tW ((true&&true)=true) rfl)
def qGs(n:Nat)(r:List bL)(e:r.length=n):(bp r).take n=bp r:=gz (by simp[bp,e])
def qQd(cs:List Cell):iu cs []=some cs:=rfl
def qNr(cs:List Cell)(o n:Nat)(v:cN)(r:List (Nat×Nat×cN)):iu cs ((o,n,v)::r)=uQ (decide (v.cells.length=n)&&decide (o+n<=cs.length)) (iu (dm cs o v.cells) r):=by
 show(if v.cells.length=n/\o+n<=cs.length then _ else _)=_;by_cases h:v.cells.length=n/\o+n<=cs.length
 ·rw[bF h,cI h.1,cI h.2]; rfl
 ·rw[bA h];have:(decide (v.cells.length=n)&&decide (o+n<=cs.length))=false:=by
   cases h1:decide (v.cells.length=n) with
   |false=>rfl
   |true=>cases A:decide (o+n<=cs.length) with
    |false=>rfl
    |true=>exact absurd ⟨gL h1,gL A⟩ h
  rw[this]; rfl
def qOy(c:Cell)(cs x:List Cell)(n:Nat):dm (c::cs) (n+1) x=c::dm cs n x:=by
 unfold dm eY;rw[show n+1+x.length=(n+x.length)+1 by omega]; rfl
def qSV(c x:Cell)(cs:List Cell):dm (c::cs) 0 [x]=x::cs:=rfl
def exB:=eU @qSM<|eU @qSL<|eU @qTE<|eU @qQj<|eU @qQd<|eU @qNr<|eU @qOy<|@qSV
def exG:=eU @ZO<|eU @qU8<|eU @bm.Bh<|eU @bm.um<|eU @qGs<|eU @g_t<|eU @g_f<|eU @qba<|eU @qWv<|eU @qXh<|eU @qVw<|eU @qa8<|eU @qa9<|eU @qXz<|eU @qXy<|eU @qLy<|eU @qNV<|eU @qIZ<|eU (tW (∀ (l:List bG) (cs:List Cell) (imm:Nat),(bm.mk (.cells cs imm::l) .nil).get (.im 0)=some (.cells cs imm)) (λl cs imm=>rfl))<|eU (tW (∀ (α:Type)(a:α),(some a).isSome=true) (λ_ _=>rfl))<|eU (tW (∀ x:Cell,(cN.c x).cells=[x]) (λ_=>rfl))<|(tW (∀ l:List Cell,(cN.agg l).cells=l) (λ_=>rfl))
section
variable {β:Type} {O:bD} {h:bm} {d:Nat} {k:KO β}
def qLw(v:bt):v.strip.strip=v.strip:=by
 have hc:∀ c:Cell,c.strip.strip=c.strip:=λc=>by cases c <;> rfl
 have hx:∀ x:cN,x.strip.strip=x.strip:=λx=>by
  cases x with
  |c c=>show cN.c c.strip.strip=_; rw[hc]; rfl
  |agg cs=>show cN.agg ((cs.map Cell.strip).map Cell.strip)=_; rw[fU]; congr 1; exact vm λc _=>hc c
 cases v with
 |v x=>show bt.v x.strip.strip=_; rw[hx]; rfl
 |dq vs=>show bt.dq ((vs.map cN.strip).map cN.strip)=_; rw[fU]; congr 1; exact vm λc _=>hx c
def Yg(g:FuncId)(A:List bt):bE O (.v (.c (.func g []))) A h d k=bE O (.v (.c (.func g []))) (A.map bt.strip) h d k:=by
 show mG O g A d h k=mG O g (A.map bt.strip) d h k;rw[Ov,Ov];have:dE O g A d h=dE O g (A.map bt.strip) d h:=by
  unfold dE;have:(A.map bt.strip).map bt.strip=A.map bt.strip:=by
   rw[fU]; exact vm λc _=>qLw c
  simp only[this]
 rw[this]
def ru:Cell->Bool
 |.p _ | .gm .. => true
 |_=>false
def wU:cN->Bool
 |.c c=>ru c
 |.agg cs=>cs.all ru
def qFr(hp:bm)(n:Nat)(c:Cell)(hc:ru c=true):∃ x,c.strip = .p x/\freeze hp (n+1) c=some (x,[]):=by
 cases c with
 |p v=>exact⟨v,rfl,rfl⟩
 |gm sz rows r=>exact⟨_,rfl,rfl⟩
 |_=>cases hc
def qHe(hp:bm)(n:Nat):∀ cs:List Cell,cs.all ru=true->∃ xs:List bL,cs.map Cell.strip=bp xs/\cs.mapM (freeze hp (n+1))=some (xs.map λx=>(x,[])):=by
 intro cs
 induction cs with
 |nil=>intro _; exact⟨[],rfl,rfl⟩
 |cons c cs A =>
  intro hc;rw[oI,fj] at hc;obtain⟨x,M,U⟩:=qFr hp n c hc.1;obtain⟨xs,e3,e4⟩:=A hc.2;refine⟨x::xs,?_,?_⟩
  ·rw[dr,M,e3]; rfl
  ·rw[ek,U,e4]; rfl
def qFF(hp:bm)(x:cN)(hx:wU x=true):fJ hp x=some (x.strip,[])/\ld x.strip=true:=by
 cases x with
 |c c =>
  obtain⟨v,A,M⟩:=qFr hp 29 c hx;constructor
  ·show(freeze hp 30 c).map _=_;rw[M]; show _=some (cN.c c.strip,[]); rw[A]; rfl
  ·show DW c.strip=true; rw[A]; rfl
 |agg cs =>
  obtain⟨xs,A,M⟩:=qHe hp 29 cs hx;constructor
  ·show(cs.mapM (freeze hp 30)).map _=_;rw[M]; show _=some (cN.agg (cs.map Cell.strip),[]); rw[A];show some (cN.agg ((xs.map λx=>(x,([]:List Ref))).map λy=>.p y.1),(xs.map λx=>(x,([]:List Ref))).flatMap (·.2))=_
   congr 2
   ·rw[fU]; rfl
   ·clear A M
    induction xs with
    |nil=>rfl
    |cons a l U=>rw[dr,eJ,U]; rfl
  ·show iG DW (cs.map Cell.strip)=true; rw[A]; exact Yq xs
def qGi(hp:bm):∀ vs:List cN,vs.all wU=true->vs.mapM (fJ hp)=some (vs.map λx=>(x.strip,[]))/\iG ld (vs.map cN.strip)=true:=by
 intro vs
 induction vs with
 |nil=>intro _; exact⟨rfl,rfl⟩
 |cons x vs A =>
  intro hv;rw[oI,fj] at hv;obtain⟨M,U⟩:=qFF hp x hv.1;obtain⟨e3,e4⟩:=A hv.2;constructor
  ·rw[ek,M,e3]; rfl
  ·rw[dr,qHq,U,e4]; rfl
def ZF(vs:List cN)(hv:vs.all wU=true):bS true 0 vs h=some (oneOf (vs.map cN.strip),[]):=by
 letI:Sym:=⟨λ_=>0⟩
 rw[JI];obtain⟨A,M⟩:=qGi h vs hv;have U:iF h (oneOf vs)=some (oneOf (vs.map cN.strip),[]):=by
  match vs,hv,A,M with
  |[],_,_,_=>rfl
  |[x],hv,_,_ =>
   rw[oI,fj] at hv;show(fJ h x).map _=_;rw[(qFF h x hv.1).1]; rfl
  |x::y::vs,_,A,_ =>
   show((x::y::vs).mapM (fJ h)).map _=_;rw[A];show some (bt.dq (((x::y::vs).map λx=>(x.strip,([]:List Ref))).map (·.1)),((x::y::vs).map λx=>(x.strip,([]:List Ref))).flatMap (·.2))=_
   congr 2
   ·rw[fU]; rfl
   ·generalize (x::y::vs)=l
    induction l with
    |nil=>rfl
    |cons a l ih=>rw[dr,eJ,ih]; rfl
 obtain⟨q1,q2,q3,q4⟩:=zq (XJ M);unfold qH;rw[show bY 0=([]:List Ref) from rfl];simp[U,settle,q1,q3,reach,cw]
def fh(sz:Nat)(v:Cell)(rows:List (List bL)):Prop:=(rows=[]/\v = .p .bq)\/(rows≠[]/\∃ r,v = .gm sz rows r)
def ma.bears{D:List Nat}{sz:Nat}{v:Cell}{rows:List (List bL)}{h:bm}(G:ma D sz v rows h):fh sz v rows:=by
 rcases G with ⟨a,b⟩|⟨a,e,g,_,b,_⟩
 ·exact .inl ⟨a,b⟩
 ·exact .inr ⟨a,_,b⟩
def fh.strip{sz:Nat}{v:Cell}{rows:List (List bL)}(G:fh sz v rows):v.strip = .p (iq sz rows):=by
 rcases G with ⟨rfl,rfl⟩|⟨A,r,rfl⟩
 ·rfl
 ·cases rows with
  |nil=>exact absurd rfl A
  |cons _ _=>rfl
def fh.pt{sz:Nat}{v:Cell}{rows:List (List bL)}(G:fh sz v rows):ru v=true:=by
 rcases G with ⟨rfl,rfl⟩|⟨A,r,rfl⟩ <;> rfl
def fh.Kf{sz:Nat}{v:Cell}{rows:List (List bL)}(G:fh sz v rows)(g:FuncId)(A:List bt):bE O (.v (.c (.func g []))) (.v (.c v)::A) h d k=bE O (.v (.c (.func g []))) (.v (.c (.p (iq sz rows)))::A) h d k:=by
 rw[Yg g (_::A),Yg g (.v (.c (.p (iq sz rows)))::A)];show bE O _ (.v (.c v.strip)::_) h d k=_;rw[G.strip]; rfl
def fh.len{sz:Nat}{v:Cell}{rows:List (List bL)}(G:fh sz v rows):cP O 2 (.v (.c v)) h d k=k (kI (rows.length:Int)) h:=by
 rcases G with ⟨rfl,rfl⟩|⟨_,r,rfl⟩
 ·rfl
 ·exact qHJ _ _ _
def fh.at{sz:Nat}{v:Cell}{rows:List (List bL)}(G:fh sz v rows)(i:Int):bU sz (.v (.c v)) (kI i) h k=uQ (decide (0<=i)) (lB rows[i.toNat]? λrow=>k (.v (.c (.p (.dc row 0)))) h):=by
 rcases G with ⟨rfl,rfl⟩|⟨_,r,rfl⟩
 ·by_cases hi:0<=i
  ·obtain⟨n,rfl⟩:∃ n:Nat,i=n:=⟨i.toNat,bn⟩;rw[cI hi]; simp[uQ,lB]; rfl
  ·obtain⟨n,rfl⟩:∃ n:Nat,i=Int.negSucc n:=⟨(-i-1).toNat,bn⟩;rw[de hi]; rfl
 ·exact qGY _ _ _ _
def fh.fin{sz:Nat}{v:Cell}{rows:List (List bL)}(G:fh sz v rows):bS true 0 [.c v] h=some (.v (.c (.p (iq sz rows))),[]):=by
 rw[ZF _ (by show(ru v&&true)=true; rw[G.pt]; rfl)];show some (bt.v (.c v.strip),_)=_;rw[G.strip]
end
section
variable {β:Type} {O:bD} {h:bm} {d:Nat} {kt:KT β}
@[congr] theorem GM {op A:jE} (e:op=A):br O op h d kt=br O A h d kt:=by rw[e]
def Z9(op:jE)(hp:∀ p,cH .nil op=some p->∃ v,p = .pure v):br O op h d kt=(ib O op .nil h d).bind λx=>kt x.1 x.2 cj:=by
 show dO (mB op .nil) (λp=>dO (p.exec O d h) λx=>kt x.1 x.2.1 x.2.2)=_;rw[zt];unfold ib;cases A:cH .nil op with
 |none=>rfl
 |some p =>
  obtain⟨v,rfl⟩:=hp p A;rfl
def qR9{α:Type}{o:Option α}{f:α->bt}{p:cA}(e:(o.map λc=>cA.pure (f c))=some p):∃ v,p = .pure v:=by
 cases o with
 |none=>cases e
 |some c=>exact⟨f c,(kr e).symm⟩
def qXf(op:BinOp)(kd:Nat)(a b:Cell):br O (.bin op kd (.k (.v (.c a))) (.k (.v (.c b)))) h d kt=bw op kd (.v (.c a)) (.v (.c b)) h λv h=>kt v h cj:=by
 rw[Z9 (.bin op kd (.k (.v (.c a))) (.k (.v (.c b)))) (λp e=>qR9 (o:=pB op kd a b) (f:=λc=>.v (.c c)) e)];exact(qHH O op kd (.k (.v (.c a))) (.k (.v (.c b))) .nil h d (λv h=>kt v h cj)).symm
def Zn(v:bt):br O (.mv (.k v)) h d kt=kt v h cj:=by
 exact qGe _ _ rfl
def tQ(op:jE)(v:bt)(hb:cH .nil op=some (.pure v)):br O op h d kt=kt v h cj:=qGe op v hb
def qUU(o off:Nat)(r:Ref):br O (.dG off (.k (.v (.c (.ptr r o))))) h d kt=kt (.v (.c (.ptr r (o+off)))) h cj:=tQ _ _ rfl
def qRl(o off:Nat)(r:List bL):br O (.dG off (.k (.v (.c (.p (.dc r o)))))) h d kt=kt (.v (.c (.p (.dc r (o+off))))) h cj:=tQ _ _ rfl
def qPO:br O (.len 2 (.k OR)) h d kt=kt (kI 0) h cj:=tQ _ _ rfl
def ZE(op:jE)(r:Ref)(A:List bG->Option AF)(hb:cH .nil op=some (.go [r] A)):br O op h d kt=((h.get r).bind λo=>fN [r] A d h).bind λx=>kt x.1 x.2.1 x.2.2:=by
 show dO (mB op .nil) (λp=>dO (p.exec O d h) λx=>kt x.1 x.2.1 x.2.2)=_;rw[zt,hb];show dO (fN [r] A d h) _=_;cases M:h.get r with
 |none =>
  have:fN [r] A d h=none:=by unfold fN; rw[JD,M]; rfl
  rw[this]; rfl
 |some o =>
  show dO (fN [r] A d h) _=(fN [r] A d h).bind _;cases fN [r] A d h <;> rfl
def qW5(n off:Nat)(r:Ref):br O (.load false n (.k (.v (.c (.ptr r off))))) h d kt=pY (h.get r) λcs _=>lB cs[off]? λc=>kt (.v (.c c)) h ⟨[r.site],[],false⟩:=by
 rw[ZE _ r _ rfl];cases A:h.get r with
 |none=>rfl
 |some o =>
  show(fN [r] _ d h).bind _=_;unfold fN;rw[JD,A];cases o with
  |cells cs imm =>
   cases hc:cs[off]? with
   |none =>
    have h1:partOf false n cs off=none:=by simp[partOf,hc]
    simp only[iO,h1,pY,Aw,hc]; rfl
   |some c =>
    have h1:partOf false n cs off=some (.v (.c c)):=by simp[partOf,hc]
    simp only[iO,h1,pY,hc]; rfl
  |_=>rfl
def qVo(n off:Nat)(r:Ref):br O (.load true n (.k (.v (.c (.ptr r off))))) h d kt=pY (h.get r) λcs _=>uQ (decide (((cs.drop off).take n).length=n)) (kt (.v (.agg ((cs.drop off).take n))) h ⟨[r.site],[],false⟩):=by
 rw[ZE _ r _ rfl];cases A:h.get r with
 |none=>rfl
 |some o =>
  show(fN [r] _ d h).bind _=_;unfold fN;rw[JD,A];cases o with
  |cells cs imm =>
   by_cases hc:((cs.drop off).take n).length=n
   ·have h1:partOf true n cs off=some (.v (.agg ((cs.drop off).take n))):=by unfold partOf; rw[bF rfl]; dsimp only; rw[bF hc]
    simp only[iO,h1,pY,uQ];rw[cI hc]; rfl
   ·have h1:partOf true n cs off=none:=by unfold partOf; rw[bF rfl]; dsimp only; rw[bA hc]
    simp only[iO,h1,pY,uQ,Aw];rw[de hc]; rfl
  |_=>rfl
def Hg(g:FuncId)(A:List bt)(v:bt)(M:iG pT A=true)(ho:O g A []=some (v,[]))(hv:pT v=true):br O (.call (.k (.v (.c (.func g [])))) (A.map .k)) h d kt=kt v h cj:=qL0 g A v M ho hv
def qKP(t:Touch):Touch.apart cj t=true:=by unfold Touch.apart cj sB; simp
def qK2(t:Touch):Touch.apart t cj=true:=by unfold Touch.apart cj sB; simp
def qKt(ts:List Touch):da ts []=true:=rfl
def qJi(ts:List Touch)(i j:Nat)(ps:List (Nat×Nat)):da ts ((i,j)::ps)=((match ts[i]?,ts[j]? with|some a,some b=>a.apart b|_,_=>false)&&da ts ps):=rfl
def qXU(x y:Option β):(bif true then x else y)=x:=rfl
def qI:=eU @qXf<|eU @Zn<|eU @qUU<|eU @qRl<|eU @qPO<|eU @qW5<|eU @qVo<|eU @qKP<|eU @qK2<|eU @qKt<|eU @qJi<|@qXU
end
section
variable {β:Type} {O:bD} {h:bm} {d:Nat} {k:KO β}
def qV7(f:FuncId)(r:Ref):bQ O (.qD f [.k (.v (.c (.ptr r 0)))]) h d k=k (.v (.c (.func f [r]))) h:=qg _ _ rfl
def qUu(f:FuncId):bQ O (.qD f []) h d k=k (.v (.c (.func f []))) h:=qg _ _ rfl
def qJS(i:Nat)(o:bG)(A:h.get (.im i)=some o):h.put (.im i) o=h:=by
 have:h.bY[i]?=some o:=by
  unfold bm.get at A;dsimp only at A;split at A
  ·cases A
  ·exact A
 show({ h with bY:=h.bY.set i o }:bm)=h;have e:h.bY.set i o=h.bY:=by
  obtain⟨hi,he⟩:=cQ.1 this;rw[<- he]; exact List.set_getElem_self hi
 rw[e]
end
def exC:=eU @qV7<|@qUu
inductive Sl (α:Type) where
 |nil
 |mk (t:Bool) (l:List α)
def Sl.list{α:Type}:Sl α->List α
 |.nil=>[]
 |.mk _ l=>l
def Sl.len{α:Type}(s:Sl α):Nat:=s.list.length
def dI{α:Type}(sz:Nat)(f:α->List bL):Sl α->bL
 |.nil=>.bq
 |.mk t l=>.slice sz t (l.map f)
def grown{α:Type}(l:List α):Sl α:=match l with
 |[]=>.nil
 |l=>.mk false l
def XN{α:Type}(sz:Nat)(f:α->List bL)(l:List α):iq sz (l.map f)=dI sz f (grown l):=by cases l <;> rfl
def wI{α:Type}(l:List α):(grown l).list=l:=by cases l <;> rfl
def dg(s:LB):List bL:=[.str s]
def wN(n:Int):List bL:=[.int .i64 n]
inductive VT where
 |mk (kind:Int) (b:Bool) (n:Int) (s:LB) (keys:Sl (LB)) (l:Sl VT)
namespace VT
def kind:VT->Int | .mk k _ _ _ _ _=>k
def b:VT->Bool | .mk _ b _ _ _ _=>b
def n:VT->Int | .mk _ _ n _ _ _=>n
def s:VT->LB | .mk _ _ _ s _ _=>s
def keys:VT->Sl (LB) | .mk _ _ _ _ k _=>k
def l:VT->Sl VT | .mk _ _ _ _ _ l=>l
mutual
def row:VT->List bL
 |.mk k b n s ks l=>[.int .i64 k,.bool b,.int .i64 n,.str s,dI 1 dg ks,mm l]
def mm:Sl VT->bL
 |.nil=>.bq
 |.mk t l=>.slice 6 t (rows l)
def rows:List VT->List (List bL)
 |[]=>[]
 |v::vs=>row v::rows vs
end
def DC:∀ l:List VT,rows l=l.map row
 |[]=>by simp[rows]
 |v::vs=>by simp[rows,DC vs]
def Ot(l:Sl VT):mm l=dI 6 row l:=by cases l <;> simp[mm,dI,DC]
def fD(v:VT):row v=[.int .i64 v.kind,.bool v.b,.int .i64 v.n,.str v.s,dI 1 dg v.keys,dI 6 row v.l]:=by
 cases v; simp[row,Ot,kind,b,n,s,keys,l]
def ct(v:VT):(row v).length=6:=by rw[fD]; rfl
def UH(v:VT):(row v)[0]?=some (.int .i64 v.kind):=by rw[fD]; rfl
def Hc(v:VT):(row v)[1]?=some (.bool v.b):=by rw[fD]; rfl
def N7(v:VT):(row v)[2]?=some (.int .i64 v.n):=by rw[fD]; rfl
def N6(v:VT):(row v)[3]?=some (.str v.s):=by rw[fD]; rfl
def mE{v x:VT}(h:x∈v.l.list):SizeOf.sizeOf x<SizeOf.sizeOf v:=by
 cases v with
 |mk k b n s ks l =>
  cases l with
  |nil=>simp[VT.l,Sl.list] at h
  |mk t l =>
   have:=xQ (show x∈l from h);simp; omega
end VT
inductive TT where
 |mk (kind:Int) (name:LB) (names:Sl (LB)) (kids:Sl TT)
namespace TT
def kind:TT->Int | .mk k _ _ _=>k
def name:TT->LB | .mk _ n _ _=>n
def names:TT->Sl (LB) | .mk _ _ n _=>n
def kids:TT->Sl TT | .mk _ _ _ k=>k
mutual
def row:TT->List bL
 |.mk k n ns l=>[.int .i64 k,.str n,dI 1 dg ns,mm l]
def mm:Sl TT->bL
 |.nil=>.bq
 |.mk t l=>.slice 4 t (rows l)
def rows:List TT->List (List bL)
 |[]=>[]
 |v::vs=>row v::rows vs
end
def DC:∀ l:List TT,rows l=l.map row
 |[]=>by simp[rows]
 |v::vs=>by simp[rows,DC vs]
def Ot(l:Sl TT):mm l=dI 4 row l:=by cases l <;> simp[mm,dI,DC]
def fD(v:TT):row v=[.int .i64 v.kind,.str v.name,dI 1 dg v.names,dI 4 row v.kids]:=by
 cases v; simp[row,Ot,kind,name,names,kids]
def ct(v:TT):(row v).length=4:=by rw[fD]; rfl
def UH(v:TT):(row v)[0]?=some (.int .i64 v.kind):=by rw[fD]; rfl
def Hc(v:TT):(row v)[1]?=some (.str v.name):=by rw[fD]; rfl
def N7(v:TT):(row v)[2]?=some (dI 1 dg v.names):=by rw[fD]; rfl
def N6(v:TT):(row v)[3]?=some (dI 4 row v.kids):=by rw[fD]; rfl
def mE{v x:TT}(h:x∈v.kids.list):SizeOf.sizeOf x<SizeOf.sizeOf v:=by
 cases v with
 |mk k n ns l =>
  cases l with
  |nil=>simp[TT.kids,Sl.list] at h
  |mk t l =>
   have:=xQ (show x∈l from h);simp; omega
end TT
section
variable {β:Type} {O:bD} {h:bm} {d:Nat} {k:KO β}
def qRh{α:Type}(sz:Nat)(f:α->List bL)(s:Sl α):cP O 2 (.v (.c (.p (dI sz f s)))) h d k=k (kI (s.len:Int)) h:=by
 cases s with
 |nil=>rfl
 |mk t l =>
  show cP O 2 (j7 sz t (l.map f)) h d k=_;rw[ZQ,dj]; rfl
def qNW{α:Type}(sz:Nat)(f:α->List bL)(s:Sl α)(i:Int):bU sz (.v (.c (.p (dI sz f s)))) (kI i) h k=uQ (decide (0<=i)) (lB (s.list[i.toNat]?) λa=>k (.v (.c (.p (.dc (f a) 0)))) h):=by
 cases s with
 |nil =>
  show bU sz (.v (.c (.p .bq))) (kI i) h k=_;have e:bU sz (.v (.c (.p .bq))) (kI i) h k=none:=by
   by_cases hi:0<=i
   ·obtain⟨n,rfl⟩:∃ n:Nat,i=n:=⟨i.toNat,bn⟩;rfl
   ·obtain⟨n,rfl⟩:∃ n:Nat,i=Int.negSucc n:=⟨(-i-1).toNat,bn⟩;rfl
  rw[e];show none=uQ _ (lB ([][_]?) _);cases decide (0<=i) <;> simp[uQ,lB]
 |mk t l =>
  show bU sz (j7 sz t (l.map f)) (kI i) h k=_;rw[qMt,dP]
  congr 1
  show lB (Option.map f l[i.toNat]?) _=_;rw[qSK]; rfl
end
def exV:=eU (tW (∀ s:LB,(dg s)[0]?=some (.str s)) (λ_=>rfl))<|eU (tW (∀ n:Int,(wN n)[0]?=some (.int .i64 n)) (λ_=>rfl))<|eU @TT.ct<|eU @TT.UH<|eU @TT.Hc<|eU @TT.N7<|eU @TT.N6<|eU @qRh<|eU @qNW<|(tW (∀ (β:Type)(h:bm)(k:KO β)(v:TT),bz true 4 (.v (.c (.p (.dc v.row 0)))) h k=k (.v (.agg (bp v.row))) h) (λ_ _ _ v=>qCU 4 v.row v.ct))
structure NT where
 name:LB
 t:TT
structure GT where
 name:LB
 params:Sl TT
 result:TT
structure ST where
 main:TT
 types:Sl NT
 sigs:Sl GT
def NT.row(e:NT):List bL:=.str e.name::e.t.row
def GT.row(e:GT):List bL:=.str e.name::dI 4 TT.row e.params::e.result.row
def ST.row(s:ST):List bL:=s.main.row++[dI 5 NT.row s.types,dI 6 GT.row s.sigs]
def ST.Hb(s:ST):s.row=[.int .i64 s.main.kind,.str s.main.name,dI 1 dg s.main.names,dI 4 TT.row s.main.kids,dI 5 NT.row s.types,dI 6 GT.row s.sigs]:=by unfold ST.row; rw[TT.fD]; rfl
def ST.ct(s:ST):s.row.length=6:=by rw[ST.Hb]; rfl
def NT.ct(s:NT):s.row.length=5:=by unfold NT.row; rw[di,TT.ct]
def GT.ct(s:GT):s.row.length=6:=by unfold GT.row; rw[di,di,TT.ct]
def qU6(e:NT):((bp e.row).drop 1).take 4=bp e.t.row:=by
 show(bp e.t.row).take 4=_;exact qGs 4 _ (TT.ct _)
def exS:=eU @qU6<|@ST.ct
def exL:=eU (tW (∀ (α β:Type)(f:α->β)(a:α),Option.map f (some a)=some (f a)) (λ_ _ _ _=>rfl))<|eU (tW ((!false)=true) rfl)<|eU (tW ((!true)=false) rfl)<|eU @Bool.not_not<|eU @Bool.and_self<|eU @xP<|eU @gS<|eU @Bool.or_self<|eU @oH<|eU @Bool.or_true<|eU @fH<|eU @lM<|eU @nY<|eU @gH<|eU (tW (decide True=true) rfl)<|eU (tW (decide False=false) rfl)<|eU @oJ<|eU (tW (∀ (α:Type)(a:α)(l:List α),(a::l).length=l.length+1) (λ_ _ _=>rfl))<|eU (tW (∀ (α:Type),([]:List α).length=0) (λ_=>rfl))<|eU (tW (∀ (α:Type)(a:α)(l:List α),(a::l)[0]?=some a) (λ_ _ _=>rfl))<|eU (tW (∀ (α:Type)(a:α)(l:List α)(i:Nat),(a::l)[i+1]?=l[i]?) (λ_ _ _ _=>rfl))<|eU (tW (∀ (α:Type)(a:α)(l:List α)(i:Nat),(a::l).take (i+1)=a::l.take i) (λ_ _ _ _=>rfl))<|eU (tW (∀ (α:Type)(a:α)(l:List α)(i:Nat),(a::l).drop (i+1)=l.drop i) (λ_ _ _ _=>rfl))<|eU (tW (∀ (α:Type)(l:List α),l.drop 0=l) (λ_ _=>rfl))<|(tW (∀ (α:Type)(l:List α),l.take 0=[]) (λ_ _=>rfl))
def bW:=And.intro @ne_eq.{1} (And.intro @not_false_eq_true (And.intro @ex (And.intro @exG (And.intro @exM (And.intro @exV (And.intro @exF (And.intro @exQ (And.intro @exB (And.intro @exS (And.intro @qI (And.intro @exC @exL)))))))))))
def CI{p:Nat->Prop}(n:Nat)(hd:∀ i,n<=i->p i)(hs:∀ i,i<n->p (i+1)->p i):∀ i,p i:=by
 have key:∀ m i,n - i<=m->p i:=by
  intro m
  induction m with
  |zero=>intro i h; exact hd i bn
  |succ m A =>
   intro i h;by_cases hi:i<n
   ·exact hs i hi (A (i+1) bn)
   ·exact hd i bn
 exact λi=>key (n - i) i (cB _)
def o9{α:Type}{l:List α}{i:Nat}(hi:i<l.length):∃ a,l[i]?=some a/\l.drop i=a::l.drop (i+1)/\a∈l :=
 ⟨l[i],by simp[hi],kV hi,qO hi⟩
def tP{α:Type}{l:List α}{i:Nat}(hi:l.length<=i):l.drop i=[]:=kT hi
def sT(n:Nat)(h:n<4611686018427387904):IntKind.i64.wrap ((n:Int)+1)=((n+1:Nat):Int):=by rw[jZ _ bn bn]; omega
section
variable {β:Type} {O:bD} {h:bm} {d:Nat} {k:KO β} {kt:KT β}
def Ch(op:jE):bQ O op h d k=br O op h d λv h _=>k v h:=by
 show Ck O op .nil h d k=dO (mB op .nil) (λp=>dO (p.exec O d h) λx=>k x.1 x.2.1);rw[CK,zt];unfold ib;cases cH .nil op with
 |none=>rfl
 |some p =>
  show Option.bind ((p.exec O d h).map λx=>(x.1,x.2.1)) (λx=>k x.1 x.2)=dO (p.exec O d h) _;cases p.exec O d h <;> rfl
def GS(D:List Nat)(sz:Nat)(v:Cell)(rows:List (List bL))(h:bm):Prop :=
 (rows=[]/\v = .p .bq)\/v = .p (.slice sz true rows)\/(∃ e g,e∈D/\v = .gm sz rows (.own e g)/\h.get (.own e g)=some (.cells [] 0))
def BP(D:List Nat)(t:Touch):Prop:=(∀ s∈t.rd,∃ e,e∈D/\s = .own e)/\(∀ s∈t.wr,∃ e,e∈D/\s = .own e)/\t.oU=false
def CA(sz:Nat)(b:bL)(new:List (List bL)):Prop:=(b = .bq/\new=[])\/∃ t,b = .slice sz t new
def CA.cells{sz:Nat}{b:bL}{new:List (List bL)}(H:CA sz b new):gf sz (.v (.c (.p b))) none=some (bp new.flatten,new.length):=by
 rcases H with ⟨rfl,rfl⟩|⟨t,rfl⟩
 ·rfl
 ·unfold gf; simp
def sS{D:List Nat}{sz by':Nat}{v:Cell}{rows new:List (List bL)}{b:bL}(H:CA sz b new)(G:GS D sz v rows h)(M:d∈D)(kJ:∀ r∈new,r.length=sz)(hb:(rows.length+new.length)*by'<=1099511627776)(hd:d+1<1048576) :
  ∃ v' h' t,GS D sz v' (rows++new) h'/\(∀ (β:Type) (O:bD) (kt:KT β),br O (.append sz by' false (.k (.v (.c v))) (.k (.v (.c (.p b))))) h d kt=kt (.v (.c v')) h' t)/\BP D t /\
   (∀ e g o,e∉D->h.get (.own e g)=some o->h'.get (.own e g)=some o)/\(∀ i,h'.get (.im i)=h.get (.im i))/\((new≠[]\/∃ r,v = .gm sz rows r)->∃ r,v' = .gm sz (rows++new) r):=by
 have hc:=H.cells;have hs:jb (.v (.c (.p b)))=none:=by rcases H with ⟨rfl,_⟩|⟨t,rfl⟩ <;> rfl
 have A:∀ (op:jE) (dM:List Ref) (pk:List bG->Option AF) (x:bt×bm×Touch),cH .nil op=some (.go dM pk)->fN dM pk d h=some x->∀ (β:Type) (O:bD) (kt:KT β),br O op h d kt=kt x.1 x.2.1 x.2.2 :=
  λop dM pk x e1 e2 β O kt=>JR op dM pk x.1 x.2.1 x.2.2 e1 e2
 by_cases hn:new=[]
 ·subst hn;have hr:rows++[]=rows:=fa _;have ad:Hz (.v (.c v))=true:=by rcases G with ⟨_,rfl⟩|rfl|⟨e,g,_,rfl,_⟩ <;> rfl
  have U:∀ o,ee sz by' false (.v (.c v)) o (bp ([]:List (List bL)).flatten) 0=some ⟨λ_=>.v (.c v),[],none,false⟩:=by
   intro o; unfold ee; rw[bF rfl,bF ad]
  rcases G with ⟨g1,rfl⟩|rfl|⟨e,g,he,rfl,hh⟩
  ·refine⟨_,h,⟨[],[],false⟩,by rw[hr]; exact .inl ⟨g1,rfl⟩,A _ [] _ (_,h,⟨[],[],false⟩) rfl ?_,⟨λs hs=>(by cases hs),λs hs=>(by cases hs),rfl⟩,λ_ _ _ _ ho=>ho,λ_=>rfl,λx=>by rcases x with x|⟨r,x⟩; exact absurd rfl x; cases x⟩;unfold fN;simp only[gg,gC,hs,hU,dw,rL,eG,hc,fm,U];rfl
  ·refine⟨_,h,⟨[],[],false⟩,by rw[hr]; exact .inr (.inl rfl),A _ [] _ (_,h,⟨[],[],false⟩) rfl ?_,⟨λs hs=>(by cases hs),λs hs=>(by cases hs),rfl⟩,λ_ _ _ _ ho=>ho,λ_=>rfl,λx=>by rcases x with x|⟨r,x⟩; exact absurd rfl x; cases x⟩;unfold fN;simp only[gg,gC,hs,hU,dw,rL,eG,hc,fm,U];rfl
  ·refine⟨_,h,⟨[.own e],[],false⟩,by rw[hr]; exact .inr (.inr ⟨e,g,he,rfl,hh⟩),A _ [.own e g] (λos=>do let (oa,ob) <- dw (some (.own e g)) none os; let (new,n) <- gf sz (.v (.c (.p b))) ob; ee sz by' false (.v (.c (.gm sz rows (.own e g)))) oa new n) (_,h,⟨[.own e],[],false⟩) ?_ ?_,⟨λs hs=>⟨e,he,(by simpa using hs)⟩,λs hs=>(by cases hs),rfl⟩,λ_ _ _ _ ho=>ho,λ_=>rfl,λ_=>⟨_,by rw[hr]⟩⟩
   ·show some (cA.go (kX (hU _) (jb (.v (.c (.p b))))) _)=_;rw[hs]; rfl
   ·unfold fN;simp only[JD,hh,iO,dw,rL,eG,hc,fm,U];rfl
 ·have aa:new.length≠0:=by simpa using hn
  have gr:∀ kC,jo sz by' rows (bp new.flatten) new.length kC=some ⟨λr=>.v (.c (.gm sz (rows++new) r)),kC,some (.cells [] 0),false⟩:=by
   intro kC;unfold jo;rw[Ya sz new kJ];dsimp only;rw[bF bn]
  rcases G with ⟨rfl,rfl⟩|rfl|⟨e,g,he,rfl,hh⟩
  ·have ea:ee sz by' false OR none (bp new.flatten) new.length=some ⟨λr=>.v (.c (.gm sz ([]++new) r)),[],some (.cells [] 0),false⟩:=by
    unfold ee; rw[bA aa]; exact gr []
   refine⟨.gm sz ([]++new) (.own d (h.gen d+1)),h.own d (h.gen d+1) (.cells [] 0),⟨[],[.own d],false⟩,.inr (.inr ⟨d,_,M,rfl,bm.cC h d _ _ hd cb⟩),A _ [] _ (_,_,_) rfl ?_,⟨λs hs=>(by cases hs),λs hs=>⟨d,M,(by simpa using hs)⟩,rfl⟩,λe g o he ho=>(bm.bN h d _ _ e g (λx=>he (x▸M))).trans ho,λi=>rfl,λ_=>⟨_,rfl⟩⟩;unfold fN;simp only[gg,gC,hs,hU,dw,rL,eG,hc,ea];rfl
  ·have ea:ee sz by' false (.v (.c (.p (.slice sz true rows)))) none (bp new.flatten) new.length=some ⟨λr=>.v (.c (.gm sz (rows++new) r)),[],some (.cells [] 0),false⟩:=by
    unfold ee; rw[bA aa];show(if sz=sz then (if false then _ else jo sz by' rows (bp new.flatten) new.length []) else none)=_;rw[bF rfl];exact gr []
   refine⟨.gm sz (rows++new) (.own d (h.gen d+1)),h.own d (h.gen d+1) (.cells [] 0),⟨[],[.own d],false⟩,.inr (.inr ⟨d,_,M,rfl,bm.cC h d _ _ hd cb⟩),A _ [] _ (_,_,_) rfl ?_,⟨λs hs=>(by cases hs),λs hs=>⟨d,M,(by simpa using hs)⟩,rfl⟩,λe g o he ho=>(bm.bN h d _ _ e g (λx=>he (x▸M))).trans ho,λi=>rfl,λ_=>⟨_,rfl⟩⟩;unfold fN;simp only[gg,gC,hs,hU,dw,rL,eG,hc,ea];rfl
  ·have ea:ee sz by' false (.v (.c (.gm sz rows (.own e g)))) (some (.cells [] 0)) (bp new.flatten) new.length=some ⟨λr=>.v (.c (.gm sz (rows++new) r)),[(.own e g,.dead)],some (.cells [] 0),false⟩:=by
    unfold ee; rw[bA aa];show(if sz=sz then jo sz by' rows (bp new.flatten) new.length [(.own e g,.dead)] else none)=_;rw[bF rfl];exact gr _
   have ae:(h.put (.own e g) .dead).gen d+1=(h.put (.own e g) .dead).gen d+1:=rfl;refine⟨.gm sz (rows++new) (.own d (h.gen d+1)),(h.put (.own e g) .dead).own d (h.gen d+1) (.cells [] 0),⟨[.own e],.own d::[.own e],false⟩,.inr (.inr ⟨d,_,M,rfl,bm.cC _ d _ _ hd cb⟩),A _ [.own e g] (λos=>do let (oa,ob) <- dw (some (.own e g)) none os; let (new,n) <- gf sz (.v (.c (.p b))) ob; ee sz by' false (.v (.c (.gm sz rows (.own e g)))) oa new n) (_,_,_) ?_ ?_,⟨λs hs=>⟨e,he,(by simpa using hs)⟩,λs hs=>?_,rfl⟩,λe' g' o ab ho=>?_,λi=>rfl,λ_=>⟨_,rfl⟩⟩
   ·show some (cA.go (kX (hU _) (jb (.v (.c (.p b))))) _)=_;rw[hs]; rfl
   ·unfold fN;simp only[JD,hh,iO,dw,rL,eG,hc,ea];simp;rfl
   ·simp only[dK,lL,lK] at hs
    rcases hs with rfl|rfl
    ·exact⟨d,M,rfl⟩
    ·exact⟨e,he,rfl⟩
   ·refine(bm.bN _ d _ _ e' g' (λx=>ab (x▸M))).trans ?_;exact(bm.bN h e g _ e' g' (λx=>ab (x▸he))).trans ho
def GS.pt{D:List Nat}{sz:Nat}{v:Cell}{rows:List (List bL)}{h:bm}(G:GS D sz v rows h):ru v=true:=by
 rcases G with ⟨_,rfl⟩|rfl|⟨e,g,_,rfl,_⟩ <;> rfl
def GS.dY{D:List Nat}{sz:Nat}{v:Cell}{rows:List (List bL)}{h h':bm}(G:GS D sz v rows h)(A:∀ e∈D,∀ g,h.get (.own e g)=some (.cells [] 0)->h'.get (.own e g)=some (.cells [] 0)):GS D sz v rows h':=by
 rcases G with g|g|⟨e,g,m,b,c⟩
 ·exact .inl g
 ·exact .inr (.inl g)
 ·exact .inr (.inr ⟨e,g,m,b,A _ m _ c⟩)
def GS.own{D:List Nat}{sz:Nat}{v:Cell}{rows:List (List bL)}{h:bm}(G:GS D sz v rows h){d:Nat}(g:Nat)(o:bG)(hd:d∉D):GS D sz v rows (h.own d g o) :=
 G.dY λe he A M=>(bm.bN h d g o e A (λx=>hd (x▸he))).trans M
def AS{D:List Nat}{t:Touch}(T:BP D t)(e:Nat)(he:e∉D):Touch.apart t ⟨[.own e],[],false⟩=true:=by
 have h1:sB t.wr [Site.own e]=true:=by
  unfold sB;rw[lU];intro s hs;obtain⟨e',h',rfl⟩:=T.2.1 s hs;have:e'≠e:=λx=>he (x▸h')
  simp[this]
 unfold Touch.apart;rw[h1,T.2.2];simp[sB]
def U6(z:List Cell):br O (.alloc z false) h d kt=kt (.v (.c (.ptr (.own d (h.gen d+1)) 0))) (h.own d (h.gen d+1) (.cells z 0)) ⟨[],[.own d],false⟩:=qLE z
def Yn(z:List Cell)(x:bL)(hz:z.length=1):br O (.cm 1 1 z [(0,.k (.v (.c (.p x))))] false) h d kt=kt (j7 1 true [[x]]) h cj:=by
 match z,hz with
 |[z0],_=>exact tQ _ _ rfl
def qGB(sz:Nat)(z:List Cell)(r:List bL)(hz:z.length=sz)(A:r.length=sz):cH .nil (.cm sz 1 z [(0,.k (.v (.agg (bp r))))] false)=some (.pure (j7 sz true [r])):=by
 subst hz;have U:iu (rep 1 z) [(0*z.length,z.length,cN.agg (bp r))]=some (bp r):=by
  have M:(cN.agg (bp r)).cells.length=z.length:=by show(bp r).length=_; unfold bp; rw[dj,A]
  have l2:(rep 1 z).length=z.length:=by simp[rep]
  simp only[iu,M,l2,s9,nY,cB,and_self,fx];show some (eY (rep 1 z) 0 (bp r))=_;have l3:(bp r).length=z.length:=M;simp[eY,l3,rep]
 have e2:chunk z.length 1 (bp r)=some [r]:=by
  show(do let row <- tY ((bp r).take z.length); if row.length=z.length then pure (row::(<- chunk z.length 0 ((bp r).drop z.length))) else none)=_;have:(bp r).take z.length=bp r:=gz (by simp[bp,A]);rw[this,qHx];simp[A,chunk]
 simp only[cH,ek,gg,X.ev,gC,rL,eG,U,e2,gh,fC]
def Hk(sz:Nat)(z:List Cell)(r:List bL)(hz:z.length=sz)(A:r.length=sz):br O (.cm sz 1 z [(0,.k (.v (.agg (bp r))))] false) h d kt=kt (j7 sz true [r]) h cj:=tQ _ _ (qGB sz z r hz A)
def rY(n off:Nat)(r:Ref)(x:cN):br O (.store n (.k (.v (.c (.ptr r off)))) (.k (.v x))) h d kt=pY (h.get r) λcs imm=>uQ (decide (imm<=off)&&(decide (x.cells.length=n)&&decide (off+n<=cs.length))) (kt .undef (h.put r (.cells (dm cs off x.cells) imm)) ⟨[r.site],[r.site],false⟩):=by
 rw[ZE _ r _ rfl];cases A:h.get r with
 |none=>rfl
 |some o =>
  show(fN [r] _ d h).bind _=_;unfold fN;rw[JD,A];cases o with
  |cells cs imm =>
   by_cases hc:imm<=off/\x.cells.length=n/\off+n<=cs.length
   ·simp only[iO,pY,bF hc,cI hc.1,cI hc.2.1,cI hc.2.2,Bool.and_self,uQ,iv];simp[dm]
   ·have hb:(decide (imm<=off)&&(decide (x.cells.length=n)&&decide (off+n<=cs.length)))=false:=by
     refine xS.2 λe=>hc ?_
     simp only[fj,dF] at e;exact e
    simp only[iO,pY,bA hc,Aw,hb,uQ,iN];rfl
  |_=>rfl
end
def WH(b:UInt8):List bL:=[.int .u8 (b.toNat:Int)]
inductive RT where
 |mk (kind n:Int) (s:Sl UInt8) (keys:Sl Int) (kids:Sl RT)
namespace RT
def kind:RT->Int | .mk k _ _ _ _=>k
def n:RT->Int | .mk _ n _ _ _=>n
def s:RT->Sl UInt8 | .mk _ _ s _ _=>s
def keys:RT->Sl Int | .mk _ _ _ k _=>k
def kids:RT->Sl RT | .mk _ _ _ _ l=>l
mutual
def row:RT->List bL
 |.mk k n s ks l=>[.int .i64 k,.int .i64 n,dI 1 WH s,dI 1 wN ks,mm l]
def mm:Sl RT->bL
 |.nil=>.bq
 |.mk t l=>.slice 5 t (rows l)
def rows:List RT->List (List bL)
 |[]=>[]
 |v::vs=>row v::rows vs
end
def DC:∀ l:List RT,rows l=l.map row
 |[]=>by simp[rows]
 |v::vs=>by simp[rows,DC vs]
def Ot(l:Sl RT):mm l=dI 5 row l:=by cases l <;> simp[mm,dI,DC]
def fD(v:RT):row v=[.int .i64 v.kind,.int .i64 v.n,dI 1 WH v.s,dI 1 wN v.keys,dI 5 row v.kids]:=by
 cases v; simp[row,Ot,kind,n,s,keys,kids]
def ct(v:RT):(row v).length=5:=by rw[fD]; rfl
def mE{v x:RT}(h:x∈v.kids.list):SizeOf.sizeOf x<SizeOf.sizeOf v:=by
 cases v with
 |mk k n s ks l =>
  cases l with
  |nil=>simp[RT.kids,Sl.list] at h
  |mk t l =>
   have:=xQ (show x∈l from h);simp; omega
end RT
section
variable {β:Type} {O:bD} {h:bm} {d:Nat} {k:KO β} {kt:KT β}
def qMq{α:Type}(sz:Nat)(f:α->List bL)(s:Sl α)(k:Nat)(M:k<=s.len):∃ b,CA sz b ((s.list.take k).map f)/\cH .nil (.slice sz false (.k (.v (.c (.p (dI sz f s))))) none (some (.k (kI (k:Int)))) none)=some (.pure (.v (.c (.p b)))):=by
 cases s with
 |nil =>
  have:k=0:=E8.1 M;subst this;exact⟨.bq,.inl ⟨rfl,by simp[Sl.list]⟩,rfl⟩
 |mk t l =>
  have A:k<=l.length:=M;refine⟨.slice sz (jm (t&&k==(l.map f).length) k none) (((l.map f).take k).drop 0),.inr ⟨_,by rw[eI,<- mK]; rfl⟩,?_⟩;show Option.map (λc=>cA.pure (.v (.c c))) (fW sz false (.p (.slice sz t (l.map f))) none (some k) none)=_;have:fW sz false (.p (.slice sz t (l.map f))) none (some k) none=some (.p (.slice sz (jm (t&&k==(l.map f).length) k none) (((l.map f).take k).drop 0))):=by
   simp only[fW];simp[A]
  rw[this]; rfl
def qM2{α:Type}(sz:Nat)(f:α->List bL)(s:Sl α)(k:Nat)(M:k<=s.len):∃ b,CA sz b ((s.list.drop k).map f)/\cH .nil (.slice sz false (.k (.v (.c (.p (dI sz f s))))) (some (.k (kI (k:Int)))) none none)=some (.pure (.v (.c (.p b)))):=by
 cases s with
 |nil =>
  have:k=0:=E8.1 M;subst this;exact⟨.bq,.inl ⟨rfl,by simp[Sl.list]⟩,rfl⟩
 |mk t l =>
  have A:k<=l.length:=M;refine⟨.slice sz (jm (t&&(l.map f).length==(l.map f).length) (l.map f).length none) (((l.map f).take (l.map f).length).drop k),.inr ⟨_,by rw[tb,<- mJ]; rfl⟩,?_⟩;show Option.map (λc=>cA.pure (.v (.c c))) (fW sz false (.p (.slice sz t (l.map f))) (some k) none none)=_;have:fW sz false (.p (.slice sz t (l.map f))) (some k) none none=some (.p (.slice sz (jm (t&&(l.map f).length==(l.map f).length) (l.map f).length none) (((l.map f).take (l.map f).length).drop k))):=by
   simp only[fW];simp[A]
  rw[this]; rfl
end
open Go.RowKit Go.ChangeShapes Go.WideShapes
section
variable [Sym] {H:Type} {enc:TypeId×Value->H} {P:Program} {w:World} {spare:Nat->Bool} {held:Bool}
def qOg{ts:List TypeId}(A:uk P ts=true){t:TypeId}{U:Array Field}(hu:P.underlying t=some (.struct U))(hc:P.cellsOf t≠1){v:Value}{d:DataW H}{ps:List MemPlace}(ht:t∈ts)(hd:DataW.Trod enc P w 0 spare held t v d ps) :
  ∃ cs n row,v = .agg cs/\fq qm (allI w) (.v (.agg (bp row))) (.agg cs)/\j9 P n t row:=by
 have hv:∃ cs,v = .agg cs:=by
  obtain⟨fuel,M⟩:=hd;cases fuel with
  |zero=>simp[DataW.trod] at M
  |succ n =>
   obtain⟨_,_,_,_,hl,_⟩:=DataW.trod_struct hu M;cases v with
   |agg cs=>exact⟨cs,rfl⟩
   |_=>exact absurd hl.symm hc
 obtain⟨cs,rfl⟩:=hv;obtain⟨n,row,h1,h2⟩:=qT6 A ht hd;exact⟨cs,n,row,rfl,h1,h2⟩
end
def qH5{Q:TypeId->List bL->Prop}:∀ (A:List Field) (rs:List (List bL)),cS (λ(f:Field) r=>Q f.type r) A rs->cS Q (A.map (·.type)) rs
 |[],[],_=>trivial
 |_::A,_::rs,h=>⟨h.1,qH5 A rs h.2⟩
 |[],_::_,h=>h.elim
 |_::_,[],h=>h.elim
section
variable {P:Program}
def Z8{t:TypeId}{k:IntKind}(hu:P.underlying t=some (.int k)){n:Nat}{row:List bL}(h:j9 P n t row):∃ x,row=[.int k x]/\(Lit.int k x).wf=true:=by
 cases n with
 |zero=>exact h.elim
 |succ n=>simp only[j9,hu] at h; exact h
def qJ0{α:Type}{f:α->List bL}{Q:List bL->Prop}(A:∀ r,Q r->∃ a,r=f a):∀ rows:List (List bL),(∀ r∈rows,Q r)->∃ l:List α,rows=l.map f
 |[],_=>⟨[],rfl⟩
 |r::rows,h=>by
  obtain⟨a,rfl⟩:=A r (h r bR);obtain⟨l,rfl⟩:=qJ0 A rows (λr M=>h r (by simp[M]));exact⟨a::l,rfl⟩
def qQB{t e:TypeId}{sz:Nat}{α:Type}{f:α->List bL}(hu:P.underlying t=some (.slice e))(hc:P.cellsOf e=sz){n:Nat}{row:List bL}(A:∀ m,m<n->∀ r,j9 P m e r->∃ a,r=f a)(h:j9 P n t row):∃ s:Sl α,row=[dI sz f s]/\s.len<=maxLen:=by
 cases n with
 |zero=>exact h.elim
 |succ n =>
  simp only[j9,hu] at h
  rcases h with rfl|⟨rows,rfl,hl,M⟩
  ·exact⟨.nil,rfl,eV _⟩
  ·obtain⟨l,rfl⟩:=qJ0 (f:=f) (A n (lJ _)) rows M;refine⟨.mk false l,by rw[hc]; rfl,?_⟩;rw[dj] at hl;exact hl
def qRj{t e:TypeId}(hu:P.underlying t=some (.slice e))(he:P.underlying e=some (.int .i64))(hc:P.cellsOf e=1){n:Nat}{row:List bL}(h:j9 P n t row):∃ s:Sl Int,row=[dI 1 wN s]/\s.len<=maxLen :=
 qQB hu hc (λm _ r A=>by obtain⟨x,rfl,_⟩:=Z8 he A; exact⟨x,rfl⟩) h
end
open Go.RowKit Go.ChangeShapes Go.WideShapes
namespace RT
end RT
section
variable {P:Program}
def qJH{α:Type}{f:α->List bL}{Q:List bL->Prop}{p:α->Prop}(A:∀ r,Q r->∃ a,r=f a/\p a):∀ rows:List (List bL),(∀ r∈rows,Q r)->∃ l:List α,rows=l.map f/\∀ a∈l,p a
 |[],_=>⟨[],rfl,λa h=>by cases h⟩
 |r::rows,h=>by
  obtain⟨a,rfl,M⟩:=A r (h r bR);obtain⟨l,rfl,hl⟩:=qJH A rows (λr U=>h r (by simp[U]));exact⟨a::l,rfl,λx hx=>by rcases dK.1 hx with rfl|hx; exact M; exact hl x hx⟩
def qH7{t e:TypeId}{sz:Nat}{α:Type}{f:α->List bL}{p:α->Prop}(hu:P.underlying t=some (.slice e))(hc:P.cellsOf e=sz){n:Nat}{row:List bL}(M:∀ m,m<n->∀ r,j9 P m e r->∃ a,r=f a/\p a)(h:j9 P n t row):∃ s:Sl α,row=[dI sz f s]/\s.len<=maxLen/\∀ a∈s.list,p a:=by
 cases n with
 |zero=>exact h.elim
 |succ n =>
  simp only[j9,hu] at h
  rcases h with rfl|⟨rows,rfl,hl,U⟩
  ·exact⟨.nil,rfl,eV _,λa h=>by cases h⟩
  ·obtain⟨l,rfl,A⟩:=qJH (f:=f) (p:=p) (M n (lJ _)) rows U;refine⟨.mk false l,by rw[hc]; rfl,?_,A⟩;rw[dj] at hl;exact hl
end
open Go.RowKit Go.ChangeShapes Go.WideShapes
section
variable [Sym] {H:Type} {enc:TypeId×Value->H} {P:Program} {w:World} {spare:Nat->Bool} {held:Bool} {r:Reach} {b0:Nat}
def qLt{t e:TypeId}{k:IntKind}{v:Value}{d:DataW H}{ps:List MemPlace}(ht:P.underlying t=some (.slice e))(he:P.underlying e=some (.int k))(hc:P.cellsOf e=1)
  (M:Value.okWide P w r b0 t v) (hd:DataW.Trod enc P w 0 spare held t v d ps) :
  ∃ o:Option (List Int),fq qm (allI w) (.pv (DX k o)) v/\(∀ n∈rv o,(Lit.int k n).wf=true)/\(rv o).length<=maxLen/\((∀ x∈d.weights P t,x<=reachBytes)->(rv o).length*P.bytesOf e<=reachBytes):=by
 obtain⟨a0,A,aa,rfl⟩:=okWide_slice ht M;obtain⟨fuel,hf⟩:=hd
 rcases open_ints ht he hc hf with ⟨h,_⟩|⟨a,len,cap,U,h,h1,h2,h3,h4,hx,h5,h6⟩
 ·simp[Value.cells] at h;obtain⟨rfl,rfl,rfl⟩:=h;exact⟨none,cD.p _ _ .bq,by simp[rv],by simp[rv],λ_=>by simp[rv]⟩
 ·simp[Value.cells] at h;obtain⟨rfl,rfl,rfl⟩:=h;have ad:A<=U.length:=by rw[h4]; split <;> omega
  have h0:a.spot=none:=by
   unfold Value.okWide at M;rw[ht] at M;dsimp only at M;unfold Cell.okWide at M;rw[ht] at M;dsimp only at M;unfold Cell.ok at M;rw[ht] at M;exact M.2.2.2.1
  have ab:d = .slice (lits k (U.take A)) (lits k (U.drop A)):=by
   have:=dh Prod.fst hx;exact this
  refine⟨some (U.take A),?_,λn hn=>h6 n (qN hn),by simp[rv]; omega,λhw=>?_⟩
  rotate_left
  ·have:=hw (((lits (H:=H) k (U.take A)).length+(lits (H:=H) k (U.drop A)).length)*P.bytesOf e) (by rw[ab]; simp[DataW.weights,ht]);have hl:(lits (H:=H) k (U.take A)).length=(U.take A).length:=by simp[lits]
   rw[hl] at this;show(U.take A).length*_<=_;exact qa (nc _ (Nat.le_add_right _ _)) this
  have hlen:((U.take A).map λn=>[bL.int k n]).length=A:=cM
  have ea:a=⟨a.block,a.off,none⟩:=by cases a; simp at h0; subst h0; rfl
  have el:∀ i,i<A->((U.take A).map λn=>[bL.int k n])[i]?=some [.int k (U.getD i 0)]:=by
   intro i hi;rw[dP,nZ,bF hi,fQ bn];simp[na,fQ (show i<U.length by omega)]
  have row:∀ i r,((U.take A).map λn=>[bL.int k n])[i]?=some r->i<A/\r=[.int k (U.getD i 0)]:=by
   intro i r hr;have hi:=(cQ.1 hr).1;rw[hlen] at hi;rw[el i hi] at hr;exact⟨hi,(kr hr).symm⟩
  have key:eW (allI w) (.slice 1 false ((U.take A).map λn=>[.int k n])) (.slice (some ⟨a.block,a.off,none⟩) ((U.take A).map λn=>[bL.int k n]).length aa):=by
   refine eW.slice 1 false _ a.block a.off aa (λi _=>.int k (U.getD i 0)) cb (by rw[hlen]; exact h2) ?_ ?_ ?_
   ·intro i r hr;rw[(row i r hr).2]; rfl
   ·intro i r j v hr hj;obtain⟨hi,rfl⟩:=row i r hr;cases j with
    |succ j=>simp at hj
    |zero =>
     have:=h5 i bn;rw[ea] at this;show w.cell? ⟨a.block,a.off+i*1+0,none⟩=_;rw[<- this];unfold Addr.add;split
     ·rename_i h; subst h; rfl
     ·simp
   ·intro i r j v hr hj;obtain⟨hi,rfl⟩:=row i r hr;cases j with
    |succ j=>simp at hj
    |zero=>simp only[vk,rJ] at hj; subst hj; exact .int k _
  rw[hlen,<- ea] at key;exact cD.p _ _ key
def qOL{ts:List TypeId}{A:List (DataW H)}(h:(DataW.weightsEach P ts A).all (·<=reachBytes)=true):∀ (j:Nat) {t:TypeId} {d:DataW H},ts[j]?=some t->A[j]?=some d->∀ x∈d.weights P t,x<=reachBytes:=by
 have key:∀ (ts:List TypeId) (A:List (DataW H)) (j:Nat) {t:TypeId} {d:DataW H},ts[j]?=some t->A[j]?=some d->∀ x∈d.weights P t,x∈DataW.weightsEach P ts A:=by
  intro ts
  induction ts with
  |nil=>intro A j t d h1; cases h1
  |cons a ts U =>
   intro A j t d h1 M x hx;cases A with
   |nil=>cases M
   |cons b A =>
    rw[DataW.weightsEach];cases j with
    |zero =>
     simp only[vk,rJ] at h1 M;subst h1; subst M;exact fb.2 (.inl hx)
    |succ j=>exact fb.2 (.inr (U A j h1 M x hx))
 intro j t d h1 M x hx;have:=lU.1 h x (key ts A j h1 M x hx)
 simpa using this
end
inductive RW where
 |mk (kind n:Int) (names:Sl Int) (kids:Sl RW)
namespace RW
def kind:RW->Int | .mk k _ _ _=>k
def n:RW->Int | .mk _ n _ _=>n
def names:RW->Sl Int | .mk _ _ s _=>s
def kids:RW->Sl RW | .mk _ _ _ l=>l
mutual
def row:RW->List bL
 |.mk k n s l=>[.int .i64 k,.int .i64 n,dI 1 wN s,mm l]
def mm:Sl RW->bL
 |.nil=>.bq
 |.mk t l=>.slice 4 t (rows l)
def rows:List RW->List (List bL)
 |[]=>[]
 |v::vs=>row v::rows vs
end
def DC:∀ l:List RW,rows l=l.map row
 |[]=>by simp[rows]
 |v::vs=>by simp[rows,DC vs]
def Ot(l:Sl RW):mm l=dI 4 row l:=by cases l <;> simp[mm,dI,DC]
def fD(v:RW):row v=[.int .i64 v.kind,.int .i64 v.n,dI 1 wN v.names,dI 4 row v.kids]:=by
 cases v; simp[row,Ot,kind,n,names,kids]
def ct(v:RW):(row v).length=4:=by rw[fD]; rfl
def mE{v x:RW}(h:x∈v.kids.list):SizeOf.sizeOf x<SizeOf.sizeOf v:=by
 cases v with
 |mk k n s l =>
  cases l with
  |nil=>simp[RW.kids,Sl.list] at h
  |mk t l =>
   have:=xQ (show x∈l from h);simp; omega
end RW
section
def ov :
  (∀ v:RW,v.row.length=4)/\(∀ v:RW,v.row[0]?=some (.int .i64 v.kind))/\(∀ v:RW,v.row[1]?=some (.int .i64 v.n))/\(∀ v:RW,v.row[2]?=some (dI 1 wN v.names))/\(∀ v:RW,v.row[3]?=some (dI 4 RW.row v.kids)) /\
  (∀ {β:Type}{h:bm}{k:KO β}(v:RW),bz true 4 (.v (.c (.p (.dc v.row 0)))) h k=k (.v (.agg (bp v.row))) h) :=
 ⟨RW.ct,λv=>by rw[RW.fD]; rfl,λv=>by rw[RW.fD]; rfl,λv=>by rw[RW.fD]; rfl,λv=>by rw[RW.fD]; rfl,λv=>qCU 4 v.row v.ct⟩
end
open Go.RowKit Go.ChangeShapes Go.WideShapes
section
variable {P:Program}
def qW0{A U tN tS M tL:TypeId}{fs:Array Field}(uR:P.underlying A=some (.struct fs))(hf:fs.toList.map (·.type)=[U,tN,tS,tL])(uK:P.underlying U=some (.int .i64))(uN:P.underlying tN=some (.int .i64))
  (uS:P.underlying tS=some (.slice M)) (uE:P.underlying M=some (.int .i64)) (cE:P.cellsOf M=1) (uL:P.underlying tL=some (.slice A)) (cR:P.cellsOf A=4) :
  ∀ (n:Nat) (row:List bL),j9 P n A row->∃ r:RW,row=r.row/\True:=by
 intro n
 induction n using Nat.strongRecOn with
 |ind n ih =>
  intro row h;cases n with
  |zero=>exact h.elim
  |succ n =>
   simp only[j9,uR] at h;obtain⟨rs,rfl,h⟩:=h;have h:=qH5 _ _ h;rw[hf] at h
   match rs,h with
   |[a,b,c,d],⟨h1,h2,h3,h4,_⟩ =>
    obtain⟨k,rfl,_⟩:=Z8 uK h1;obtain⟨m,rfl,_⟩:=Z8 uN h2;obtain⟨s,rfl,_⟩:=qRj uS uE cE h3;obtain⟨l,rfl,_⟩:=qH7 (f:=RW.row) (p:=λ_=>True) uL cR (λm hm r hr=>ih m bn r hr) h4;refine⟨.mk k m s l,?_,bB⟩;rw[RW.fD]; rfl
def qMR{A M:TypeId}(hR:∀ (n:Nat) (row:List bL),j9 P n A row->∃ r:RW,row=r.row/\True)(U:P.underlying M=some (.slice A))(cR:P.cellsOf A=4)(n:Nat)(x:bL)(h:j9 P n M [x]):∃ s:Sl RW,x=dI 4 RW.row s/\s.len<=maxLen/\∀ r∈s.list,True:=by
 obtain⟨s,e,h1,h2⟩:=qH7 (f:=RW.row) (p:=λ_=>True) U cR (λm _ r hr=>hR m r hr) h;exact⟨s,by simpa using e,h1,h2⟩
end
section
variable {β:Type} {O:bD} {h:bm} {d:Nat} {k:KO β} {kt:KT β}
def qNl(sz:Nat)(a i:bt)(p:cA)(e:cH .nil (.il sz (.k a) (.k i))=some p):∃ v,p = .pure v:=by
 have e':(match some a,(some i).bind tM with
  |some (.v (.c (.p (.slice A _ rows)))),some k =>
   if A=sz then (match rows[k]? with|some row=>some (cA.pure (.pv (.dc row 0)))|none=>none) else none
  |some (.v (.c (.gm A rows _))),some k =>
   if A=sz then (match rows[k]? with|some row=>some (.pure (.pv (.dc row 0)))|none=>none) else none
  |some (.v (.c (.cf r off len _ A))),some k=>if A=sz/\k<len then some (.pure (.v (.c (.ptr r (off+k*sz))))) else none
  |_,_=>none)=some p:=e
 clear e;revert e';generalize (some i).bind tM=j;intro e;split at e
 ·split at e
  ·split at e
   ·exact⟨_,(kr e).symm⟩
   ·cases e
  ·cases e
 ·split at e
  ·split at e
   ·exact⟨_,(kr e).symm⟩
   ·cases e
  ·cases e
 ·split at e
  ·exact⟨_,(kr e).symm⟩
  ·cases e
 ·cases e
def qC7(sz:Nat)(a i:bt):br O (.il sz (.k a) (.k i)) h d kt=bU sz a i h λv h=>kt v h cj:=by
 rw[Z9 _ (qNl sz a i)];exact(qFK O sz (.k a) (.k i) .nil h d (λv h=>kt v h cj)).symm
def qT2(g:Bool)(n off:Nat)(row:List bL):br O (.load g n (.k (.v (.c (.p (.dc row off)))))) h d kt=bz g n (.v (.c (.p (.dc row off)))) h λv h=>kt v h cj:=by
 rw[Z9 (.load g n (.k (.v (.c (.p (.dc row off)))))) (λp e=>?_)]
 ·exact(qFe O g n (.k (.v (.c (.p (.dc row off))))) .nil h d (λv h=>kt v h cj)).symm
 ·have e':(partOf g n (bp row) off).map cA.pure=some p:=e;cases hp:partOf g n (bp row) off with
  |none=>rw[hp] at e'; cases e'
  |some v=>rw[hp] at e'; exact⟨v,(kr e').symm⟩
def D1:=eU @qC7<|@qT2
end
section
variable {β:Type} {O:bD} {h:bm} {d:Nat} {k:KO β} {kt:KT β}
def Hn(h:bm)(o:bG)(ho:o ≠ .dead):(h.push o).get (.im h.bY.length)=some o:=by
 unfold bm.push bm.get;simp;cases o <;> first|rfl|exact absurd rfl ho
def qGy(n:Nat)(xs:List bL):(bp xs).mapM (freeze h (n+1))=some (xs.map λx=>(x,[])):=by
 unfold bp
 induction xs with
 |nil=>rfl
 |cons x xs A=>rw[dr,ek,A]; rfl
def qE9(n:Nat)(i:Nat)(sz:Nat)(cap:Option Nat)(rows:List (List bL))(hz:∀ r∈rows,r.length=sz)(A:h.get (.im i)=some (.cells (bp rows.flatten) 0)) :
  freeze h (n+2) (.cf (.im i) 0 rows.length cap sz)=some (.slice sz (cap==some rows.length) rows,[.im i]):=by
 have hl:(bp rows.flatten).length=rows.length*sz:=XH hz;have ht:((bp rows.flatten).drop 0).take (rows.length*sz)=bp rows.flatten:=by rw[eI]; exact gz bn
 have M:∀ xs:List bL,(xs.map λx=>(x,([]:List Ref))).map (λx=>Cell.p x.1)=bp xs:=λxs=>by rw[fU]; rfl
 have U:∀ xs:List bL,(xs.map λx=>(x,([]:List Ref))).flatMap (·.2)=[]:=λxs=>by induction xs with|nil=>rfl|cons x xs ih=>rw[dr,eJ,ih]; rfl
 unfold freeze;simp only[A,ht,qGy,rL,eG,M,U,Ya sz rows hz];rfl
def qFA(r:Ref)(off len sz:Nat)(cap:Option Nat):cP O 2 (.v (.c (.cf r off len cap sz))) h d k=k (kI (len:Int)) h:=by
 show Ck O (.len 2 (.k _)) .nil h d k=_;rw[CK]; rfl
end
section
variable {β:Type} {O:bD} {h:bm} {d:Nat} {k:KO β} {kt:KT β}
end
section
variable {β:Type} {O:bD} {h:bm} {d:Nat} {k:KO β}
def XV(sz i len:Nat)(cap:Option Nat)(cs:List Cell)(imm:Nat)(hl:cs.length=len*sz):gf sz (.v (.c (.cf (.im i) 0 len cap sz))) (some (.cells cs imm))=some (cs,len):=by
 unfold gf;dsimp only;rw[bF ⟨rfl,bn⟩,eI,gz bn]
def qOm{sz by':Nat}{i j la lb:Nat}{capb:Option Nat}{xs A:List Cell}{M:Nat}(hb:lb≠0)(hm:(la+lb)*by'<=1099511627776)(ga:h.get (.im i)=some (.cells xs 0))(U:h.get (.im j)=some (.cells A M))(lx:xs.length=la*sz)(ly:A.length=lb*sz) :
  bQ O (.append sz by' true (.k (.v (.c (.cf (.im i) 0 la none sz)))) (.k (.v (.c (.cf (.im j) 0 lb capb sz))))) h d k=k (.v (.c (.cf (.im h.bY.length) 0 (la+lb) none sz))) ((h.put (.im i) .dead).push (.cells (xs++A) 0)):=by
 have ea:ee sz by' true (.v (.c (.cf (.im i) 0 la none sz))) (some (.cells xs 0)) A lb=some ⟨λr=>.v (.c (.cf r 0 (la+lb) none sz)),[(.im i,.dead)],some (.cells (xs++A) 0),true⟩:=by
  unfold ee;rw[bA hb];dsimp only;rw[bF ⟨rfl,bn,bn⟩,bF bn,eI,gz bn]
 show Ck O _ .nil h d k=_;rw[CK];have hl:(h.put (.im i) .dead).bY.length=h.bY.length:=by show(h.bY.set i .dead).length=_; rw[vl]
 have:ib O (.append sz by' true (.k (.v (.c (.cf (.im i) 0 la none sz)))) (.k (.v (.c (.cf (.im j) 0 lb capb sz))))) .nil h d=some (.v (.c (.cf (.im h.bY.length) 0 (la+lb) none sz)),(h.put (.im i) .dead).push (.cells (xs++A) 0)):=by
  unfold ib;show((cA.go [.im i,.im j] _).exec O d h).map _=_;simp only[cA.exec,fN,ek,gg,ga,U,gC,rL,eG,hU,jb,dw,XV sz j lb capb A M ly,ea];simp[];rfl
 rw[this]; rfl
end
section
variable {β:Type} {O:bD} {h:bm} {d:Nat} {k:KO β} {kt:KT β}
noncomputable def om(h:bm)(rs:List Ref)(qs:List bG):bm :=
 match (qs.map (bG.eB (back rs qs.length (dC h.bY.length)))).drop rs.length with
 |[]=>fu h rs ((qs.map (bG.eB (back rs qs.length (dC h.bY.length)))).take rs.length)
 |o::new=>{ bY:=(fu h rs ((qs.map (bG.eB (back rs qs.length (dC h.bY.length)))).take rs.length)).bY++o::new,cW:=(fu h rs ((qs.map (bG.eB (back rs qs.length (dC h.bY.length)))).take rs.length)).cW }
noncomputable def sj(h:bm)(ye:List bt)(os:List bG)(rs:List Ref)(qs:List bG):Touch :=
 { rd:=(ye.flatMap bt.refs++os.flatMap bG.refs++rs).map Ref.site,wr:=rs.map Ref.site++(List.range ((qs.map (bG.eB (back rs qs.length (dC h.bY.length)))).drop rs.length).length).map (λj=>Site.im (h.bY.length+j)),oU:=Nat.blt 0 ((qs.map (bG.eB (back rs qs.length (dC h.bY.length)))).drop rs.length).length }
def qG6(g:FuncId)(args ye A:List bt)(rs:List Ref)(os M qs:List bG)(v:bt)(U:args.map bt.strip=ye)(e2:reach h cw (ye.flatMap bt.refs) []=rs)(e3:rs.mapM h.get=some os)
  (e4:ye.map (bt.eB (iU rs))=A) (e5:os.map (bG.eB (iU rs))=M) (hc:O g A M=some (v,qs)) (e6:rs.length<=qs.length) :
  dE O g args d h=some (v.eB (back rs qs.length (dC h.bY.length)),om h rs qs,sj h ye os rs qs):=by
 unfold dE om sj;simp only[U,e2,e3,e4,e5,hc,bA (Nat.not_lt.2 e6)];cases hd:(qs.map (bG.eB (back rs qs.length (dC h.bY.length)))).drop rs.length <;> rfl
def U5(g:FuncId)(args ye A:List bt)(rs:List Ref)(os M qs:List bG)(v:bt)(U:args.map bt.strip=ye)(e2:reach h cw (ye.flatMap bt.refs) []=rs)(e3:rs.mapM h.get=some os)
  (e4:ye.map (bt.eB (iU rs))=A) (e5:os.map (bG.eB (iU rs))=M) (hc:O g A M=some (v,qs)) (e6:rs.length<=qs.length) :
  bE O (.v (.c (.func g []))) args h d k=k (v.eB (back rs qs.length (dC h.bY.length))) (om h rs qs):=by
 have e:=qG6 (d:=d) g args ye A rs os M qs v U e2 e3 e4 e5 hc e6;show mG O g args d h k=_;rw[Ov,e];rfl
def yu(n:Nat)(seen:List Ref):reach h (n+1) [] seen=seen:=by unfold reach; rfl
def qi(n:Nat)(r:Ref)(todo seen:List Ref)(o:bG)(hs:r∉seen)(A:h.get r=some o):reach h (n+1) (r::todo) seen=reach h n (o.refs++todo) (seen++[r]):=by
 have:seen.contains r=false:=by simpa using hs
 conv=>lhs; unfold reach
 rw[this,iN,A]
def Hj(n:Nat)(r:Ref)(todo seen:List Ref)(hs:r∈seen):reach h (n+1) (r::todo) seen=reach h n todo seen:=by
 have:seen.contains r=true:=by simpa using hs
 conv=>lhs; unfold reach
 rw[this,iv]
end
def bm.ej{h:bm}{i:Nat}{o:bG}(A:h.get (.im i)=some o):h.bY[i]?=some o/\o ≠ .dead:=by
 unfold bm.get at A;cases hi:h.bY[i]? with
 |none=>simp only[hi] at A; cases A
 |some a =>
  simp only[hi] at A;cases a <;> first|(simp only[rJ] at A; subst A; exact⟨rfl,cb⟩)|cases A
def bm.mh{h:bm}{i:Nat}{o:bG}(hi:h.bY[i]?=some o)(ho:o ≠ .dead):h.get (.im i)=some o:=by
 unfold bm.get;simp only[hi];cases o <;> first|rfl|exact absurd rfl ho
def bm.oq{h:bm}{d g:Nat}{o:bG}(A:h.get (.own d g)=some o):h.cW.get d=some (g,o)/\o ≠ .dead:=by
 unfold bm.get at A;cases hi:h.cW.get d with
 |none=>simp only[hi] at A; cases A
 |some a =>
  obtain⟨M,x⟩:=a;simp only[hi] at A;cases hb:Nat.beq g M with
  |false=>rw[hb,iN] at A; cases A
  |true =>
   rw[hb,iv] at A;have:=Fk hb;subst this;cases x <;> first|(simp only[rJ] at A; subst A; exact⟨rfl,cb⟩)|cases A
def bm.zE{h:bm}{d g:Nat}{o:bG}(hi:h.cW.get d=some (g,o))(ho:o ≠ .dead):h.get (.own d g)=some o:=by
 unfold bm.get;simp only[hi,Nat.beq_refl,iv]
def bm.bX{h:bm}{r:Ref}{o x:bG}(hs:h.get r=some x)(ho:o ≠ .dead):(h.put r o).get r=some o:=by
 cases r with
 |im i =>
  obtain⟨h1,_⟩:=bm.ej hs;refine bm.mh ?_ ho;show(h.bY.set i o)[i]?=some o;rw[List.getElem?_set,bF rfl,bF (cQ.1 h1).1]
 |own d g =>
  obtain⟨h1,_⟩:=bm.oq hs
  letI:Sym:=⟨λ_=>0⟩
  exact bm.zE (Vq (g,o) (by rw[h1]; rfl)) ho
def bm.cz{h:bm}{r r':Ref}{o x:bG}(hs:h.get r=some x)(M:r≠r'):(h.put r o).get r'=h.get r':=by
 cases r with
 |im i=>cases r' with
  |im j =>
   have aa:i≠j:=λe=>M (by rw[e])
   unfold bm.get bm.put;simp only[List.getElem?_set,bA aa]
  |own d g=>rfl
 |own d g =>
  obtain⟨h1,_⟩:=bm.oq hs;cases r' with
  |im j=>rfl
  |own e g' =>
   by_cases U:d=e
   ·subst U;have hg:g'≠g:=λe=>M (by rw[e])
    have hb:Nat.beq g' g=false:=xS.2 λe=>hg (Fk e)
    letI:Sym:=⟨λ_=>0⟩
    have h2:(TM.set (g,o) h.cW d).get d=some (g,o):=Vq (g,o) (by rw[h1]; rfl);show(match (TM.set (g,o) h.cW d).get d with|some (g2,A)=>bif Nat.beq g' g2 then (match A with | .dead=>none|A=>some A) else none|none=>none)=(match h.cW.get d with|some (g2,A)=>bif Nat.beq g' g2 then (match A with | .dead=>none|A=>some A) else none|none=>none);rw[h1,h2];dsimp only;rw[hb]; rfl
   ·unfold bm.get bm.put;simp only[TM.ez _ _ _ _ U]
def bm.CQ(h:bm)(r:Ref)(o:bG):(h.put r o).bY.length=h.bY.length:=by
 cases r with
 |im i=>show(h.bY.set i o).length=_; simp
 |own d g=>rfl
def bm.CR{h:bm}{r:Ref}{o x:bG}(hs:h.get r=some x)(d:Nat):(h.put r o).gen d=h.gen d:=by
 cases r with
 |im i=>rfl
 |own e g =>
  obtain⟨h1,_⟩:=bm.oq hs;by_cases A:e=d
  ·subst A
   letI:Sym:=⟨λ_=>0⟩
   show(match (TM.set (g,o) h.cW e).get e with|some (g2,_)=>g2|none=>0)=(match h.cW.get e with|some (g2,_)=>g2|none=>0);rw[Vq (g,o) (by rw[h1]; rfl),h1]
  ·unfold bm.gen bm.put;simp only[TM.ez _ _ _ _ A]
def AL:∀ (rs:List Ref) (os:List bG) (h:bm),rs.Nodup->(∀ r∈rs,∃ x,h.get r=some x) ->
  (∀ (i:Nat) (r:Ref) (o:bG),rs[i]?=some r->os[i]?=some o->o ≠ .dead->(fu h rs os).get r=some o)/\(∀ r',r'∉rs->(fu h rs os).get r'=h.get r')/\(fu h rs os).bY.length=h.bY.length/\∀ d,(fu h rs os).gen d=h.gen d
 |[],os,h,_,_=>⟨λi r o e=>by simp at e,λ_ _=>by cases os <;> rfl,by cases os <;> rfl,λd=>by cases os <;> rfl⟩
 |r::rs,[],h,_,_=>⟨λi r o M A=>by simp at A,λ_ _=>rfl,rfl,λd=>rfl⟩
 |r::rs,o::os,h,hn,hx=>by
  obtain⟨U,aa⟩:=yV.1 hn;obtain⟨x,hr⟩:=hx r bR;have ab:∀ s∈rs,∃ x,(h.put r o).get s=some x:=λs hs=>by
   obtain⟨y,hy⟩:=hx s (by simp[hs]);exact⟨y,by rw[bm.cz hr (λe=>U (by rw[e]; exact hs))]; exact hy⟩
  obtain⟨i1,i2,i3,i4⟩:=AL rs os (h.put r o) aa ab;refine⟨λi s q M A hq=>?_,λs hs=>?_,i3.trans (bm.CQ h r o),λd=>(i4 d).trans (bm.CR hr d)⟩
  ·cases i with
   |zero =>
    simp only[vk,rJ] at M A;subst M; subst A;exact(i2 r U).trans (bm.bX hr hq)
   |succ i =>
    simp only[xO] at M A;exact i1 i s q M A hq
  ·simp only[dK,oG] at hs;exact(i2 s hs.2).trans (bm.cz hr (λe=>hs.1 e.symm))
structure FB (h:bm) (rs:List Ref) (qs:List bG) (h':bm):Prop where
 own:∀ (i:Nat) (r:Ref) (q:bG),rs[i]?=some r->(qs.map (bG.eB (back rs qs.length (dC h.bY.length))))[i]?=some q->q ≠ .dead->h'.get r=some q
 rk:∀ (r:Ref) (o:bG),r∉rs->h.get r=some o->h'.get r=some o
 new:∀ (j:Nat) (q:bG),(qs.map (bG.eB (back rs qs.length (dC h.bY.length))))[rs.length+j]?=some q->q ≠ .dead->h'.get (.im (h.bY.length+j))=some q
 len:h'.bY.length=h.bY.length+(qs.length - rs.length)
 gen:∀ d:Nat,h'.gen d=h.gen d
def qQ1(h:bm)(rs:List Ref)(qs:List bG):om h rs qs={ bY:=(fu h rs ((qs.map (bG.eB (back rs qs.length (dC h.bY.length)))).take rs.length)).bY++(qs.map (bG.eB (back rs qs.length (dC h.bY.length)))).drop rs.length,cW:=(fu h rs ((qs.map (bG.eB (back rs qs.length (dC h.bY.length)))).take rs.length)).cW }:=by
 unfold om;cases hd:(qs.map (bG.eB (back rs qs.length (dC h.bY.length)))).drop rs.length with
 |nil=>simp only[fa]
 |cons o new=>rfl
def qID{h:bm}{l:List bG}{r:Ref}{o:bG}(A:h.get r=some o):(bm.mk (h.bY++l) h.cW).get r=some o:=by
 cases r with
 |im i =>
  obtain⟨h1,M⟩:=bm.ej A;refine bm.mh ?_ M;show(h.bY++l)[i]?=some o;rw[j5 (cQ.1 h1).1,h1]
 |own d g=>exact A
def behind{h:bm}{rs:List Ref}{os qs:List bG}(hn:rs.Nodup)(e3:rs.mapM h.get=some os)(e6:rs.length<=qs.length):FB h rs qs (om h rs qs):=by
 letI:Sym:=⟨λ_=>0⟩
 have hx:∀ r∈rs,∃ x,h.get r=some x:=(XD e3).1;rw[qQ1];generalize A:qs.map (bG.eB (back rs qs.length (dC h.bY.length)))=ps;have hl:ps.length=qs.length:=by rw[<- A]; simp
 obtain⟨i1,i2,i3,i4⟩:=AL rs (ps.take rs.length) h hn hx;constructor
 ·rw[A];intro i r q U e2 M;have hi:i<rs.length:=(cQ.1 U).1;exact qID (i1 i r q U (by rw[nZ,bF hi]; exact e2) M)
 ·intro r o hr hg;exact qID ((i2 r hr).trans hg)
 ·rw[A];intro j q e M;refine bm.mh ?_ M;show((fu h rs (ps.take rs.length)).bY++ps.drop rs.length)[h.bY.length+j]?=some q;rw[kz bn,i3,n6];rw[show rs.length+(h.bY.length+j - h.bY.length)=rs.length+j by omega];exact e
 ·show((fu h rs (ps.take rs.length)).bY++ps.drop rs.length).length=_;rw[bV,i3,j0,hl]
 ·intro d;exact i4 d
def Hf{O:bD}{h:bm}(g:FuncId)(args ye A:List bt)(rs:List Ref)(os M qs:List bG)(v U:bt)(e1:args.map bt.strip=ye)(e2:reach h cw (ye.flatMap bt.refs) []=rs)(e3:rs.mapM h.get=some os)
  (e4:ye.map (bt.eB (iU rs))=A) (e5:os.map (bG.eB (iU rs))=M) (hc:O g A M=some (v,qs)) (e6:rs.length<=qs.length) (hn:rs.Nodup) (e7:v.eB (back rs qs.length (dC h.bY.length))=U) :
  ∃ h',(∀ {β:Type}(d:Nat)(k:KO β),bE O (.v (.c (.func g []))) args h d k=k U h')/\FB h rs qs h' :=
 ⟨om h rs qs,λd k=>by rw[<- e7]; exact U5 g args ye A rs os M qs v e1 e2 e3 e4 e5 hc e6,behind hn e3 e6⟩
end Go.AI
