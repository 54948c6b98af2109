/- Own work. Condition: what each theorem names. -/
import Derived.Test.YtnlmlcfipbnpgaaDoorTabTW
import Derived.Test.YtnlmlcfipbnpgaaDoorV0
set_option linter.all false
set_option maxRecDepth 100000
set_option maxHeartbeats 4000000
open Nat renaming reduceAdd->rA,reduceMul->rB,reduceLT->rC,reduceLeDiff->rD,reduceEqDiff->rE
open Int renaming reduceLT->rF,reduceLE->rG,reduceEq->rH,reduceToNat->rI
open Option renaming some.injEq->rJ,bind_eq_some_iff->rK,bind_eq_bind->rL
namespace Go.AI
def outR(ρ:List Ref):Ref->Option Ref
 |.im i=>ρ[i]?
 |.own .. => none
structure At (h:Heap) (ρ:List Ref) (C:List AObj):Prop where
 nodup:ρ.Nodup
 len:ρ.length=C.length
 get:∀ (i:Nat) (r:Ref) (o:AObj),ρ[i]?=some r->C[i]?=some o->h.get r=some (o.ren (outR ρ))
def Closed(C:List AObj):Prop:=∀ o∈C,o ≠ .dead/\∀ r∈o.refs,∃ i,r = .im i/\i<C.length
theorem Cell.ren_ren{σ τ υ:Ref->Option Ref}(c:Cell)(h:∀ r∈c.refs,∃ s t,σ r=some s/\τ s=some t/\υ r=some t):(c.ren σ).ren τ=c.ren υ:=by
 cases c with
 |ptr r off=>obtain⟨s,t,h1,h2,h3⟩:=h r (by simp[Cell.refs]); simp only[Cell.ren,h1,h2,h3]
 |sref r off len cap sz=>obtain⟨s,t,h1,h2,h3⟩:=h r (by simp[Cell.refs]); simp only[Cell.ren,h1,h2,h3]
 |mref r=>obtain⟨s,t,h1,h2,h3⟩:=h r (by simp[Cell.refs]); simp only[Cell.ren,h1,h2,h3]
 |tsl sz rows r=>obtain⟨s,t,h1,h2,h3⟩:=h r (by simp[Cell.refs]); simp only[Cell.ren,h1,h2,h3]
 |func f caps =>
  have:∀ caps:List Ref,(∀ r∈caps,∃ s t,σ r=some s/\τ s=some t/\υ r=some t)->∃ l m,caps.mapM σ=some l/\l.mapM τ=some m/\caps.mapM υ=some m:=by
   intro caps
   induction caps with
   |nil=>intro _; exact⟨[],[],rfl,rfl,rfl⟩
   |cons r rs ih =>
    intro hh;obtain⟨s,t,h1,h2,h3⟩:=hh r (by simp);obtain⟨l,m,j1,j2,j3⟩:=ih λx hx=>hh x (by simp[hx])
    exact⟨s::l,t::m,by simp[h1,j1],by simp[h2,j2],by simp[h3,j3]⟩
  obtain⟨l,m,j1,j2,j3⟩:=this caps (λr hr=>h r (by simpa [Cell.refs] using hr));simp only[Cell.ren,j1,j2,j3]
 |_=>rfl
theorem AObj.ren_ren{σ τ υ:Ref->Option Ref}(o:AObj)(h:∀ r∈o.refs,∃ s t,σ r=some s/\τ s=some t/\υ r=some t):(o.ren σ).ren τ=o.ren υ:=by
 have hc:∀ cs:List Cell,(∀ r∈cs.flatMap Cell.refs,∃ s t,σ r=some s/\τ s=some t/\υ r=some t)->(cs.map (Cell.ren σ)).map (Cell.ren τ)=cs.map (Cell.ren υ):=by
  intro cs hh;rw[List.map_map];refine List.map_congr_left λc hm=>Cell.ren_ren c λr hr=>hh r (List.mem_flatMap.2 ⟨c,hm,hr⟩)
 cases o with
 |cells cs imm=>simp only[AObj.ren]; rw[hc cs (λr hr=>h r (by simpa [AObj.refs] using hr))]
 |map es clock =>
  simp only[AObj.ren,List.map_map]
  congr 1
  refine List.map_congr_left λe hm=>?_
  have he:∀ r∈e.2.1.refs,∃ s t,σ r=some s/\τ s=some t/\υ r=some t:=λr hr=>h r (by simp only[AObj.refs]; exact List.mem_flatMap.2 ⟨e,hm,hr⟩)
  obtain⟨a,b,c⟩:=e;simp only[Function.comp];cases b with
  |c x=>simp only[Comp.ren]; rw[Cell.ren_ren x he]
  |agg cs=>simp only[Comp.ren]; rw[hc cs he]
 |_=>rfl
theorem Cell.ren_id{σ:Ref->Option Ref}(c:Cell)(h:∀ r∈c.refs,σ r=some r):c.ren σ=c:=by
 cases c with
 |ptr r off=>simp only[Cell.ren,h r (by simp[Cell.refs])]
 |sref r off len cap sz=>simp only[Cell.ren,h r (by simp[Cell.refs])]
 |mref r=>simp only[Cell.ren,h r (by simp[Cell.refs])]
 |tsl sz rows r=>simp only[Cell.ren,h r (by simp[Cell.refs])]
 |func f caps =>
  have:∀ caps:List Ref,(∀ r∈caps,σ r=some r)->caps.mapM σ=some caps:=by
   intro caps
   induction caps with
   |nil=>intro _; rfl
   |cons r rs ih=>intro hh; simp[hh r (by simp),ih λx hx=>hh x (by simp[hx])]
  simp only[Cell.ren,this caps (λr hr=>h r (by simpa [Cell.refs] using hr))]
 |_=>rfl
theorem AObj.ren_id{σ:Ref->Option Ref}(o:AObj)(h:∀ r∈o.refs,σ r=some r):o.ren σ=o:=by
 have hc:∀ cs:List Cell,(∀ r∈cs.flatMap Cell.refs,σ r=some r)->cs.map (Cell.ren σ)=cs:=by
  intro cs hh;refine(List.map_congr_left λc hm=>Cell.ren_id c λr hr=>hh r (List.mem_flatMap.2 ⟨c,hm,hr⟩)).trans (List.map_id _)
 cases o with
 |cells cs imm=>simp only[AObj.ren]; rw[hc cs (λr hr=>h r (by simpa [AObj.refs] using hr))]
 |map es clock =>
  simp only[AObj.ren]
  congr 1
  refine(List.map_congr_left λe hm=>?_).trans (List.map_id _);have he:∀ r∈e.2.1.refs,σ r=some r:=λr hr=>h r (by simp only[AObj.refs]; exact List.mem_flatMap.2 ⟨e,hm,hr⟩)
  obtain⟨a,b,c⟩:=e;cases b with
  |c x=>simp only[Comp.ren,id]; rw[Cell.ren_id x he]
  |agg cs=>simp only[Comp.ren,id]; rw[hc cs he]
 |_=>rfl
theorem Cell.refs_ren{σ:Ref->Option Ref}{f:Ref->Ref}(c:Cell)(h:∀ r∈c.refs,σ r=some (f r)):(c.ren σ).refs=c.refs.map f:=by
 cases c with
 |ptr r off=>simp only[Cell.ren,h r (by simp[Cell.refs]),Cell.refs,List.map]
 |sref r off len cap sz=>simp only[Cell.ren,h r (by simp[Cell.refs]),Cell.refs,List.map]
 |mref r=>simp only[Cell.ren,h r (by simp[Cell.refs]),Cell.refs,List.map]
 |tsl sz rows r=>simp only[Cell.ren,h r (by simp[Cell.refs]),Cell.refs,List.map]
 |func g caps =>
  have:∀ caps:List Ref,(∀ r∈caps,σ r=some (f r))->caps.mapM σ=some (caps.map f):=by
   intro caps
   induction caps with
   |nil=>intro _; rfl
   |cons r rs ih=>intro hh; simp[hh r (by simp),ih λx hx=>hh x (by simp[hx])]
  simp only[Cell.ren,this caps (λr hr=>h r (by simpa [Cell.refs] using hr)),Cell.refs]
 |_=>rfl
theorem AObj.refs_ren{σ:Ref->Option Ref}{f:Ref->Ref}(o:AObj)(h:∀ r∈o.refs,σ r=some (f r)):(o.ren σ).refs=o.refs.map f:=by
 have hc:∀ cs:List Cell,(∀ r∈cs.flatMap Cell.refs,σ r=some (f r))->(cs.map (Cell.ren σ)).flatMap Cell.refs=(cs.flatMap Cell.refs).map f:=by
  intro cs
  induction cs with
  |nil=>intro _; rfl
  |cons c cs ih =>
   intro hh;simp only[List.map_cons,List.flatMap_cons,List.map_append];rw[Cell.refs_ren c (λr hr=>hh r (by simp[hr])),ih (λr hr=>hh r (by simp only[List.flatMap_cons,List.mem_append]; exact Or.inr hr))]
 cases o with
 |cells cs imm=>simp only[AObj.ren,AObj.refs]; exact hc cs (λr hr=>h r (by simpa [AObj.refs] using hr))
 |map es clock =>
  simp only[AObj.ren,AObj.refs] at h ⊢
  induction es with
  |nil=>rfl
  |cons e es ih =>
   simp only[List.map_cons,List.flatMap_cons,List.map_append];rw[ih (λr hr=>h r (by simp only[List.flatMap_cons,List.mem_append]; exact Or.inr hr))]
   congr 1
   have he:∀ r∈e.2.1.refs,σ r=some (f r):=λr hr=>h r (by simp only[List.flatMap_cons,List.mem_append]; exact Or.inl hr)
   obtain⟨a,b,c⟩:=e;cases b with
   |c x=>simp only[Comp.ren,Comp.refs]; exact Cell.refs_ren x he
   |agg cs=>simp only[Comp.ren,Comp.refs]; exact hc cs he
 |_=>rfl
theorem qD3:∀ (rs:List Ref) (i k:Nat) (r:Ref),rs.Nodup->rs[i]?=some r->idx r rs k=some (k+i)
 |[],i,k,r,_,e=>by simp at e
 |s::rs,0,k,r,_,e=>by
  simp only[List.getElem?_cons_zero,rJ] at e;subst e;simp[idx]
 |s::rs,i+1,k,r,hn,e=>by
  simp only[List.getElem?_cons_succ] at e;obtain⟨h1,h2⟩:=List.nodup_cons.1 hn;have hne:r≠s:=λe'=>h1 (by rw[<- e']; exact List.mem_of_getElem? e)
  simp only[idx,decide_eq_false hne,cond_false];rw[qD3 rs i (k+1) r h2 e]
  congr 1; omega
theorem qPt{ρ:List Ref}{i:Nat}{r:Ref}(hn:ρ.Nodup)(e:ρ[i]?=some r):inn ρ r=some (.im i):=by
 unfold inn;rw[qD3 ρ i 0 r hn e,Nat.zero_add];rfl
def outF(ρ:List Ref)(r:Ref):Ref:=(outR ρ r).getD r
theorem qCX{ρ:List Ref}{i:Nat}(hi:i<ρ.length):outR ρ (.im i)=some (outF ρ (.im i))/\ρ[i]?=some (outF ρ (.im i)):=by
 have:ρ[i]?=some ρ[i]:=List.getElem?_eq_getElem hi;simp only[outF,outR,this,Option.getD_some,and_self]
theorem qO8{ρ:List Ref}(hn:ρ.Nodup){i j:Nat}(hi:i<ρ.length)(hj:j<ρ.length)(e:outF ρ (.im i)=outF ρ (.im j)):i=j:=by
 have h1:=(qCX hi).2;have h2:=(qCX hj).2;rw[<- e] at h2;exact(List.nodup_iff_injective_getElem?' hn) h1 h2
where
 List.nodup_iff_injective_getElem?' {ρ:List Ref} (hn:ρ.Nodup) {i j:Nat} {r:Ref} (h1:ρ[i]?=some r) (h2:ρ[j]?=some r):i=j:=by
  have:=qD3 ρ i 0 r hn h1;rw[qD3 ρ j 0 r hn h2] at this;simp only[Nat.zero_add,rJ] at this;exact this.symm
theorem qFx{h:Heap}{ρ:List Ref}{C:List AObj}(A:At h ρ C)(K:Closed C):∀ (n:Nat) (todo seen:List Ref),
  (∀ r∈todo,∃ i,r = .im i/\i<C.length)->(∀ r∈seen,∃ i,r = .im i/\i<C.length) ->
  reach h n (todo.map (outF ρ)) (seen.map (outF ρ))=(reach ⟨C,.nil⟩ n todo seen).map (outF ρ)
 |0,todo,seen,_,_=>rfl
 |n+1,[],seen,_,_=>rfl
 |n+1,r::todo,seen,ht,hs=>by
  obtain⟨i,rfl,hi⟩:=ht r (by simp);have hiρ:i<ρ.length:=by rw[A.len]; exact hi
  have hc:(seen.map (outF ρ)).contains (outF ρ (.im i))=seen.contains (.im i):=by
   rw[Bool.eq_iff_iff,List.contains_iff_mem,List.contains_iff_mem];constructor
   ·intro hm;obtain⟨s,h1,h2⟩:=List.mem_map.1 hm;obtain⟨j,rfl,hj⟩:=hs s h1;rw[qO8 A.nodup (by rw[A.len]; exact hj) hiρ h2] at h1;exact h1
   ·intro hm;exact List.mem_map.2 ⟨_,hm,rfl⟩
  rw[List.map_cons]
  conv=>lhs; unfold reach
  conv=>rhs; unfold reach
  rw[hc];cases hb:seen.contains (.im i) with
  |true =>
   rw[cond_true,cond_true];exact qFx A K n todo seen (λr hr=>ht r (by simp[hr])) hs
  |false =>
   rw[cond_false,cond_false];have hCi:C[i]?=some C[i]:=List.getElem?_eq_getElem hi;have hmem:C[i]∈C:=List.getElem_mem hi;obtain⟨hd,hr⟩:=K _ hmem;rw[A.get i _ _ (qCX hiρ).2 hCi,Heap.get_im_of (h:=⟨C,.nil⟩) hCi hd];dsimp only
   rw[AObj.refs_ren (f:=outF ρ) C[i] (λr hr'=>by
    obtain⟨j,rfl,hj⟩:=hr r hr'
    exact(qCX (by rw[A.len]; exact hj)).1)]
   rw[<- List.map_append,show seen.map (outF ρ)++[outF ρ (.im i)]=(seen++[Ref.im i]).map (outF ρ) by simp];refine qFx A K n _ _ (λr hr'=>?_) (λr hr'=>?_)
   ·rcases List.mem_append.1 hr' with hm|hm
    ·exact hr r hm
    ·exact ht r (by simp[hm])
   ·rcases List.mem_append.1 hr' with hm|hm
    ·exact hs r hm
    ·rw[List.mem_singleton.1 hm]; exact⟨i,rfl,hi⟩
def Rooted(C:List AObj):Prop:=Closed C/\reach ⟨C,.nil⟩ fuelReach [.im 0] []=(List.range C.length).map Ref.im
theorem qPG{ρ:List Ref}:((List.range ρ.length).map Ref.im).map (outF ρ)=ρ:=by
 refine List.ext_getElem? λi=>?_
 rw[List.getElem?_map,List.getElem?_map];by_cases hi:i<ρ.length
 ·rw[List.getElem?_range hi,(qCX hi).2]; rfl
 ·rw[List.getElem?_eq_none (by simpa using hi),List.getElem?_eq_none (by simpa using hi)]; rfl
theorem At.mapM{h:Heap}{ρ:List Ref}{C:List AObj}(A:At h ρ C):ρ.mapM h.get=some (C.map (AObj.ren (outR ρ))):=by
 have:∀ (l:List Ref) (D:List AObj),l.length=D.length->(∀ (i:Nat) (r:Ref) (o:AObj),l[i]?=some r->D[i]?=some o->h.get r=some (o.ren (outR ρ)))->l.mapM h.get=some (D.map (AObj.ren (outR ρ))):=by
  intro l
  induction l with
  |nil=>intro D hl _; cases D with
   |nil=>rfl
   |cons _ _=>simp at hl
  |cons r l ih=>intro D hl hg; cases D with
   |nil=>simp at hl
   |cons o D =>
    have h0:=hg 0 r o rfl rfl;have h1:=ih D (by simpa using hl) (λi s q e1 e2=>hg (i+1) s q (by simpa using e1) (by simpa using e2));simp[h0,h1]
 exact this ρ C A.len A.get
def addNew:List Ref->List Ref->List Ref
 |seen,[]=>seen
 |seen,r::todo=>if r∈seen then addNew seen todo else addNew (seen++[r]) todo
theorem qC7{h:Heap}:∀ (todo:List Ref) (n:Nat) (seen:List Ref),todo.length<=n->(∀ r∈todo,r∉seen->∃ o,h.get r=some o/\o.refs=[])->reach h n todo seen=addNew seen todo
 |[],0,seen,_,_=>rfl
 |[],n+1,seen,_,_=>rfl
 |r::todo,0,seen,hl,_=>by simp at hl
 |r::todo,n+1,seen,hl,hg=>by
  have hl':todo.length<=n:=by simpa using hl
  unfold addNew;by_cases hs:r∈seen
  ·rw[if_pos hs,qA1 n r todo seen hs];exact qC7 todo n seen hl' λx hx=>hg x (by simp[hx])
  ·rw[if_neg hs];obtain⟨o,h1,h2⟩:=hg r (by simp) hs;rw[qAK n r todo seen o hs h1,h2,List.nil_append];exact qC7 todo n _ hl' λx hx hn=>hg x (by simp[hx]) λhm=>hn (by simp[hm])
section
variable {β:Type} {O:Oracle} {h:Heap} {d:Nat} {k:KO β}
end
structure Star (root:AObj) (leaves:List AObj):Prop where
 refs:root.refs=(List.range leaves.length).map λi=>Ref.im (i+1)
 live:root ≠ .dead
 leaf:∀ o∈leaves,o ≠ .dead/\o.refs=[]
 few:leaves.length<300
theorem Star.closed{root:AObj}{leaves:List AObj}(S:Star root leaves):Closed (root::leaves):=by
 intro o ho
 rcases List.mem_cons.1 ho with rfl|ho
 ·refine⟨S.live,λr hr=>?_⟩;rw[S.refs] at hr;obtain⟨i,hi,rfl⟩:=List.mem_map.1 hr;exact⟨i+1,rfl,by simp at hi ⊢; exact hi⟩
 ·obtain⟨h1,h2⟩:=S.leaf o ho;exact⟨h1,λr hr=>by rw[h2] at hr; cases hr⟩
theorem qE5:∀ (todo seen:List Ref),todo.Nodup->(∀ r∈todo,r∉seen)->addNew seen todo=seen++todo
 |[],seen,_,_=>by simp[addNew]
 |x::todo,seen,hn,hd=>by
  obtain⟨h1,h2⟩:=List.nodup_cons.1 hn;unfold addNew;rw[if_neg (hd x (by simp)),qE5 todo _ h2 (λr hr hm=>?_),List.append_assoc]; rfl
  rcases List.mem_append.1 hm with hm|hm
  ·exact hd r (by simp[hr]) hm
  ·exact h1 (List.mem_singleton.1 hm▸hr)
theorem Star.rooted{root:AObj}{leaves:List AObj}(S:Star root leaves):Rooted (root::leaves):=by
 refine⟨S.closed,?_⟩;have h0:(Heap.mk (root::leaves) .nil).get (.im 0)=some root:=Heap.get_im_of rfl S.live;show reach _ (399+1) [.im 0] []=_;rw[qAK 399 (.im 0) [] [] root (by simp) h0,S.refs,List.append_nil,List.nil_append];rw[qC7 _ 399 _ (by simp; have:=S.few; omega) (λr hr _=>?_),qE5 _ _ ?_ ?_]
 ·rw[List.length_cons,List.range_succ_eq_map,List.map_cons,List.map_map]; rfl
 ·refine List.pairwise_map.2 (List.nodup_range.imp ?_);intro a b h e;simp at e; exact h e
 ·intro r hr hm;obtain⟨i,_,rfl⟩:=List.mem_map.1 hr;simp at hm
 ·obtain⟨i,hi,rfl⟩:=List.mem_map.1 hr;have hi':i<leaves.length:=by simpa using hi
  have hm:=S.leaf leaves[i] (List.getElem_mem hi');exact⟨leaves[i],Heap.get_im_of (by show(root::leaves)[i+1]?=_; simp[hi']) hm.1,hm.2⟩
theorem At.root{h:Heap}{ρ:List Ref}{root:AObj}{leaves:List AObj}(A:At h ρ (root::leaves)){r:Ref}(e:ρ[0]?=some r):h.get r=some (root.ren (outR ρ)):=A.get 0 r root e rfl
def HI(h:Heap)(C:List AObj):Prop:=∀ (i:Nat) (o:AObj),C[i]?=some o->h.get (.im i)=some o
theorem HI.own{h:Heap}{C:List AObj}(H:HI h C)(d g:Nat)(o:AObj):HI (h.own d g o) C:=λi q e=>H i q e
theorem HI.of{h h':Heap}{C:List AObj}(H:HI h C)(I:∀ i,h'.get (.im i)=h.get (.im i)):HI h' C:=λi q e=>(I i).trans (H i q e)
section
variable {β:Type} {O:Oracle} {h:Heap} {d:Nat}
end
def Leafy(h:Heap)(n:Nat):Prop:=∀ j,0<j->j<n->∀ o,h.get (.im j)=some o->o.refs=[]
where
 mapM_get' {h:Heap} {ρ:List Ref} {C:List AObj} (A:At h ρ C):∀ r∈ρ,∃ x,h.get r=some x:=by
  intro r hr;obtain⟨k,hk,e⟩:=List.getElem_of_mem hr;have hkC:k<C.length:=by rw[<- A.len]; exact hk
  exact⟨_,A.get k r C[k] (by rw[<- e]; exact List.getElem?_eq_getElem hk) (List.getElem?_eq_getElem hkC)⟩
structure StarAt (h:Heap) (r:Nat) (root:AObj) (leaves:List AObj) (n:Nat):Prop where
 at':∃ ρ,At h ρ (root::leaves)/\ρ[0]?=some (.im r)/\∀ x∈ρ,∃ i,x = .im i
 leafy:r=0->Leafy h n
 few:n<=h.ims.length
theorem StarAt.own{h:Heap}{r:Nat}{root:AObj}{leaves:List AObj}{n:Nat}(X:StarAt h r root leaves n)(d g:Nat)(o:AObj):StarAt (h.own d g o) r root leaves n:=by
 obtain⟨ρ,A,e0,him⟩:=X.at';refine⟨⟨ρ,⟨A.nodup,A.len,λi x q e1 e2=>?_⟩,e0,him⟩,X.leafy,X.few⟩;obtain⟨j,rfl⟩:=him x (List.mem_of_getElem? e1);exact A.get i _ q e1 e2
theorem StarAt.of{h h':Heap}{r:Nat}{root:AObj}{leaves:List AObj}{n:Nat}(X:StarAt h r root leaves n)(I:∀ i,h'.get (.im i)=h.get (.im i))(hl:n<=h'.ims.length):StarAt h' r root leaves n:=by
 obtain⟨ρ,A,e0,him⟩:=X.at';refine⟨⟨ρ,⟨A.nodup,A.len,λi x q e1 e2=>?_⟩,e0,him⟩,λe j h0 hj o ho=>X.leafy e j h0 hj o (by rw[<- I]; exact ho),hl⟩;obtain⟨j,rfl⟩:=him x (List.mem_of_getElem? e1);rw[I]; exact A.get i _ q e1 e2
section
variable {β:Type} {O:Oracle} {h:Heap} {d:Nat} {k:KO β}
end
theorem qQy{h:Heap}{ρ:List Ref}{C:List AObj}(A:At h ρ C)(R:Rooted C){r:Ref}(e0:ρ[0]?=some r)(frz:Bool)(vs:List Comp)(v:TVal)(e1:(if frz then freezeT h (oneOf vs) else some (oneOf vs,[]))=some (v,[]))(hr:v.refs=[r]) :
  vfin frz 0 vs h=some (v.ren (inn ρ),C):=by
 letI:Sym:=⟨λ_=>0⟩
 have h0:0<C.length:=by rw[<- A.len]; exact(List.getElem?_eq_some_iff.1 e0).1
 have er:r=outF ρ (.im 0):=by
  have:=(qCX (ρ:=ρ) (i:=0) (by rw[A.len]; exact h0)).2;rw[e0] at this;exact Option.some.inj this
 have er2:reach h fuelReach [r] []=ρ:=by
  rw[er];have:=qFx A R.1 fuelReach [.im 0] [] (λr hr=>⟨0,List.mem_singleton.1 hr,h0⟩) (λr hr=>by cases hr);simp only[List.map_cons,List.map_nil] at this;rw[this,R.2,<- A.len,qPG]
 rw[qCL];unfold finV;simp only[e1,settle];have e2:reach h fuelReach (((ims 0).flatMap λr=>match h.get r with|some o=>o.refs|none=>[])++v.refs) (ims 0)=ρ:=by
  show reach h fuelReach ([]++v.refs) []=ρ;rw[List.nil_append,hr]; exact er2
 refine(congrArg (λF:List Ref=>some (v.ren (inn F),F.map λr=>match h.get r with|some o=>o.ren (inn F)|none=>AObj.dead)) e2).trans ?_;refine congrArg (λl=>some (v.ren (inn ρ),l)) ?_;refine List.ext_getElem? λi=>?_
 rw[List.getElem?_map];by_cases hi:i<C.length
 ·have hi':i<ρ.length:=by rw[A.len]; exact hi
  rw[List.getElem?_eq_getElem hi',Option.map_some,List.getElem?_eq_getElem hi];have hg:=A.get i ρ[i] C[i] (List.getElem?_eq_getElem hi') (List.getElem?_eq_getElem hi);rw[hg];dsimp only;have hc:=R.1 C[i] (List.getElem_mem hi)
  rw[AObj.ren_ren (υ:=λr=>some r) C[i] (λx hx=>by
   obtain⟨j,rfl,hj⟩:=hc.2 x hx;have hj':=qCX (ρ:=ρ) (i:=j) (by rw[A.len]; exact hj)
   exact⟨_,_,hj'.1,qPt A.nodup hj'.2,rfl⟩),AObj.ren_id _ λr _=>rfl]
 ·rw[List.getElem?_eq_none (by rw[A.len]; exact Nat.le_of_not_lt hi),List.getElem?_eq_none (Nat.le_of_not_lt hi)]; rfl
theorem qIw{O:Oracle}{g:FuncId}{az:List TVal}{v:TVal}{C:List AObj}(ha:allB pT az=true)(hc:O g az []=some (v,C))(K:Closed C)(h:Heap) :
  ∃ h',(∀ {β:Type}(d:Nat)(k:KO β),vcall O (.v (.c (.func g []))) az h d k=k (v.ren (back [] C.length (newRef h.ims.length))) h') /\
   At h' ((List.range C.length).map λi=>Ref.im (h.ims.length+i)) C/\(∀ r o,h.get r=some o->h'.get r=some o)/\(∀ d,h'.gen d=h.gen d)/\h'.ims.length=h.ims.length+C.length:=by
 obtain⟨a1,a2,a3⟩:=qI9 ha;obtain⟨h',c1,B⟩:=qBz (h:=h) g az az az [] [] [] C v _ a1 (by rw[a2]; rfl) rfl (a3 _) rfl hc (Nat.zero_le _) List.nodup_nil rfl;refine⟨h',λd k=>c1 d k,⟨?_,by simp,λi r o e1 e2=>?_⟩,λr o ho=>B.old r o (by simp) ho,B.gen,by rw[B.len]; rfl⟩
 ·refine List.pairwise_map.2 (List.nodup_range.imp ?_);intro a b hab e;simp at e; exact hab e
 ·have hi:i<C.length:=(List.getElem?_eq_some_iff.1 e2).1;rw[List.getElem?_map,List.getElem?_range hi,Option.map_some,rJ] at e1;subst e1;have hd:=(K o (List.mem_of_getElem? e2)).1;have hren:o.ren (back [] C.length (newRef h.ims.length))=o.ren (outR ((List.range C.length).map λi=>Ref.im (h.ims.length+i))):=by
   have hid:o.ren (λr=>some r)=o:=AObj.ren_id o λr _=>rfl
   rw[<- hid];have hk:=(K o (List.mem_of_getElem? e2)).2;rw[AObj.ren_ren (υ:=outR ((List.range C.length).map λi=>Ref.im (h.ims.length+i))),AObj.ren_ren (υ:=outR ((List.range C.length).map λi=>Ref.im (h.ims.length+i)))]
   ·intro r hr;obtain⟨j,rfl,hj⟩:=hk r hr;have:outR ((List.range C.length).map λi=>Ref.im (h.ims.length+i)) (.im j)=some (.im (h.ims.length+j)):=by show _[j]?=_; rw[List.getElem?_map,List.getElem?_range hj]; rfl
    exact⟨_,_,rfl,this,this⟩
   ·intro r hr;obtain⟨j,rfl,hj⟩:=hk r hr;have:outR ((List.range C.length).map λi=>Ref.im (h.ims.length+i)) (.im j)=some (.im (h.ims.length+j)):=by show _[j]?=_; rw[List.getElem?_map,List.getElem?_range hj]; rfl
    refine⟨_,_,rfl,?_,this⟩;have hb:Nat.blt j C.length=true:=by rw[Nat.blt_eq]; exact hj
    simp only[back,List.getElem?_nil,hb,cond_true,newRef,List.length_nil,Nat.sub_zero]
  have:=B.new i (o.ren (back [] C.length (newRef h.ims.length))) (by
   rw[List.length_nil,Nat.zero_add,List.getElem?_map,e2]; rfl) (by cases o <;> simp[AObj.ren] at hd ⊢)
  rw[this,hren]
end Go.AI
namespace Go.Proofs.YtnlmlcfipbnpgaaDoor.Ab
open Go Go.AI
noncomputable def S:Oracle:=orS (SI 98) (SJ 53)
noncomputable abbrev W:Mach:=lim tab.get S
noncomputable abbrev Om:Oracle:=orc S W
abbrev CAL(f:FuncId)(l:List TVal)(v:TVal):Prop:=∀ {β:Type}{k:KO β}{h:Heap}{d:Nat},vcall Om (.v (.c (.func f []))) l h d k=k v h
abbrev kA(r:List PVal):TVal:=.v (.agg (pcells r))
def withinM(a n:Int):Int:=if a.tmod n<0 then a.tmod n+n else a.tmod n
theorem qCy(a n:Int)(hn:0<n):0<=withinM a n/\withinM a n<n:=by
 have h1:=Int.tmod_lt_of_pos a hn;have h2 : -n<a.tmod n:=by
  have:=Int.tmod_lt_of_pos (-a) hn;rw[Int.neg_tmod] at this; omega
 unfold withinM;split <;> omega
theorem qPZ(a n:Int)(hn:0<n)(hs:n<1000000):Om 19 [kI a,kI n] []=some (kI (withinM a n),[]):=by
 refine(qAD rfl).trans ?_;show lim tab.get S 19 0 0 [kI a,kI n] h0=_;have hb:=qCy a n hn;rw[w19_0,b19_0];unfold withinM at hb ⊢;by_cases h:a.tmod n<0
 ·rw[if_pos h] at hb ⊢;have hw:IntKind.i64.wrap (a.tmod n+n)=a.tmod n+n:=qAL _ (by omega) (by omega);simp (maxSteps:=9^7) +contextual only[exa,rA,rB,rC,rD,rE,rF,rG,rH,rI,qF0 0 .i64 a n (by omega),h,hw,oneOf]
 ·rw[if_neg h];simp (maxSteps:=9^7) +contextual only[exa,rA,rB,rC,rD,rE,rF,rG,rH,rI,qF0 0 .i64 a n (by omega),h,oneOf]
theorem u19{β:Type}{k:KO β}{h:Heap}{d:Nat}(a n:Int)(hn:0<n)(hs:n<1000000):vcall Om (F_ 19) [kI a,kI n] h d k=k (kI (withinM a n)) h:=qAH 19 _ _ rfl (qPZ a n hn hs) rfl
theorem qQm:Om 10 [] []=some (kB true,[]):=(qAD rfl).trans (qBt blks_ok 3000 10 0 0 _ _ _ (by kernel_rfl))
open Go Go.AI
def isDigit(n:Nat):Bool:=Nat.ble 48 n&&Nat.ble n 57
def isLetter(n:Nat):Bool:=Nat.ble 97 n&&Nat.ble n 122||Nat.ble 65 n&&Nat.ble n 90||Nat.beq n 95
def isWord(n:Nat):Bool:=isLetter n||isDigit n
theorem qFm(b:UInt8):Om 107 [kU b] []=some (kB (isDigit b.toNat),[]):=(qAD rfl).trans (qEZ blks_ok (p:=isDigit) (N:=20) (by kernel_rfl) b)
theorem qNG(b:UInt8):Om 118 [kU b] []=some (kB (isLetter b.toNat),[]):=(qAD rfl).trans (qEZ blks_ok (p:=isLetter) (N:=20) (by kernel_rfl) b)
theorem qRv(b:UInt8):Om 138 [kU b] []=some (kB (isWord b.toNat),[]):=(qAD rfl).trans (qEZ blks_ok (p:=isWord) (N:=20) (by kernel_rfl) b)
theorem qUb(b:UInt8):Om 90 [kU b] []=some (kB (isDigit b.toNat),[]):=(qAD rfl).trans (qEZ blks_ok (p:=isDigit) (N:=20) (by kernel_rfl) b)
theorem qU8(b:UInt8):Om 89 [kU b] []=some (kB (isLetter b.toNat),[]):=(qAD rfl).trans (qEZ blks_ok (p:=isLetter) (N:=20) (by kernel_rfl) b)
def runLen(p:Nat->Bool):LB->Nat
 |[]=>0
 |b::s=>if p b.toNat then runLen p s+1 else 0
theorem qCj(p:Nat->Bool):∀ s,runLen p s<=s.length:=by
 intro s
 induction s with
 |nil=>exact Nat.le_refl _
 |cons b s ih=>unfold runLen; split <;> simp <;> omega
theorem qIT(p:Nat->Bool)(g:FuncId)(hg:∀ b,Om g [kU b] []=some (kB (p b.toNat),[]))(hp:∀ n,p n=true->n<128)(s:LB) :
  Om 137 [kS s,.v (.c (.func g []))] []=some (kI (runLen p s:Nat),[]):=by
 refine(qAD rfl).trans ?_;show lim tab.get S 137 0 0 [kS s,.v (.c (.func g []))] h0=_;rw[w137_0,b137_0,qK1];have loop:∀ (m pos:Nat) (h:Heap),s.length - pos=m->pos<=s.length->h.get (.own 7 1)=some (.siter s pos) ->
   lim tab.get S 137 0 1 [kS s,.v (.c (.func g [])),.v (.c (.ptr (.own 7 1) 0))] h=some (kI ((pos+runLen p (s.drop pos):Nat):Int),[]):=by
  intro m
  induction m with
  |zero =>
   intro pos h hm hl hh;rw[w137_1,b137_1,qGj s pos _ hh (by omega)];rw[qAj _ 0 (.c (.p (.bool false))) rfl,qAM,if_neg (by decide),w137_2,b137_2,qAs,qAI,qAJ _ _ rfl];have:pos=s.length:=by omega
   subst this;simp[runLen,oneOf]
  |succ m ih =>
   intro pos h hm hl hh;obtain⟨b,hb⟩:∃ b,s[pos]?=some b:=⟨s[pos]'(by omega),by simp⟩;have hd:s.drop pos=b::s.drop (pos+1):=by
    obtain⟨h1,h2⟩:=List.getElem?_eq_some_iff.1 hb;rw[List.drop_eq_getElem_cons h1,h2]
   rw[w137_1,b137_1,qFS s pos _ hh (by omega),qAj _ 0 (.c (.p (.bool true))) rfl,qAM,if_pos rfl,qAj _ 1 (.c (.p (.int .i64 (pos:Int)))) rfl,
    qDC s pos b hb,qAH g _ _ rfl (hg b) rfl,qIo,qAM]
   cases hpb:p b.toNat with
   |false =>
    rw[if_pos (show(!false)=true from rfl),qAI,qAJ _ _ rfl,hd];simp[runLen,hpb,oneOf]
   |true =>
    rw[if_neg (show ¬ (!true)=true by decide),qGE s pos b hb (hp _ hpb)];refine(ih (pos+1) _ (by omega) (by omega) (Heap.own_get h 7 1 _ (by decide) (λe=>by cases e))).trans ?_;rw[hd];simp[runLen,hpb];omega
 have:=loop s.length 0 (h0.own 7 1 (.siter s 0)) (by omega) (by omega) (Heap.own_get _ _ _ _ (by decide) (λe=>by cases e));rw[qOK];refine this.trans ?_;simp
open Go Go.AI
structure Tok where
 kind:Int
 text:LB
 n:Int
 pos:Int
def Tok.zero:Tok:=⟨0,[],0,0⟩
def Tok.row(t:Tok):List PVal:=[.int .i64 t.kind,.str t.text,.int .i64 t.n,.int .i64 t.pos]
def Tok.cells(t:Tok):List Cell:=[.p (.int .i64 t.kind),.p (.str t.text),.p (.int .i64 t.n),.p (.int .i64 t.pos)]
structure One where
 t:Tok
 n:Int
 e:Int
def One.val(r:One):TVal:=.tup [.agg r.t.cells,.c (.p (.int .i64 r.n)),.c (.p (.int .i64 r.e))]
def bad(e:Int):One:=⟨Tok.zero,0,e⟩
def wrdM(s:LB):One:=if 16<runLen isWord s then bad 4 else ⟨⟨1,s.take (runLen isWord s),0,0⟩,(runLen isWord s:Nat),0⟩
theorem qNm(n:Nat)(h:isWord n=true):n<128:=by
 simp only[isWord,isLetter,isDigit,Bool.or_eq_true,Bool.and_eq_true,Nat.ble_eq,Nat.beq_eq] at h;omega
theorem qGz(n:Nat)(h:isDigit n=true):n<128:=by
 simp only[isDigit,Bool.and_eq_true,Nat.ble_eq] at h;omega
theorem qSJ(s:LB):Om 108 [kS s] []=some (kI (runLen isWord s:Nat),[]):=by
 refine(qAD rfl).trans ?_;show lim tab.get S 108 0 0 [kS s] h0=_;rw[w108_0,b108_0,qFV 137 _ _ rfl rfl (λ_=>rfl) (qIT isWord 138 qRv qNm s) rfl,qAI,qAJ _ _ rfl];rfl
theorem qRT(s:LB):Om 119 [kS s] []=some ((wrdM s).val,[]):=by
 refine(qAD rfl).trans ?_;show lim tab.get S 119 0 0 [kS s] h0=_;rw[w119_0,b119_0,qDD,qAH 108 _ _ rfl (qSJ s) rfl,qBb,qAM];have hl:=qCj isWord s;unfold wrdM;by_cases h:16<runLen isWord s
 ·rw[if_pos (decide_eq_true (by omega)),qBs _ _ Tok.zero.cells rfl,qAt 4 2 _ _ _ _ _ (Heap.own_get _ _ _ _ (by decide) (λe=>by cases e)) (by decide) rfl rfl,qAI,qAI,qAJ _ _ rfl,if_pos h];rfl
 ·rw[if_neg (by rw[decide_eq_true_eq]; omega),qFh _ _ hl,qBs _ _ (Tok.cells ⟨1,s.take (runLen isWord s),0,0⟩) rfl,qAt 4 2 _ _ _ _ _ (Heap.own_get _ _ _ _ (by decide) (λe=>by cases e)) (by decide) rfl rfl,qAI,qAI,qAJ _ _ rfl,if_neg h];rfl
theorem qEn(s p:LB):Om 130 [kS s,kS p] []=some (kB (decide (s.take p.length=p)),[]):=by
 refine(qAD rfl).trans ?_;show lim tab.get S 130 0 0 [kS s,kS p] h0=_;rw[w130_0,b130_0,qAs,qAs,qIX];by_cases hl:p.length<=s.length
 ·have e:(!decide ((s.length:Int)<(p.length:Int)))=true:=by simp; omega
  simp only[e,qBw,qAs,qFh s p.length hl,qHo,qCT,qAI];rw[qAJ _ _ rfl]; rfl
 ·have e:(!decide ((s.length:Int)<(p.length:Int)))=false:=by simp; omega
  have e2:¬ s.take p.length=p:=λhh=>by have:=congrArg List.length hh; simp at this; omega
  simp only[e,qBV,qCC,qAI];rw[qAJ _ _ rfl,decide_eq_false e2]; rfl
theorem qIH(s p:LB):Om 99 [kS s,kS p] []=some (kB (decide (s.take p.length=p)),[]):=by
 refine(qAD rfl).trans ?_;show lim tab.get S 99 0 0 [kS s,kS p] h0=_;rw[w99_0,b99_0,qAH 130 _ _ rfl (qEn s p) rfl,qAI,qAJ _ _ rfl]; rfl
theorem qRO(s p:LB):Om 161 [kS s,kS p] []=some (kS (if s.take p.length=p then s.drop p.length else s),[]):=by
 refine(qAD rfl).trans ?_;show lim tab.get S 161 0 0 [kS s,kS p] h0=_;rw[w161_0,b161_0,qAH 130 _ _ rfl (qEn s p) rfl];by_cases h:s.take p.length=p
 ·have hl:p.length<=s.length:=by have:=congrArg List.length h; simp at this; omega
  rw[decide_eq_true h,qD5,qAs,qF6 _ _ hl,qAI,qAJ _ _ rfl,if_pos h]; rfl
 ·rw[decide_eq_false h,qCR,qAI,qAJ _ _ rfl,if_neg h]; rfl
theorem qOf(s p:LB):Om 145 [kS s,kS p] []=some (kS (if s.take p.length=p then s.drop p.length else s),[]):=by
 refine(qAD rfl).trans ?_;show lim tab.get S 145 0 0 [kS s,kS p] h0=_;rw[w145_0,b145_0,qAH 161 _ _ rfl (qRO s p) rfl,qAI,qAJ _ _ rfl]; rfl
def neg(s:LB):Nat:=if s.take 1=[45] then 1 else 0
def numVal(s:LB):Nat:=s.foldl (λx b=>10*x+(b.toNat - 48)) 0
theorem qFZ(s:LB)(b:UInt8):numVal (s++[b])=10*numVal s+(b.toNat - 48):=by simp[numVal]
theorem qHn(s:LB):(∀ b∈s,isDigit b.toNat=true)->numVal s<10 ^ s.length:=by
 have key:∀ (r:LB),(∀ b∈r,isDigit b.toNat=true)->∀ (x k:Nat),x<10 ^ k->r.foldl (λx b=>10*x+(b.toNat - 48)) x<10 ^ (k+r.length):=by
  intro r
  induction r with
  |nil=>intro _ x k h; exact h
  |cons b r ih =>
   intro hb x k h;have h1:=hb b (by simp);simp only[isDigit,Bool.and_eq_true,Nat.ble_eq] at h1;have:=ih (λc hc=>hb c (by simp[hc])) (10*x+(b.toNat - 48)) (k+1) (by rw[Nat.pow_succ]; omega);rw[show k+(b::r).length=k+1+r.length by simp; omega];exact this
 intro h
 simpa [numVal] using key s h 0 0 (by decide)
theorem qRH(p:Nat->Bool):∀ (s:LB),∀ b∈s.take (runLen p s),p b.toNat=true:=by
 intro s
 induction s with
 |nil=>intro b hb; simp[runLen] at hb
 |cons c s ih =>
  intro b hb;unfold runLen at hb;cases hc:p c.toNat with
  |false=>rw[hc] at hb; simp at hb
  |true =>
   rw[hc] at hb;simp only[if_true,List.take_succ_cons,List.mem_cons] at hb
   rcases hb with rfl|hb
   ·exact hc
   ·exact ih b hb
def numberM(s:LB):One :=
 if 19<runLen isDigit (s.drop (neg s)) then bad 4
 else if 9223372036854775807+neg s<numVal ((s.drop (neg s)).take (runLen isDigit (s.drop (neg s)))) then bad 11
 else ⟨⟨3,[],if 0<neg s then -(numVal ((s.drop (neg s)).take (runLen isDigit (s.drop (neg s)))):Int) else (numVal ((s.drop (neg s)).take (runLen isDigit (s.drop (neg s)))):Int),0⟩,((neg s+runLen isDigit (s.drop (neg s)):Nat):Int),0⟩
theorem qLB(g n x:Nat)(hg:g<=1)(hn:n<=19)(hx:x<18446744073709551616)(h:Heap)(cs:List Cell)(hh:h.get (.own 2 1)=some (.cells cs 0))(hc:cs.length=4) :
  lim tab.get S 120 0 2 [.v (.c (.ptr (.own 2 1) 0)),kI (g:Int),kI (n:Int),kN .u64 (x:Int)] h=some ((if 9223372036854775807+g<x then bad 11 else ⟨⟨3,[],if 0<g then -(x:Int) else x,0⟩,((g+n:Nat):Int),0⟩:One).val,[]):=by
 rw[w120_2,b120_2,qCA,qCc _ (by omega) (by omega),qAZ,qCc _ (by omega) (by omega),qBb,qAM];by_cases h1:9223372036854775807+g<x
 ·rw[if_pos (decide_eq_true (by omega)),qBs _ _ Tok.zero.cells rfl,qAt 4 2 1 _ cs _ _ hh (by decide) hc rfl,qAI,qAI,qAJ _ _ rfl,if_pos h1];rfl
 ·rw[if_neg (by rw[decide_eq_true_eq]; omega),qBb,qAM,if_neg h1];by_cases h2:0<g
  ·have hg1:g=1:=by omega
   subst hg1;rw[if_pos (decide_eq_true (by omega)),qCA,qXJ];have e:IntKind.i64.wrap (0 - IntKind.i64.wrap (x:Int)) = -(x:Int):=by
    by_cases h3:x=9223372036854775808
    ·subst h3; decide
    ·rw[qAL (x:Int) (by omega) (by omega),qAL _ (by omega) (by omega)]; omega
   rw[e,qBs _ _ (Tok.cells ⟨3,[],-(x:Int),0⟩) rfl,qAZ,qAL _ (by omega) (by omega),qAt 4 2 1 _ cs _ _ hh (by decide) hc rfl,qAI,qAI,qAJ _ _ rfl];simp[One.val,oneOf]
  ·have hg0:g=0:=by omega
   subst hg0;rw[if_neg (by rw[decide_eq_true_eq]; omega),qCA,qAL (x:Int) (by omega) (by omega),qBs _ _ (Tok.cells ⟨3,[],(x:Int),0⟩) rfl,qAt 4 2 1 _ cs _ _ hh (by decide) hc rfl,qAI,qAI,qAJ _ _ rfl];simp[One.val,oneOf]
theorem qNq(s:LB)(hs:s.length<=4611686018427387904):Om 120 [kS s] []=some ((numberM s).val,[]):=by
 refine(qAD rfl).trans ?_;show lim tab.get S 120 0 0 [kS s] h0=_;rw[w120_0,b120_0,qDD,qAs,qAH 145 _ _ rfl (qOf s [45]) rfl,qAs,qAf];have hg:neg s<=1:=by unfold neg; split <;> omega
 have hgl:neg s<=s.length:=by
  unfold neg; split
  ·rename_i h; have:=congrArg List.length h; simp at this; omega
  ·omega
 have eg:IntKind.i64.wrap ((s.length:Int) - ((if s.take [(45:UInt8)].length=[45] then s.drop [(45:UInt8)].length else s).length:Int))=(neg s:Int):=by
  have e0:[(45:UInt8)].length=1:=rfl;rw[e0];have e1:(s.length:Int) - ((if s.take 1=[45] then s.drop 1 else s).length:Int)=(neg s:Int):=by
   unfold neg;unfold neg at hgl;split
   ·rename_i h; rw[if_pos h] at hgl; simp; omega
   ·simp
  rw[e1]; exact qAL _ (by omega) (by omega)
 rw[eg,qF6 _ _ hgl];generalize hr:s.drop (neg s)=r;have hn:=qCj isDigit r;rw[qFV 137 _ _ rfl rfl (λ_=>rfl) (qIT isDigit 107 qFm qGz r) rfl,qBb,qAM];unfold numberM;rw[hr];by_cases h:19<runLen isDigit r
 ·rw[if_pos (decide_eq_true (by omega)),qBs _ _ Tok.zero.cells rfl,qAt 4 2 _ _ _ _ _ (Heap.own_get _ _ _ _ (by decide) (λe=>by cases e)) (by decide) rfl rfl,qAI,qAI,qAJ _ _ rfl,if_pos h];rfl
 ·have hrl:r.length=s.length - neg s:=by rw[<- hr]; simp
  rw[if_neg (by rw[decide_eq_true_eq]; omega),if_neg h,qAZ,qAL _ (by omega) (by omega),<- Int.natCast_add,qHl s (neg s) (neg s+runLen isDigit r) (by omega) (by omega),qK1];have ed:(s.take (neg s+runLen isDigit r)).drop (neg s)=r.take (runLen isDigit r):=by rw[<- hr,List.drop_take]; simp
  rw[ed];have hall:=qRH isDigit r;generalize hds:r.take (runLen isDigit r)=ds at hall;have hdl:ds.length=runLen isDigit r:=by rw[<- hds]; simp[hn]
  have hv:=qHn ds hall;have hp:(10:Nat) ^ ds.length<=10 ^ 19:=Nat.pow_le_pow_right (by decide) (by omega);have loop:∀ (m pos:Nat) (h:Heap) (cs:List Cell),ds.length - pos=m->pos<=ds.length->h.get (.own 29 1)=some (.siter ds pos)->h.get (.own 2 1)=some (.cells cs 0)->cs.length=4 ->
    lim tab.get S 120 0 1 [.v (.c (.ptr (.own 2 1) 0)),kI (neg s:Int),kI (runLen isDigit r:Nat),kN .u64 (numVal (ds.take pos):Int),.v (.c (.ptr (.own 29 1) 0))] h =
     some ((if 9223372036854775807+neg s<numVal ds then bad 11 else ⟨⟨3,[],if 0<neg s then -(numVal ds:Int) else numVal ds,0⟩,((neg s+runLen isDigit r:Nat):Int),0⟩:One).val,[]):=by
   intro m
   induction m with
   |zero =>
    intro pos h cs hm hl hh1 hh2 hcl;rw[w120_1,b120_1,qGj ds pos _ hh1 (by omega),qAj _ 0 (.c (.p (.bool false))) rfl,qCR];have:ds.take pos=ds:=List.take_of_length_le (by omega);rw[this];exact qLB (neg s) (runLen isDigit r) (numVal ds) hg (by omega) (by omega) _ cs ((Heap.own_get_ne h 29 1 _ 2 1 (by decide)).trans hh2) hcl
   |succ m ih =>
    intro pos h cs hm hl hh1 hh2 hcl;obtain⟨b,hb⟩:∃ b,ds[pos]?=some b:=⟨ds[pos]'(by omega),by simp⟩;have hbd:=hall b (List.mem_of_getElem? hb);have hb2:=hbd;simp only[isDigit,Bool.and_eq_true,Nat.ble_eq] at hb2;have htk:ds.take (pos+1)=ds.take pos++[b]:=by rw[List.take_add_one,hb]; rfl
    have hx1:=qHn (ds.take (pos+1)) (λc hc=>hall c (List.mem_of_mem_take hc));have hx2:(10:Nat) ^ (ds.take (pos+1)).length<=10 ^ 19:=Nat.pow_le_pow_right (by decide) (by simp; omega);rw[htk,qFZ] at hx1;rw[htk] at hx2
    rw[w120_1,b120_1,qFS ds pos _ hh1 (by omega),qAj _ 0 (.c (.p (.bool true))) rfl,qD5,qGE ds pos b hb (qGz _ hbd),qAj _ 2 (.c (.p (.int .i32 (b.toNat:Int)))) rfl,
     qDA,qCc _ (by omega) (by omega),qAf]
    have e1:IntKind.i32.wrap ((b.toNat:Int) - 48)=(b.toNat:Int) - 48:=qDe .i32 _ (by show(-2147483648:Int)<=_; omega) (by show _<=(2147483647:Int); omega);rw[e1,qCA,qCc _ (by omega) (by omega),qAZ,qCc _ (by omega) (by omega)];have e2:(10*(numVal (ds.take pos):Int)+((b.toNat:Int) - 48))=(numVal (ds.take (pos+1)):Int):=by rw[htk,qFZ]; omega
    rw[e2];exact ih (pos+1) _ cs (by omega) (by omega) (Heap.own_get h 29 1 _ (by decide) (λe=>by cases e)) ((Heap.own_get_ne h 29 1 _ 2 1 (by decide)).trans hh2) hcl
  refine(loop ds.length 0 _ _ (by omega) (by omega) (Heap.own_get _ 29 1 _ (by decide) (λe=>by cases e)) ((Heap.own_get_ne _ 29 1 _ 2 1 (by decide)).trans (Heap.own_get _ 2 1 _ (by decide) (λe=>by cases e))) rfl).trans ?_;rfl
def meantM(c:UInt8):Option UInt8:=if c.toNat=110 then some 10 else if c.toNat=116 then some 9 else if c.toNat=34 then some c else if c.toNat=92 then some c else none
def meantV(c:UInt8):TVal:=match meantM c with
 |some x=>.tup [.c (.p (.int .u8 (x.toNat:Int))),.c (.p (.bool true))]
 |none=>.tup [.c (.p (.int .u8 0)),.c (.p (.bool false))]
theorem qP0(c:UInt8):Om 146 [kU c] []=some (meantV c,[]):=by
 refine(qAD rfl).trans ?_;show lim tab.get S 146 0 0 [kU c] h0=_;rw[w146_0,b146_0,qA6,qAM];unfold meantV meantM;by_cases h1:c.toNat=110
 ·rw[if_pos (decide_eq_true (by omega)),if_pos h1,qAI,qAI,qAJ _ _ rfl]; rfl
 rw[if_neg (by rw[decide_eq_true_eq]; omega),if_neg h1,qA6,qAM];by_cases h2:c.toNat=116
 ·rw[if_pos (decide_eq_true (by omega)),if_pos h2,qAI,qAI,qAJ _ _ rfl]; rfl
 rw[if_neg (by rw[decide_eq_true_eq]; omega),if_neg h2,qA6,qAM];by_cases h3:c.toNat=34
 ·rw[if_pos (decide_eq_true (by omega)),if_pos h3,qAI,qAI,qAJ _ _ rfl]; rfl
 rw[if_neg (by rw[decide_eq_true_eq]; omega),if_neg h3,qA6,qAM];by_cases h4:c.toNat=92
 ·rw[if_pos (decide_eq_true (by omega)),if_pos h4,qAI,qAI,qAJ _ _ rfl]; rfl
 rw[if_neg (by rw[decide_eq_true_eq]; omega),if_neg h4,qAI,qAI,qAJ _ _ rfl]; rfl
def textGo:LB->LB->Nat->One
 |[],_,_=>bad 11
 |[c],acc,i=>if c.toNat<32 then bad 11 else if c.toNat=34 then (if 200<acc.length then bad 4 else ⟨⟨2,acc,0,0⟩,((i+1:Nat):Int),0⟩) else bad 11
 |c::d::s,acc,i =>
  if c.toNat<32 then bad 11
  else if c.toNat=34 then (if 200<acc.length then bad 4 else ⟨⟨2,acc,0,0⟩,((i+1:Nat):Int),0⟩)
  else if c.toNat=92 then (match meantM d with
   |none=>bad 11
   |some x=>textGo s (acc++[x]) (i+2))
  else textGo (d::s) (acc++[c]) (i+1)
theorem qCZ(h:Heap)(cs:List Cell)(e:Int)(hh:h.get (.own 2 1)=some (.cells cs 0))(hc:cs.length=4)(O:Oracle)(n:Nat) :
  (vop O (.build [(.p (.int .i64 0)),(.p (.str [])),(.p (.int .i64 0)),(.p (.int .i64 0))] []) h n λx h=>vstore 4 (.v (.c (.ptr (.own 2 1) 0))) x h λ_ h=>vcell true 4 (.v (.c (.ptr (.own 2 1) 0))) h λc0=>tcomp (kI 0) λc1=>tcomp (kI e) λc2=>vfin true 0 [c0,c1,c2] h)=some ((bad e).val,[]):=by
 rw[qBs _ _ Tok.zero.cells rfl,qAt 4 2 1 _ cs _ _ hh (by decide) hc rfl,qAI,qAI,qAJ _ _ rfl];rfl
theorem qII(s:LB)(b:UInt8):byteRows s++[[.int .u8 (b.toNat:Int)]]=byteRows (s++[b]):=by simp[byteRows]
theorem qNZ(s:LB)(hs:s.length<=1073741824):∀ (m i:Nat) (acc:LB) (v:Cell) (h:Heap) (cs:List Cell),s.length - i<=m->i<=s.length->acc.length<=i->Grow [22,68] 1 v (byteRows acc) h->h.get (.own 2 1)=some (.cells cs 0)->cs.length=4 ->
  lim tab.get S 121 0 1 [kS s,.v (.c (.ptr (.own 2 1) 0)),.v (.c v),kI (i:Int)] h=some ((textGo (s.drop i) acc i).val,[]):=by
 intro m
 induction m with
 |zero =>
  intro i acc v h cs hm hl ha G hh hc;rw[w121_1,b121_1,qAs,qAT,qAM,if_neg (by rw[decide_eq_true_eq]; omega),w121_3,b121_3,qCZ h cs 11 hh hc];rw[List.drop_eq_nil_of_le (by omega)]; rfl
 |succ m ih =>
  intro i acc v h cs hm hl ha G hh hc;by_cases hi:i<s.length
  ·obtain⟨c,hcb⟩:∃ c,s[i]?=some c:=⟨s[i]'hi,by simp⟩;have hd:s.drop i=c::s.drop (i+1):=by
    obtain⟨h1,h2⟩:=List.getElem?_eq_some_iff.1 hcb;rw[List.drop_eq_getElem_cons h1,h2]
   have hcc:cs≠[]:=λe=>by rw[e] at hc; cases hc
   rw[w121_1,b121_1,qAs,qAT,qAM,if_pos (decide_eq_true (by omega)),qDC s i c hcb,qAT,qAM];rw[hd];by_cases h1:c.toNat<32
   ·rw[if_pos (decide_eq_true (by omega)),qCZ h cs 11 hh hc];cases s.drop (i+1) <;> simp[textGo,h1]
   rw[if_neg (by rw[decide_eq_true_eq]; omega),qA6];by_cases h2:c.toNat=34
   ·have e:decide ((c.toNat:Int)=34)=true:=decide_eq_true (by omega);have ea:(byteRows acc).length=acc.length:=by simp[byteRows]
    simp only[e,qBw,qH9 G,ea,qBb,qCT,qAM,qA6];by_cases h3:200<acc.length
    ·rw[if_pos (decide_eq_true (by omega)),qCZ h cs 4 hh hc];cases s.drop (i+1) <;> simp[textGo,h1,h2,h3]
    ·rw[if_neg (by rw[decide_eq_true_eq]; omega),if_pos trivial,qJ3 G,qBs _ _ (Tok.cells ⟨2,acc,0,0⟩) rfl,qAZ,qAL _ (by omega) (by omega),qAt 4 2 1 _ cs _ _ hh (by decide) hc rfl,qAI,qAI,qAJ _ _ rfl];cases s.drop (i+1) <;> simp[textGo,h1,h2,h3,One.val,oneOf]
   ·have e:decide ((c.toNat:Int)=34)=false:=decide_eq_false (by omega);simp only[e,qBV,qCC,qCR,qA6];have plain:∀ (hn:¬ (c.toNat=92/\i+1<s.length)),textGo (c::s.drop (i+1)) acc i=textGo (s.drop (i+1)) (acc++[c]) (i+1):=by
     intro hn;cases hr:s.drop (i+1) with
     |nil=>simp[textGo,h1,h2]
     |cons d t =>
      have:i+1<s.length:=by
       have:=congrArg List.length hr; simp at this; omega
      have:¬ c.toNat=92:=λe=>hn ⟨e,this⟩
      simp[textGo,h1,h2,this]
    have go:∀ (x:UInt8) (j:Nat) (hj:i<=j) (hjl:j+1<=s.length) (dd:Nat) (hd0:dd∈[22,68]) (hd1:dd≠2) (hd2:dd+1<1048576) (t':Nat), 
      (vop (orc S (lim tab.get S)) (.bslice 1 1 [(.p (.int .u8 0))] [(0,(.k (kU x)))] false) h t' λx67 h=>vop (orc S (lim tab.get S)) (.append 1 1 false (.k (.v (.c v))) (.k x67)) h dd λx68 h=>lim tab.get S 121 0 2 [kS s,.v (.c (.ptr (.own 2 1) 0)),x68,kI (j:Int)] h)=some ((textGo (s.drop (j+1)) (acc++[x]) (j+1)).val,[]):=by
     intro x j hj hjl dd hd0 hd1 hd2 t';rw[qAx (.bslice 1 1 [(.p (.int .u8 0))] [(0,(.k (kU x)))] false) (kSl 1 true [[.int .u8 (x.toNat:Int)]]) rfl];obtain⟨v',h',G',e',keep⟩:=qEv (by':=1) (new:=[[.int .u8 (x.toNat:Int)]]) true G hd0 (by simp) (by simp) (by simp[byteRows]; omega) hd2;rw[e',w121_2,b121_2,qAZ,qAL _ (by omega) (by omega)];rw[qII] at G';have:=ih (j+1) (acc++[x]) v' h' cs (by omega) hjl (by simp; omega) G' (keep 2 1 _ (Ne.symm hd1) hh (λe=>hcc (by cases e; rfl))) hc;rw[show((j:Int)+1)=((j+1:Nat):Int) by omega];exact this
    by_cases h4:c.toNat=92
    ·have e4:decide ((c.toNat:Int)=92)=true:=decide_eq_true (by omega);have ew:IntKind.i64.wrap ((i:Int)+1)=((i+1:Nat):Int):=by rw[qAL _ (by omega) (by omega)]; omega
     simp only[e4,qBw,qAZ,qAs,qAT,qCT,qAM,ew];by_cases h5:i+1<s.length
     ·obtain⟨d,hdb⟩:∃ d,s[i+1]?=some d:=⟨s[i+1]'h5,by simp⟩;have hd':s.drop (i+1)=d::s.drop (i+1+1):=by
       obtain⟨q1,q2⟩:=List.getElem?_eq_some_iff.1 hdb;rw[List.drop_eq_getElem_cons q1,q2]
      have key:textGo (c::s.drop (i+1)) acc i=match meantM d with|none=>bad 11|some x=>textGo (s.drop (i+1+1)) (acc++[x]) (i+2):=by
       rw[hd']; simp[textGo,h1,h2,h4]
      rw[if_pos (decide_eq_true (by omega)),qDC s (i+1) d hdb,qAH 146 _ _ rfl (qP0 d) (by unfold meantV; split <;> rfl),key];unfold meantV;cases hmd:meantM d with
      |none =>
       dsimp only;rw[qAj _ 0 _ rfl,qAj _ 1 _ rfl,qIo];exact qCZ h cs 11 hh hc (orc S (lim tab.get S)) 64
      |some x =>
       dsimp only;rw[qAj _ 0 _ rfl,qAj _ 1 _ rfl,qIo,qAM,if_neg (by decide)];exact go x (i+1) (by omega) (by omega) 68 (by decide) (by decide) (by decide) 67
     ·rw[if_neg (by rw[decide_eq_true_eq]; omega),plain (λq=>h5 q.2)];exact go c i (by omega) (by omega) 22 (by decide) (by decide) (by decide) 21
    ·have e4:decide ((c.toNat:Int)=92)=false:=decide_eq_false (by omega);simp only[e4,qBV,qCC,qCR];rw[plain (λq=>h4 q.1)];exact go c i (by omega) (by omega) 22 (by decide) (by decide) (by decide) 21
  ·rw[w121_1,b121_1,qAs,qAT,qAM,if_neg (by rw[decide_eq_true_eq]; omega),w121_3,b121_3,qCZ h cs 11 hh hc];rw[List.drop_eq_nil_of_le (by omega)]; rfl
def textM(s:LB):One:=textGo (s.drop 1) [] 1
theorem qPq(s:LB)(hs:s.length<=1073741824)(h1:1<=s.length):Om 121 [kS s] []=some ((textM s).val,[]):=by
 refine(qAD rfl).trans ?_;show lim tab.get S 121 0 0 [kS s] h0=_;rw[w121_0,b121_0,qDD];exact qNZ s hs s.length 1 [] _ _ _ (by omega) h1 (by simp) (Grow.nil _ 1 _) (Heap.own_get _ _ _ _ (by decide) (λe=>by cases e)) rfl
open Go Go.AI
def singles:LB:=[123,125,60,62,44,58,40,41,46,36,124,61,59]
def isSingle(n:Nat):Bool:=Nat.beq n 123||Nat.beq n 125||Nat.beq n 60||Nat.beq n 62||Nat.beq n 44||Nat.beq n 58||Nat.beq n 40||Nat.beq n 41||Nat.beq n 46||Nat.beq n 36||Nat.beq n 124||Nat.beq n 61||Nat.beq n 59
def isBlank(n:Nat):Bool:=Nat.beq n 32||Nat.beq n 9||Nat.beq n 10||Nat.beq n 13
theorem qM0(b:UInt8):Om 84 [kS [123,125,60,62,44,58,40,41,46,36,124,61,59],kS [b]] []=some (kB (isSingle b.toNat),[]):=by
 refine(qAD rfl).trans ?_;have:=qGR (T:=tab.get) (S:=S) blks_ok (f:=84) (p:=isSingle) (N:=60) (av:=λn=>[kS [123,125,60,62,44,58,40,41,46,36,124,61,59],kS [UInt8.ofNat n]]) (by kernel_rfl) b;rw[UInt8.ofNat_toNat] at this;exact this
theorem qP4(b:UInt8):Om 84 [kS [32,9,10,13],kS [b]] []=some (kB (isBlank b.toNat),[]):=by
 refine(qAD rfl).trans ?_;have:=qGR (T:=tab.get) (S:=S) blks_ok (f:=84) (p:=isBlank) (N:=60) (av:=λn=>[kS [32,9,10,13],kS [UInt8.ofNat n]]) (by kernel_rfl) b;rw[UInt8.ofNat_toNat] at this;exact this
theorem qMs:Om 147 [kS [45,62,32,58,61]] []=some (.v (.c (.p (.slice 1 true [[.str [45,62]],[.str [58,61]]]))),[]) :=
 (qAD rfl).trans (qBt blks_ok 200 147 0 0 _ _ _ (by kernel_rfl))
def two1:LB:=[45,62]
def two2:LB:=[58,61]
def signM(s:LB):One :=
 if s.take 2=two1 then ⟨⟨4,two1,0,0⟩,2,0⟩ else if s.take 2=two2 then ⟨⟨4,two2,0,0⟩,2,0⟩
 else match s with
  |[]=>bad 11
  |c::_=>if isSingle c.toNat then ⟨⟨4,[c],0,0⟩,1,0⟩ else bad 11
theorem qPz(s:LB)(c:UInt8)(t:LB)(hs:s=c::t)(h:Heap)(cs:List Cell)(hh:h.get (.own 2 1)=some (.cells cs 0))(hc:cs.length=4) :
  lim tab.get S 122 0 2 [kS s,.v (.c (.ptr (.own 2 1) 0))] h=some ((if isSingle c.toNat then ⟨⟨4,[c],0,0⟩,1,0⟩ else bad 11:One).val,[]):=by
 have hl:1<=s.length:=by rw[hs]; simp
 have e1:s.take 1=[c]:=by rw[hs]; rfl
 have e2:kI 1=kI ((1:Nat):Int):=rfl;have sl:=λ(O:Oracle) (h:Heap) (d:Nat) (k:TVal->Heap->Res1)=>qFh (O:=O) (h:=h) (d:=d) (k:=k) s 1 hl
 rw[w122_2,b122_2];rw[show(∀ (O:Oracle) (h:Heap) (d:Nat) (k:TVal->Heap->Res1),vop O (.slice 0 true (.k (kS s)) none (some (.k (kI 1))) none) h d k=k (kS (s.take 1)) h) from sl];rw[e1,qAH 84 _ _ rfl (qM0 c) rfl,qIo,qAM];cases hp:isSingle c.toNat with
 |false=>rw[if_pos (show(!false)=true from rfl)]; exact qCZ h cs 11 hh hc (orc S (lim tab.get S)) 25
 |true =>
  rw[if_neg (show ¬ (!true)=true by decide)];rw[show(∀ (O:Oracle) (h:Heap) (d:Nat) (k:TVal->Heap->Res1),vop O (.slice 0 true (.k (kS s)) none (some (.k (kI 1))) none) h d k=k (kS (s.take 1)) h) from sl];rw[e1,qBs _ _ (Tok.cells ⟨4,[c],0,0⟩) rfl,qAt 4 2 1 _ cs _ _ hh (by decide) hc rfl,qAI,qAI,qAJ _ _ rfl];rfl
theorem qQr(s:LB)(hs:1<=s.length):Om 122 [kS s] []=some ((signM s).val,[]):=by
 obtain⟨c,t,hct⟩:∃ c t,s=c::t:=by cases s with
  |nil=>simp at hs
  |cons c t=>exact⟨c,t,rfl⟩
 refine(qAD rfl).trans ?_;show lim tab.get S 122 0 0 [kS s] h0=_;rw[w122_0,b122_0,qDD,qAH 147 _ _ rfl qMs rfl,qHJ];have hh:=Heap.own_get h0 2 (h0.gen 2+1) (.cells [.p (.int .i64 0),.p (.str []),.p (.int .i64 0),.p (.int .i64 0)] 0) (by decide) (λe=>by cases e);generalize (h0.own 2 (h0.gen 2+1) (.cells [.p (.int .i64 0),.p (.str []),.p (.int .i64 0),.p (.int .i64 0)] 0))=h at hh;have step:∀ (i:Nat) (two:LB),[[PVal.str [45,62]],[PVal.str [58,61]]][i]?=some [.str two]->two.length=2->i<=1 ->
   lim tab.get S 122 0 1 [kS s,.v (.c (.ptr (.own 2 (h0.gen 2+1)) 0)),.v (.c (.p (.slice 1 true [[.str [45,62]],[.str [58,61]]]))),kI (2:Nat),kI (i:Int)] h =
    if s.take 2=two then some ((⟨⟨4,two,0,0⟩,2,0⟩:One).val,[]) else lim tab.get S 122 0 1 [kS s,.v (.c (.ptr (.own 2 (h0.gen 2+1)) 0)),.v (.c (.p (.slice 1 true [[.str [45,62]],[.str [58,61]]]))),kI (2:Nat),kI ((i+1:Nat):Int)] h:=by
  intro i two hi htl hi1;rw[w122_1,b122_1,qAT,qAM,if_pos (decide_eq_true (by omega)),qNz 1 _ _ i _ hi,qLu 1 0 _ (.str two) rfl,qAH 99 _ _ rfl (qIH s two) rfl,qAM,htl];by_cases he:s.take 2=two
  ·rw[if_pos (decide_eq_true he),if_pos he,qBs _ _ (Tok.cells ⟨4,two,0,0⟩) rfl,qAs,htl,qAt 4 2 _ _ _ _ _ hh (by decide) rfl rfl,qAI,qAI,qAJ _ _ rfl];rfl
  ·rw[if_neg (by rw[decide_eq_true_eq]; exact he),if_neg he,qAZ,qAL _ (by omega) (by omega)];rfl
 have s0:=step 0 [45,62] rfl rfl (by omega);have s1:=step 1 [58,61] rfl rfl (by omega);show lim tab.get S 122 0 1 [_,_,_,kI (2:Nat),kI ((0:Nat):Int)] h=_;rw[s0,s1];unfold signM two1 two2;split
 ·rfl
 split
 ·rfl
 rw[w122_1,b122_1,qAT,qAM,if_neg (by rw[decide_eq_true_eq]; omega)];refine(qPz s c t hct h _ hh rfl).trans ?_;rw[hct]
open Go Go.AI
def numHead:LB->Bool
 |[]=>false
 |c::t=>isDigit c.toNat||(decide (c.toNat=45)&&match t with|[]=>false|d::_=>isDigit d.toNat)
def oneM(s:LB):One :=
 match s with
 |[]=>bad 11
 |c::_=>if isLetter c.toNat then wrdM s else if numHead s then numberM s else if c.toNat=34 then textM s else signM s
theorem qFC(r:One)(h:Heap)(cs:List Cell)(hh:h.get (.own 2 1)=some (.cells cs 0))(hc:cs.length=4) :
  (vext r.val 0 h λx13 h=>vext r.val 1 h λx14 h=>vext r.val 2 h λx15 h=>vstore 4 (.v (.c (.ptr (.own 2 1) 0))) x13 h λ_ h=>vcell true 4 (.v (.c (.ptr (.own 2 1) 0))) h λc0=>tcomp x14 λc1=>tcomp x15 λc2=>vfin true 0 [c0,c1,c2] h)=some (r.val,[]):=by
 rw[show r.val = .tup [.agg r.t.cells,.c (.p (.int .i64 r.n)),.c (.p (.int .i64 r.e))] from rfl,qAj _ 0 _ rfl,qAj _ 1 _ rfl,qAj _ 2 _ rfl,qAt 4 2 1 _ cs _ _ hh (by decide) hc rfl,qAI,qAI,qAJ _ _ rfl];rfl
theorem qFA(s:LB)(c:UInt8)(t:LB)(hct:s=c::t)(hs:s.length<=1073741824)(b:Bool)(h:Heap)(cs:List Cell)(hh:h.get (.own 2 1)=some (.cells cs 0))(hc:cs.length=4) :
  lim tab.get S 85 0 1 [kS s,.v (.c (.ptr (.own 2 1) 0)),kU c,kB b] h=some ((if b then numberM s else if c.toNat=34 then textM s else signM s).val,[]):=by
 have hl:1<=s.length:=by rw[hct]; simp
 rw[w85_1,b85_1,qAM];cases b with
 |true =>
  rw[if_pos rfl,qAH 120 _ _ rfl (qNq s (by omega)) rfl];exact qFC _ h cs hh hc
 |false =>
  rw[if_neg (by decide),qA6,qAM];by_cases h1:c.toNat=34
  ·rw[if_pos (decide_eq_true (by omega)),qAH 121 _ _ rfl (qPq s hs hl) rfl];simp only[h1,if_true];exact qFC _ h cs hh hc
  ·rw[if_neg (by rw[decide_eq_true_eq]; omega),qAH 122 _ _ rfl (qQr s hl) rfl];simp only[h1,if_false];exact qFC _ h cs hh hc
theorem qSK(s:LB)(hs:s.length<=1073741824)(hl:1<=s.length):Om 85 [kS s] []=some ((oneM s).val,[]):=by
 obtain⟨c,t,hct⟩:∃ c t,s=c::t:=by cases s with
  |nil=>simp at hl
  |cons c t=>exact⟨c,t,rfl⟩
 have hc0:s[0]?=some c:=by rw[hct]; rfl
 refine(qAD rfl).trans ?_;show lim tab.get S 85 0 0 [kS s] h0=_;rw[w85_0,b85_0,qDD];have hh:(h0.own 2 (h0.gen 2+1) (.cells [.p (.int .i64 0),.p (.str []),.p (.int .i64 0),.p (.int .i64 0)] 0)).get (.own 2 1)=_:=Heap.own_get h0 2 (h0.gen 2+1) (.cells [.p (.int .i64 0),.p (.str []),.p (.int .i64 0),.p (.int .i64 0)] 0) (by decide) (λe=>by cases e);generalize (h0.own 2 (h0.gen 2+1) (.cells [.p (.int .i64 0),.p (.str []),.p (.int .i64 0),.p (.int .i64 0)] 0))=h at hh;rw[show h0.gen 2+1=1 from rfl];have ei:∀ (k:TVal->Heap->Res1),vindex (kS s) (kI 0) h k=k (kU c) h:=λk=>qDC s 0 c hc0
 rw[ei,qAH 118 _ _ rfl (qNG c) rfl,qAM];have hO:oneM s=if isLetter c.toNat then wrdM s else if numHead s then numberM s else if c.toNat=34 then textM s else signM s:=by rw[hct]; rfl
 rw[hO];cases hL:isLetter c.toNat with
 |true =>
  rw[if_pos rfl,qAH 119 _ _ rfl (qRT s) rfl];exact qFC _ h _ hh rfl
 |false =>
  rw[if_neg (by decide),qAH 107 _ _ rfl (qFm c) rfl,qAM];simp only[Bool.false_eq_true,if_false];cases hD:isDigit c.toNat with
  |true =>
   have hN:numHead s=true:=by rw[hct]; simp[numHead,hD]
   rw[if_pos rfl,hN];exact qFA s c t hct hs true h _ hh rfl
  |false =>
   rw[if_neg (by decide),qA6];by_cases h45:c.toNat=45
   ·have e:decide ((c.toNat:Int)=45)=true:=decide_eq_true (by omega);simp only[e,qBw,qAs,qBb,qCT];cases t with
    |nil =>
     have e1:decide ((1:Int)<(s.length:Int))=false:=decide_eq_false (by rw[hct]; simp);have hN:numHead s=false:=by rw[hct]; simp[numHead,hD]
     simp only[e1,qBV,qCC];rw[hN];exact qFA s c [] hct hs false h _ hh rfl
    |cons d u =>
     have e1:decide ((1:Int)<(s.length:Int))=true:=decide_eq_true (by rw[hct]; simp; omega);have hN:numHead s=isDigit d.toNat:=by rw[hct]; show(isDigit c.toNat||(decide (c.toNat=45)&&isDigit d.toNat))=_; rw[hD,decide_eq_true h45]; rfl
     have ei1:∀ (k:TVal->Heap->Res1),vindex (kS s) (kI 1) h k=k (kU d) h:=λk=>qDC s 1 d (by rw[hct]; rfl)
     simp only[e1,qBw,ei1,qCT];rw[qAH 107 _ _ rfl (qFm d) rfl,hN];exact qFA s c (d::u) hct hs _ h _ hh rfl
   ·have e:decide ((c.toNat:Int)=45)=false:=decide_eq_false (by omega);have hN:numHead s=false:=by rw[hct]; simp[numHead,hD,h45]
    simp only[e,qBV,qCC];rw[hN];exact qFA s c t hct hs false h _ hh rfl
open Go Go.AI
theorem qIG:∀ (k:Nat) (s acc:LB) (i:Nat),s.length<=k->(textGo s acc i).e=0->∃ n:Nat,(textGo s acc i).n=n/\i+1<=n/\n<=i+s.length:=by
 intro k
 induction k with
 |zero =>
  intro s acc i hk he;cases s with
  |nil=>simp[textGo,bad] at he
  |cons _ _=>simp at hk
 |succ k ih =>
  intro s acc i hk he
  match s,hk,he with
  |[],_,he=>simp[textGo,bad] at he
  |[c],_,he =>
   unfold textGo at he ⊢;by_cases h1:c.toNat<32
   ·rw[if_pos h1] at he; simp[bad] at he
   rw[if_neg h1] at he ⊢;by_cases h2:c.toNat=34
   ·rw[if_pos h2] at he ⊢;by_cases h3:200<acc.length
    ·rw[if_pos h3] at he; simp[bad] at he
    ·rw[if_neg h3]; exact⟨i+1,rfl,by omega,by simp⟩
   ·rw[if_neg h2] at he; simp[bad] at he
  |c::d::s,hk,he =>
   unfold textGo at he ⊢;by_cases h1:c.toNat<32
   ·rw[if_pos h1] at he; simp[bad] at he
   rw[if_neg h1] at he ⊢;by_cases h2:c.toNat=34
   ·rw[if_pos h2] at he ⊢;by_cases h3:200<acc.length
    ·rw[if_pos h3] at he; simp[bad] at he
    ·rw[if_neg h3]; exact⟨i+1,rfl,by omega,by simp⟩
   rw[if_neg h2] at he ⊢;by_cases h4:c.toNat=92
   ·rw[if_pos h4] at he ⊢;cases hm:meantM d with
    |none=>rw[hm] at he; simp[bad] at he
    |some x =>
     rw[hm] at he;obtain⟨n,e1,e2,e3⟩:=ih s (acc++[x]) (i+2) (by simp at hk; omega) he;exact⟨n,e1,by omega,by simp; omega⟩
   ·rw[if_neg h4] at he ⊢;obtain⟨n,e1,e2,e3⟩:=ih (d::s) (acc++[c]) (i+1) (by simp at hk ⊢; omega) he;exact⟨n,e1,by omega,by simp at e3 ⊢; omega⟩
theorem qLC(s:LB)(hl:1<=s.length)(he:(oneM s).e=0):∃ n:Nat,(oneM s).n=n/\1<=n/\n<=s.length:=by
 obtain⟨c,t,hct⟩:∃ c t,s=c::t:=by cases s with
  |nil=>simp at hl
  |cons c t=>exact⟨c,t,rfl⟩
 have hO:oneM s=if isLetter c.toNat then wrdM s else if numHead s then numberM s else if c.toNat=34 then textM s else signM s:=by rw[hct]; rfl
 rw[hO] at he ⊢;by_cases h1:isLetter c.toNat=true
 ·rw[if_pos h1] at he ⊢;unfold wrdM at he ⊢;by_cases h2:16<runLen isWord s
  ·rw[if_pos h2] at he; simp[bad] at he
  ·rw[if_neg h2];refine⟨runLen isWord s,rfl,?_,qCj _ _⟩;rw[hct]; simp[runLen,isWord,h1]
 rw[if_neg h1] at he ⊢;by_cases h2:numHead s=true
 ·rw[if_pos h2] at he ⊢;unfold numberM at he ⊢;by_cases h3:19<runLen isDigit (s.drop (neg s))
  ·rw[if_pos h3] at he; simp[bad] at he
  rw[if_neg h3] at he ⊢;by_cases h4:9223372036854775807+neg s<numVal ((s.drop (neg s)).take (runLen isDigit (s.drop (neg s))))
  ·rw[if_pos h4] at he; simp[bad] at he
  rw[if_neg h4];refine⟨neg s+runLen isDigit (s.drop (neg s)),rfl,?_,?_⟩
  ·by_cases h45:c=45
   ·have:neg s=1:=by unfold neg; rw[hct,h45]; rfl
    omega
   ·have hn:neg s=0:=by unfold neg; rw[hct]; rw[if_neg (by simp[h45])]
    have hc45:¬ c.toNat=45:=λe=>h45 (UInt8.toNat_inj.1 e)
    have hd:isDigit c.toNat=true:=by
     rw[hct] at h2;have h2':(isDigit c.toNat||(decide (c.toNat=45)&&_))=true:=h2;rw[decide_eq_false hc45] at h2'
     simpa using h2'
    rw[hn,hct];simp[runLen,hd]
  ·have:=qCj isDigit (s.drop (neg s));simp at this;unfold neg at this ⊢;split
   ·rename_i h; rw[if_pos h] at this; have:=congrArg List.length h; simp at this; omega
   ·rename_i h; rw[if_neg h] at this; omega
 rw[if_neg h2] at he ⊢;by_cases h3:c.toNat=34
 ·rw[if_pos h3] at he ⊢;obtain⟨n,e1,e2,e3⟩:=qIG _ (s.drop 1) [] 1 (Nat.le_refl _) he;exact⟨n,e1,by omega,by simp at e3; omega⟩
 rw[if_neg h3] at he ⊢;unfold signM at he ⊢;by_cases h4:s.take 2=two1
 ·rw[if_pos h4];have:=congrArg List.length h4;simp[two1] at this;exact⟨2,rfl,by omega,by omega⟩
 rw[if_neg h4] at he ⊢;by_cases h5:s.take 2=two2
 ·rw[if_pos h5];have:=congrArg List.length h5;simp[two2] at this;exact⟨2,rfl,by omega,by omega⟩
 rw[if_neg h5] at he ⊢;rw[hct] at he ⊢;dsimp only at he ⊢;by_cases h6:isSingle c.toNat=true
 ·rw[if_pos h6]; exact⟨1,rfl,by omega,by simp⟩
 ·rw[if_neg h6] at he; simp[bad] at he
def toksGo:Nat->LB->Nat->List Tok->Except Int (List Tok)
 |0,_,_,acc=>.ok acc
 |f+1,s,i,acc =>
  let k:=runLen isBlank s
  match s.drop k with
  |[]=>.ok acc
  |c::r =>
   let o:=oneM (c::r)
   if o.e=0 then toksGo f ((c::r).drop o.n.toNat) (i+k+o.n.toNat) (acc++[{ o.t with pos:=((i+k:Nat):Int) }]) else .error o.e
def toksFin:Except Int (List Tok)->Except Int (List Tok)
 |.error e=>.error e
 |.ok l=>if 400<l.length then .error 3 else .ok l
def tokensM(s:LB):Except Int (List Tok):=if 1500<s.length then .error 4 else toksFin (toksGo (s.length+1) s 0 [])
def toksVal:Except Int (List Tok)->TVal
 |.error e=>.tup [.c (.p .nilslice),.c (.p (.int .i64 e))]
 |.ok l=>.tup [.c (.p (growP 4 (l.map Tok.row))),.c (.p (.int .i64 0))]
theorem qL6(s:LB)(hs:s.length<=1500)(v:Cell)(h:Heap):∀ (m i:Nat),s.length - i<=m->i<=s.length ->
  lim tab.get S 54 0 2 [kS s,.v (.c v),kI (i:Int)] h=lim tab.get S 54 0 3 [kS s,.v (.c v),kI ((i+runLen isBlank (s.drop i):Nat):Int)] h:=by
 intro m
 induction m with
 |zero =>
  intro i hm hl;have e:decide ((i:Int)<(s.length:Int))=false:=decide_eq_false (by omega);rw[w54_2,b54_2,qAs,qAT,e];simp only[qBV,qCC,qCR];rw[List.drop_eq_nil_of_le (by omega)]; rfl
 |succ m ih =>
  intro i hm hl;by_cases hi:i<s.length
  ·obtain⟨b,hb⟩:∃ b,s[i]?=some b:=⟨s[i]'hi,by simp⟩;have hd:s.drop i=b::s.drop (i+1):=by
    obtain⟨h1,h2⟩:=List.getElem?_eq_some_iff.1 hb;rw[List.drop_eq_getElem_cons h1,h2]
   have e:decide ((i:Int)<(s.length:Int))=true:=decide_eq_true (by omega);have ew:IntKind.i64.wrap ((i:Int)+1)=((i+1:Nat):Int):=by rw[qAL _ (by omega) (by omega)]; omega
   have e1:(s.take (i+1)).drop i=[b]:=by rw[List.drop_take,hd]; simp
   rw[w54_2,b54_2,qAs,qAT,e];simp only[qBw,qAZ,ew,qHl s i (i+1) (by omega) (by omega),e1,qCT];rw[qAH 84 _ _ rfl (qP4 b) rfl,qAM,hd];cases hp:isBlank b.toNat with
   |true =>
    rw[if_pos rfl,ih (i+1) (by omega) (by omega)];simp only[runLen,hp,if_true];rw[show i+1+runLen isBlank (s.drop (i+1))=i+(runLen isBlank (s.drop (i+1))+1) by omega]
   |false =>
    rw[if_neg (by decide)];simp only[runLen,hp,Bool.false_eq_true,if_false];rfl
  ·have e:decide ((i:Int)<(s.length:Int))=false:=decide_eq_false (by omega);rw[w54_2,b54_2,qAs,qAT,e];simp only[qBV,qCC,qCR];rw[List.drop_eq_nil_of_le (by omega)]; rfl
theorem qMP(acc:List Tok)(v:Cell)(h:Heap)(G:Grow [46] 4 v (acc.map Tok.row) h):lim tab.get S 54 0 4 [.v (.c v)] h=some (toksVal (toksFin (.ok acc)),[]):=by
 rw[w54_4,b54_4,qH9 G,qBb,qAM];show _=some (toksVal (if 400<acc.length then .error 3 else .ok acc),[]);by_cases h1:400<acc.length
 ·rw[if_pos (decide_eq_true (by simp; omega)),if_pos h1,qAI,qAI,qAJ _ _ rfl]; rfl
 ·rw[if_neg (by rw[decide_eq_true_eq]; simp; omega),if_neg h1,qAI,qAI,qNk _ G]; rfl
theorem qJp(s:LB)(hs:s.length<=1500):∀ (f i:Nat) (acc:List Tok) (v:Cell) (h:Heap),s.length - i<f->i<=s.length->acc.length<=i->Grow [46] 4 v (acc.map Tok.row) h ->
  lim tab.get S 54 0 1 [kS s,.v (.c v),kI (i:Int)] h=some (toksVal (toksFin (toksGo f (s.drop i) i acc)),[]):=by
 intro f
 induction f with
 |zero=>intro i acc v h hm; omega
 |succ f ih =>
  intro i acc v h hm hl ha G;rw[w54_1,b54_1,qL6 s hs v h _ i (Nat.le_refl _) hl];unfold toksGo;dsimp only;have hk:=qCj isBlank (s.drop i);simp only[List.length_drop] at hk;generalize hkk:runLen isBlank (s.drop i)=k at hk;rw[w54_3,b54_3,qAs,qA6,qAM,List.drop_drop];by_cases he:i+k=s.length
  ·rw[if_pos (decide_eq_true (by omega)),List.drop_eq_nil_of_le (by omega)];exact qMP acc v h G
  ·rw[if_neg (by rw[decide_eq_true_eq]; omega),qF6 s (i+k) (by omega)];generalize hr:s.drop (i+k)=r;have hrl:r.length=s.length - (i+k):=by rw[<- hr]; simp
   obtain⟨c,t,hct⟩:∃ c t,r=c::t:=by cases r with
    |nil=>simp at hrl; omega
    |cons c t=>exact⟨c,t,rfl⟩
   rw[qAH 85 _ _ rfl (qSK r (by omega) (by omega)) rfl];have hb:=qLC r (by omega);rw[hct];dsimp only;rw[<- hct];generalize hom:oneM r=o at hb;rw[show o.val = .tup [.agg o.t.cells,.c (.p (.int .i64 o.n)),.c (.p (.int .i64 o.e))] from rfl,qAj _ 0 _ rfl,qAj _ 1 _ rfl,qAj _ 2 _ rfl,qDD];rw[qDo 4 (.own 6 (h.gen 6+1)) 0 0 _ (.agg o.t.cells) (Heap.own_get _ _ _ _ (by decide) (λe=>by cases e)) (by decide) rfl (by decide),Heap.put_own,qIj,qAM];by_cases hoe:o.e=0
   ·obtain⟨n,e1,e2,e3⟩:=hb hoe;clear hb;have q1:s.length - (i+k+n)<f:=by omega
    have q2:i+k+n<=s.length:=by omega
    have q3:acc.length+1<=i+k+n:=by omega
    have q4:(acc.length+1)*40<=1099511627776:=by omega
    have q5:(-9223372036854775808:Int)<=((i+k:Nat):Int)+(n:Int):=by omega
    have q6:((i+k:Nat):Int)+(n:Int)<=9223372036854775807:=by omega
    have q7:(((i+k:Nat):Int)+(n:Int))=((i+k+n:Nat):Int):=by omega
    rw[if_neg (by simp[hoe]),if_pos hoe,qGP];rw[qDo 1 (.own 6 (h.gen 6+1)) (0+3) 0 _ (.c (.p (.int .i64 ((i+k:Nat):Int)))) (Heap.own_get _ _ _ _ (by decide) (λe=>by cases e)) (by decide) rfl (by exact Nat.le_refl 4),Heap.put_own];rw[qNV 4 (.own 6 (h.gen 6+1)) 0 0 _ (Heap.own_get _ _ _ _ (by decide) (λe=>by cases e)) rfl];rw[qAx (.bslice 4 1 _ _ false) (kSl 4 true [Tok.row { o.t with pos:=((i+k:Nat):Int) }]) rfl];have G1:=((G.own (d:=6) (h.gen 6+1) (.cells [.p (.int .i64 0),.p (.str []),.p (.int .i64 0),.p (.int .i64 0)] 0) (by decide)).own (d:=6) (h.gen 6+1) (.cells (splice [.p (.int .i64 0),.p (.str []),.p (.int .i64 0),.p (.int .i64 0)] 0 (Comp.agg o.t.cells).cells) 0) (by decide)).own (d:=6) (h.gen 6+1) (.cells (splice (splice [.p (.int .i64 0),.p (.str []),.p (.int .i64 0),.p (.int .i64 0)] 0 (Comp.agg o.t.cells).cells) (0+3) (Comp.c (.p (.int .i64 ((i+k:Nat):Int)))).cells) 0) (by decide);obtain⟨v',h',G',e',_⟩:=qEv (d:=46) (by':=40) (new:=[Tok.row { o.t with pos:=((i+k:Nat):Int) }]) true G1 (by decide) (by simp) (by simp[Tok.row]) (by simpa using q4) (by decide);refine(e' _ _ _).trans ?_;rw[e1,qAZ,qAL _ q5 q6,q7,Int.toNat_natCast];have:=ih (i+k+n) (acc++[{ o.t with pos:=((i+k:Nat):Int) }]) v' h' q1 q2 (by simpa using q3) (by simpa using G');rw[this,<- hr,List.drop_drop]
   ·rw[if_pos (by simp[hoe]),if_neg hoe,qAI,qAI,qAJ _ _ rfl];rfl
theorem qOC(s:LB):Om 54 [kS s] []=some (toksVal (tokensM s),[]):=by
 refine(qAD rfl).trans ?_;show lim tab.get S 54 0 0 [kS s] h0=_;rw[w54_0,b54_0,qAs,qBb,qAM];unfold tokensM;by_cases h1:1500<s.length
 ·rw[if_pos (decide_eq_true (by omega)),if_pos h1,qAI,qAI,qAJ _ _ rfl]; rfl
 ·rw[if_neg (by rw[decide_eq_true_eq]; omega),if_neg h1];exact qJp s (by omega) (s.length+1) 0 [] (.p .nilslice) h0 (by omega) (by omega) (by simp) (Grow.nil _ 4 _)
open Go Go.AI
theorem qWx(b:UInt8):Om 58 [kU b] []=some (kB (isBlank b.toNat),[]):=(qAD rfl).trans (qEZ blks_ok (p:=isBlank) (N:=58) (by kernel_rfl) b)
theorem qW6(w d:LB)(hd:∀ b∈d,isDigit b.toNat=true)(hl:d.length<=19):∀ (m i:Nat) (h:Heap),d.length - i<=m->i<=d.length ->
  lim tab.get S 91 0 2 [kS w,kS d,kN .u64 (numVal (d.take i):Nat),kI (i:Int)] h=lim tab.get S 91 0 3 [kS w,kN .u64 (numVal d:Nat)] h:=by
 intro m;have done:∀ (i:Nat) (h:Heap),i=d.length->lim tab.get S 91 0 2 [kS w,kS d,kN .u64 (numVal (d.take i):Nat),kI (i:Int)] h=lim tab.get S 91 0 3 [kS w,kN .u64 (numVal d:Nat)] h:=by
  intro i h hi;subst hi;rw[List.take_length,w91_2,b91_2,qAs,qAT,decide_eq_false (by omega),qCR]
 induction m with
 |zero=>intro i h h1 h2; exact done i h (by omega)
 |succ m ih =>
  intro i h h1 h2;by_cases hi:i<d.length
  ·obtain⟨c,hc⟩:∃ c,d[i]?=some c:=⟨d[i],by simp[hi]⟩;have ht:d.take (i+1)=d.take i++[c]:=by
    obtain⟨q1,q2⟩:=List.getElem?_eq_some_iff.1 hc;rw[List.take_succ_eq_append_getElem q1,q2]
   have hcd:=hd c (List.mem_of_getElem? hc);have hcr:48<=c.toNat/\c.toNat<=57:=by simpa [isDigit,Nat.ble_eq] using hcd
   have hb:=qHn (d.take i) (λb hb=>hd b (List.mem_of_mem_take hb));have hp:(10:Nat) ^ (d.take i).length<=10 ^ 18:=Nat.pow_le_pow_right (by decide) (by simp; omega);have hn:numVal (d.take i)<1000000000000000000:=by omega
   have hv:numVal (d.take (i+1))=10*numVal (d.take i)+(c.toNat - 48):=by rw[ht,qFZ]
   rw[w91_2,b91_2,qAs,qAT,decide_eq_true (by omega),qD5,qDA,qCc _ (by omega) (by omega),qDC d i c hc,qAf];have e8:IntKind.u8.wrap ((c.toNat:Int) - 48)=((c.toNat - 48:Nat):Int):=by
    have:IntKind.u8.wrap ((c.toNat:Int) - 48)=(c.toNat:Int) - 48:=qDe .u8 _ (by show(0:Int)<=_; omega) (by show _<=(255:Int); omega);rw[this]; omega
   rw[e8,qCA,qCc _ (by omega) (by omega),qAZ,qCc _ (by omega) (by omega),qAZ,qAL _ (by omega) (by omega),show((i:Int)+1)=((i+1:Nat):Int) by omega,show((numVal (d.take i):Nat):Int)*10+((c.toNat - 48:Nat):Int)=((numVal (d.take (i+1)):Nat):Int) by omega];exact ih (i+1) h (by omega) (by omega)
  ·exact done i h (by omega)
def numR(ng:Bool)(d:LB):Int×Int:=if 19<d.length then (0,4) else if 9223372036854775807+(if ng then 1 else 0)<numVal d then (0,11) else (if ng then -(numVal d:Int) else numVal d,0)
theorem qVn(w:LB)(c:UInt8)(t:LB)(hw:w=c::t)(d:LB)(hd:∀ b∈d,isDigit b.toNat=true)(h:Heap) :
  lim tab.get S 91 0 1 [kS w,kS d] h=some (.tup [.c (.p (.int .i64 (numR (decide (c.toNat=45)) d).1)),.c (.p (.int .i64 (numR (decide (c.toNat=45)) d).2))],[]):=by
 rw[w91_1,b91_1,qAs,qBb];unfold numR;by_cases h1:19<d.length
 ·rw[decide_eq_true (by omega),qD5,qAI,qAI,qAJ _ _ rfl,if_pos h1]; rfl
 ·rw[decide_eq_false (by omega),qCR,if_neg h1];have:=qW6 w d hd (by omega) d.length 0 h (by omega) (by omega);refine this.trans ?_;have hb:=qHn d hd;have hp:(10:Nat) ^ d.length<=10 ^ 19:=Nat.pow_le_pow_right (by decide) (by omega);have hn:numVal d<10000000000000000000:=by omega
  rw[w91_3,b91_3,show(kI 0:TVal)=kI ((0:Nat):Int) from rfl,qDC w 0 c (by rw[hw]; rfl),qA6];by_cases hc:c.toNat=45
  ·rw[decide_eq_true (show(c.toNat:Int)=45 by omega),qD5,qBb,decide_eq_true hc];simp only[if_true];by_cases h2:9223372036854775807+1<numVal d
   ·rw[decide_eq_true (by omega),qD5,qAI,qAI,qAJ _ _ rfl,if_pos h2]; rfl
   ·rw[decide_eq_false (by omega),qCR,qXJ,qCA,if_neg h2];have e:IntKind.i64.wrap (IntKind.u64.wrap (0 - (numVal d:Int))) = -(numVal d:Int):=by
     by_cases h0:numVal d=0
     ·rw[h0]; decide
     ·have e1:IntKind.u64.wrap (0 - (numVal d:Int))=18446744073709551616 - (numVal d:Int):=by
       show(0 - (numVal d:Int)) % 18446744073709551616=_;omega
      rw[e1];have hw:∀ z:Int,IntKind.i64.wrap z=if 9223372036854775808<=z % 18446744073709551616 then z % 18446744073709551616 - 18446744073709551616 else z % 18446744073709551616:=by
       intro z;show(if (true&&decide (z % (2 ^ 64:Int)>=(2 ^ 63:Int)))=true then z % (2 ^ 64:Int) - (2 ^ 64:Int) else z % (2 ^ 64:Int))=_;simp only[Bool.true_and,decide_eq_true_eq];rfl
      rw[hw];split <;> omega
    rw[e,qAI,qAI,qAJ _ _ rfl]; rfl
  ·rw[decide_eq_false (show ¬ (c.toNat:Int)=45 by omega),qCR,qBb,decide_eq_false hc];simp only[Bool.false_eq_true,if_false,Nat.add_zero];by_cases h2:9223372036854775807<numVal d
   ·rw[decide_eq_true (by omega),qD5,qAI,qAI,qAJ _ _ rfl,if_pos h2]; rfl
   ·rw[decide_eq_false (by omega),qCR,qCA,qAL _ (by omega) (by omega),qAI,qAI,qAJ _ _ rfl,if_neg h2]; rfl
theorem qWS(c:UInt8)(t:LB)(ht:∀ b∈t,isDigit b.toNat=true)(hc:c.toNat=45\/isDigit c.toNat=true) :
  Om 91 [kS (c::t)] []=some (.tup [.c (.p (.int .i64 (numR (decide (c.toNat=45)) (if c.toNat=45 then t else c::t)).1)),.c (.p (.int .i64 (numR (decide (c.toNat=45)) (if c.toNat=45 then t else c::t)).2))],[]):=by
 refine(qAD rfl).trans ?_;show lim tab.get S 91 0 0 [kS (c::t)] h0=_;rw[w91_0,b91_0,show(kI 0:TVal)=kI ((0:Nat):Int) from rfl,qDC (c::t) 0 c rfl,qA6];by_cases h1:c.toNat=45
 ·rw[decide_eq_true (show(c.toNat:Int)=45 by omega),qD5,show(kI 1:TVal)=kI ((1:Nat):Int) from rfl,qF6 (c::t) 1 (by simp),if_pos h1];exact qVn (c::t) c t rfl t ht h0
 ·rw[decide_eq_false (show ¬ (c.toNat:Int)=45 by omega),qCR,if_neg h1];refine qVn (c::t) c t rfl (c::t) (λb hb=>?_) h0
  rcases List.mem_cons.1 hb with rfl|hb
  ·rcases hc with hc|hc
   ·exact absurd hc h1
   ·exact hc
  ·exact ht b hb
def quoM:LB->LB->Nat->Option (LB×Nat)
 |[],_,_=>none
 |[c],acc,i=>if c.toNat<32 then none else if c.toNat=34 then some (acc,i+1) else none
 |c::d::s,acc,i =>
  if c.toNat<32 then none
  else if c.toNat=34 then some (acc,i+1)
  else if c.toNat=92 then (match meantM d with
   |none=>none
   |some x=>quoM s (acc++[x]) (i+2))
  else quoM (d::s) (acc++[c]) (i+1)
def quoOne:Option (LB×Nat)->One
 |none=>bad 11
 |some (t,k)=>if 200<t.length then bad 4 else ⟨⟨2,t,0,0⟩,(k:Int),0⟩
theorem qXT:∀ (n:Nat) (s acc:LB) (i:Nat),s.length<=n->textGo s acc i=quoOne (quoM s acc i):=by
 intro n
 induction n with
 |zero=>intro s acc i hs; obtain rfl:s=[]:=List.length_eq_zero_iff.1 (by omega); rfl
 |succ n ih =>
  intro s acc i hs
  match s,hs with
  |[],_=>rfl
  |[c],_ =>
   rw[textGo,quoM];split
   ·rfl
   ·split
    ·rfl
    ·rfl
  |c::d::s,hs =>
   rw[textGo,quoM];split
   ·rfl
   ·split
    ·rfl
    ·split
     ·cases meantM d with
      |none=>rfl
      |some x=>exact ih s _ _ (by simp at hs; omega)
     ·exact ih (d::s) _ _ (by simp at hs ⊢; omega)
theorem qW9(j:Nat):∀ (n:Nat) (s acc:LB) (i:Nat),s.length<=n->quoM s acc (i+j)=(quoM s acc i).map λp=>(p.1,p.2+j):=by
 intro n
 induction n with
 |zero=>intro s acc i hs; obtain rfl:s=[]:=List.length_eq_zero_iff.1 (by omega); rfl
 |succ n ih =>
  intro s acc i hs
  match s,hs with
  |[],_=>rfl
  |[c],_ =>
   rw[quoM,quoM];split
   ·rfl
   ·split
    ·simp; omega
    ·rfl
  |c::d::s,hs =>
   rw[quoM,quoM];split
   ·rfl
   ·split
    ·simp; omega
    ·split
     ·cases meantM d with
      |none=>rfl
      |some x =>
       show quoM s (acc++[x]) (i+j+2)=Option.map _ (quoM s (acc++[x]) (i+2));rw[<- ih s _ (i+2) (by simp at hs; omega),show i+j+2=i+2+j by omega]
     ·rw[<- ih (d::s) _ (i+1) (by simp at hs ⊢; omega),show i+j+1=i+1+j by omega]
def quoV:Option (LB×Nat)->TVal
 |none=>.tup [.c (.p (.str [])),.c (.p (.int .i64 (-1)))]
 |some (t,k)=>.tup [.c (.p (.str t)),.c (.p (.int .i64 (k:Int)))]
theorem qVw(s:LB)(hs:s.length<=1500):∀ (m i:Nat) (acc:LB) (h:Heap),s.length - i<=m->i<=s.length->acc.length<=i ->
  lim tab.get S 92 0 1 [kS s,kI (i:Int),kS acc] h=some (quoV (quoM (s.drop i) acc i),[]):=by
 intro m;have done:∀ (i:Nat) (acc:LB) (h:Heap),i=s.length->lim tab.get S 92 0 1 [kS s,kI (i:Int),kS acc] h=some (quoV (quoM (s.drop i) acc i),[]):=by
  intro i acc h hi;subst hi;rw[List.drop_length,w92_1,b92_1,qAs,qAT,decide_eq_false (by omega),qCR,qAI,qAI,qAJ _ _ rfl]; rfl
 induction m using Nat.strongRecOn with
 |ind m ih =>
  intro i acc h h1 h2 h3;by_cases hi:i<s.length
  ·obtain⟨c,hc⟩:∃ c,s[i]?=some c:=⟨s[i],by simp[hi]⟩;have hd:s.drop i=c::s.drop (i+1):=by
    obtain⟨q1,q2⟩:=List.getElem?_eq_some_iff.1 hc;rw[List.drop_eq_getElem_cons q1,q2]
   have e1:IntKind.i64.wrap ((i:Int)+1)=((i+1:Nat):Int):=by rw[qAL _ (by omega) (by omega)]; omega
   rw[w92_1,b92_1,qAs,qAT,decide_eq_true (by omega),qD5,qDC s i c hc,qA6];by_cases c34:c.toNat=34
   ·have:quoM (s.drop i) acc i=some (acc,i+1):=by
     rw[hd];cases hq:s.drop (i+1) with
     |nil=>rw[quoM,if_neg (by omega),if_pos c34]
     |cons d r=>rw[quoM,if_neg (by omega),if_pos c34]
    rw[decide_eq_true (show(c.toNat:Int)=34 by omega),qD5,qAZ,e1,qAI,qAI,qAJ _ _ rfl,this]; rfl
   rw[decide_eq_false (show ¬ (c.toNat:Int)=34 by omega),qCR,qAT];by_cases c32:c.toNat<32
   ·have:quoM (s.drop i) acc i=none:=by
     rw[hd];cases hq:s.drop (i+1) with
     |nil=>rw[quoM,if_pos c32]
     |cons d r=>rw[quoM,if_pos c32]
    rw[decide_eq_true (show(c.toNat:Int)<32 by omega),qD5,qAI,qAI,qAJ _ _ rfl,this]; rfl
   rw[decide_eq_false (show ¬ (c.toNat:Int)<32 by omega),qCR,qIj];by_cases c92:c.toNat=92
   ·rw[decide_eq_true (show(c.toNat:Int)=92 by omega),show(!true)=false from rfl,qCR,qAZ,e1,qAs,qIX];by_cases hl:i+1<s.length
    ·obtain⟨d,hdd⟩:∃ d,s[i+1]?=some d:=⟨s[i+1],by simp[hl]⟩;have hd2:s.drop (i+1)=d::s.drop (i+2):=by
      obtain⟨q1,q2⟩:=List.getElem?_eq_some_iff.1 hdd;rw[List.drop_eq_getElem_cons q1,q2]
     have hq:quoM (s.drop i) acc i=match meantM d with|none=>none|some x=>quoM (s.drop (i+2)) (acc++[x]) (i+2):=by
      rw[hd,hd2,quoM,if_neg c32,if_neg c34,if_pos c92]
     have e2:IntKind.i64.wrap ((i:Int)+2)=((i+2:Nat):Int):=by rw[qAL _ (by omega) (by omega)]; omega
     have step3:∀ x:UInt8,meantM d=some x->lim tab.get S 92 0 3 [kS s,kI (i:Int),kS (acc++[x])] h=some (quoV (quoM (s.drop i) acc i),[]):=by
      intro x hx;rw[hq,hx,w92_3,b92_3,qAZ,e2];exact ih (s.length - (i+2)) (by omega) (i+2) (acc++[x]) h (Nat.le_refl _) (by omega) (by simp; omega)
     have hsl:(s.take (i+2)).drop (i+1)=[d]:=by
      rw[List.drop_take,hd2]; simp
     rw[show(!decide (((i+1:Nat):Int)<(s.length:Int)))=false by simp; omega,qCR,qAZ,e1,qDC s (i+1) d hdd,qA6];by_cases d92:d.toNat=92
     ·rw[decide_eq_true (show(d.toNat:Int)=92 by omega),qD5,w92_2,b92_2,qD5,qAZ,e1,qAZ,e2,qHl s (i+1) (i+2) (by omega) (by omega),hsl,qUJ _ _ _ (by simp; omega)];exact step3 d (by unfold meantM; rw[if_neg (by omega),if_neg (by omega),if_neg (by omega),if_pos d92])
     rw[decide_eq_false (show ¬ (d.toNat:Int)=92 by omega),qCR,qA6,w92_2,b92_2];by_cases d34:d.toNat=34
     ·rw[decide_eq_true (show(d.toNat:Int)=34 by omega),qD5,qAZ,e1,qAZ,e2,qHl s (i+1) (i+2) (by omega) (by omega),hsl,qUJ _ _ _ (by simp; omega)];exact step3 d (by unfold meantM; rw[if_neg (by omega),if_neg (by omega),if_pos d34])
     rw[decide_eq_false (show ¬ (d.toNat:Int)=34 by omega),qCR,qA6];by_cases d110:d.toNat=110
     ·rw[decide_eq_true (show(d.toNat:Int)=110 by omega),qD5,qUJ _ _ _ (by simp; omega)];exact step3 10 (by unfold meantM; rw[if_pos d110])
     rw[decide_eq_false (show ¬ (d.toNat:Int)=110 by omega),qCR,qA6];by_cases d116:d.toNat=116
     ·rw[decide_eq_true (show(d.toNat:Int)=116 by omega),qD5,qUJ _ _ _ (by simp; omega)];exact step3 9 (by unfold meantM; rw[if_neg d110,if_pos d116])
     rw[decide_eq_false (show ¬ (d.toNat:Int)=116 by omega),qCR,qAI,qAI,qAJ _ _ rfl,hq];have:meantM d=none:=by unfold meantM; rw[if_neg d110,if_neg d116,if_neg d34,if_neg d92]
     rw[this]; rfl
    ·have hn:s.drop (i+1)=[]:=List.drop_eq_nil_of_le (by omega);rw[show(!decide (((i+1:Nat):Int)<(s.length:Int)))=true by simp; omega,qD5,qAI,qAI,qAJ _ _ rfl,hd,hn,quoM,if_neg c32,if_neg c34]; rfl
   ·rw[decide_eq_false (show ¬ (c.toNat:Int)=92 by omega),show(!false)=true from rfl,qD5,qAZ,e1];have hsl:(s.take (i+1)).drop i=[c]:=by rw[List.drop_take,hd]; simp
    rw[qHl s i (i+1) (by omega) (by omega),hsl,qUJ _ _ _ (by simp; omega),qAZ,e1];have:=ih (s.length - (i+1)) (by omega) (i+1) (acc++[c]) h (Nat.le_refl _) (by omega) (by simp; omega);rw[this,hd];cases hq:s.drop (i+1) with
    |nil =>
     have e:quoM [c] acc i=none:=by rw[quoM,if_neg c32,if_neg c34]
     rw[e]; rfl
    |cons d r =>
     have e:quoM (c::d::r) acc i=quoM (d::r) (acc++[c]) (i+1):=by rw[quoM,if_neg c32,if_neg c34,if_neg c92]
     rw[e]
  ·exact done i acc h (by omega)
theorem qXA(s:LB)(hs:s.length<=1500)(i:Nat)(hi:i<s.length):Om 92 [kS s,kI (i:Int)] []=some (quoV (quoM (s.drop (i+1)) [] (i+1)),[]):=by
 refine(qAD rfl).trans ?_;show lim tab.get S 92 0 0 [kS s,kI (i:Int)] h0=_;rw[w92_0,b92_0,qAZ,qAL _ (by omega) (by omega),show((i:Int)+1)=((i+1:Nat):Int) by omega];exact qVw s hs _ (i+1) [] h0 (Nat.le_refl _) (by omega) (by simp)
open Go Go.AI
def nextV(t:Tok)(k e:Int):TVal:=.tup [.agg t.cells,.c (.p (.int .i64 k)),.c (.p (.int .i64 e))]
def NextOk(r:Res1)(i:Nat)(o:One):Prop:=∃ t k,r=some (nextV t k o.e,[])/\(o.e=0->t={ o.t with pos:=(i:Int) }/\k=(i:Int)+o.n)
theorem qUM(s:LB)(i:Nat)(c:UInt8)(h:s[i]?=some c):s.drop i=c::s.drop (i+1):=by
 obtain⟨q1,q2⟩:=List.getElem?_eq_some_iff.1 h;rw[List.drop_eq_getElem_cons q1,q2]
theorem qWY(s:LB)(hs:s.length<=1500)(x1 x4:TVal):∀ (m k:Nat) (h:Heap),s.length - k<=m->k<=s.length ->
  lim tab.get S 59 0 1 [kS s,x1,x4,kI (k:Int)] h=lim tab.get S 59 0 2 [kS s,x1,x4,kI ((k+runLen isWord (s.drop k):Nat):Int)] h:=by
 intro m;have done:∀ (k:Nat) (h:Heap),k=s.length->lim tab.get S 59 0 1 [kS s,x1,x4,kI (k:Int)] h=lim tab.get S 59 0 2 [kS s,x1,x4,kI ((k+runLen isWord (s.drop k):Nat):Int)] h:=by
  intro k h hk;subst hk;rw[List.drop_length,w59_1,b59_1,qAs,qAT,decide_eq_false (by omega)];simp only[qBV,qJb,qCC,qCR]; rfl
 induction m with
 |zero=>intro k h h1 h2; exact done k h (by omega)
 |succ m ih =>
  intro k h h1 h2;by_cases hk:k<s.length
  ·obtain⟨c,hc⟩:∃ c,s[k]?=some c:=⟨s[k],by simp[hk]⟩;have hd:=qUM s k c hc;have next:=ih (k+1) h (by omega) (by omega);rw[w59_1,b59_1,qAs,qAT,decide_eq_true (by omega)];simp only[qBw];rw[qDC s k c hc,qAH 89 _ _ rfl (qU8 c) rfl];cases h3:isLetter c.toNat with
   |true =>
    simp only[qMx,qJb,qCT,qD5];rw[qAZ,qAL _ (by omega) (by omega),show((k:Int)+1)=((k+1:Nat):Int) by omega,next,hd];simp only[runLen,isWord,h3,Bool.true_or,if_true];rw[show k+1+runLen isWord (s.drop (k+1))=k+(runLen isWord (s.drop (k+1))+1) by omega]
   |false =>
    simp only[qOB];rw[qDC s k c hc,qAH 90 _ _ rfl (qUb c) rfl,qCC,qCT];cases h4:isDigit c.toNat with
    |true =>
     rw[qD5,qAZ,qAL _ (by omega) (by omega),show((k:Int)+1)=((k+1:Nat):Int) by omega,next,hd];simp only[runLen,isWord,h3,h4,Bool.or_true,if_true];rw[show k+1+runLen isWord (s.drop (k+1))=k+(runLen isWord (s.drop (k+1))+1) by omega]
    |false =>
     rw[qCR,hd];simp only[runLen,isWord,h3,h4,Bool.or_false,Bool.false_eq_true,if_false]; rfl
  ·exact done k h (by omega)
theorem qXD(s:LB)(hs:s.length<=1500)(x1 x4:TVal):∀ (m k:Nat) (h:Heap),s.length - k<=m->k<=s.length ->
  lim tab.get S 59 0 3 [kS s,x1,x4,kI (k:Int)] h=lim tab.get S 59 0 4 [kS s,x1,x4,kI ((k+runLen isDigit (s.drop k):Nat):Int)] h:=by
 intro m;have done:∀ (k:Nat) (h:Heap),k=s.length->lim tab.get S 59 0 3 [kS s,x1,x4,kI (k:Int)] h=lim tab.get S 59 0 4 [kS s,x1,x4,kI ((k+runLen isDigit (s.drop k):Nat):Int)] h:=by
  intro k h hk;subst hk;rw[List.drop_length,w59_3,b59_3,qAs,qAT,decide_eq_false (by omega)];simp only[qBV,qJb,qCC,qCR]; rfl
 induction m with
 |zero=>intro k h h1 h2; exact done k h (by omega)
 |succ m ih =>
  intro k h h1 h2;by_cases hk:k<s.length
  ·obtain⟨c,hc⟩:∃ c,s[k]?=some c:=⟨s[k],by simp[hk]⟩;have hd:=qUM s k c hc;have next:=ih (k+1) h (by omega) (by omega);rw[w59_3,b59_3,qAs,qAT,decide_eq_true (by omega)];simp only[qBw];rw[qDC s k c hc,qAH 90 _ _ rfl (qUb c) rfl,qCT];cases h3:isDigit c.toNat with
   |true =>
    rw[qD5,qAZ,qAL _ (by omega) (by omega),show((k:Int)+1)=((k+1:Nat):Int) by omega,next,hd];simp only[runLen,h3,if_true];rw[show k+1+runLen isDigit (s.drop (k+1))=k+(runLen isDigit (s.drop (k+1))+1) by omega]
   |false =>
    rw[qCR,hd];simp only[runLen,h3,Bool.false_eq_true,if_false]; rfl
  ·exact done k h (by omega)
theorem qWU(s:LB)(hs:s.length<=1500)(i:Nat)(c:UInt8)(hc:s[i]?=some c)(x4:TVal):∀ (m j:Nat) (h:Heap),13 - j<=m->j<=13 ->
  lim tab.get S 59 0 6 [kS s,kI (i:Int),x4,kS singles,kI (j:Int)] h=if (singles.drop j).contains c then
   (vop Om (.build [(.p (.int .i64 0)),(.p (.str [])),(.p (.int .i64 0)),(.p (.int .i64 0))] [(0,1,(.k (kI 4))),(1,1,(.k (kS [c]))),(3,1,(.k (kI (i:Int))))]) h 173 λx173 h =>
   vstore 4 x4 x173 h λ_ h=>vcell true 4 x4 h λc0=>tcomp (kI ((i+1:Nat):Int)) λc1=>tcomp (kI 0) λc2=>vfin true 0 [c0,c1,c2] h) else lim tab.get S 59 0 7 [x4] h:=by
 intro m;have hil:=(List.getElem?_eq_some_iff.1 hc).1;have done:∀ (j:Nat) (h:Heap),j=13->lim tab.get S 59 0 6 [kS s,kI (i:Int),x4,kS singles,kI (j:Int)] h=if (singles.drop j).contains c then
   (vop Om (.build [(.p (.int .i64 0)),(.p (.str [])),(.p (.int .i64 0)),(.p (.int .i64 0))] [(0,1,(.k (kI 4))),(1,1,(.k (kS [c]))),(3,1,(.k (kI (i:Int))))]) h 173 λx173 h =>
   vstore 4 x4 x173 h λ_ h=>vcell true 4 x4 h λc0=>tcomp (kI ((i+1:Nat):Int)) λc1=>tcomp (kI 0) λc2=>vfin true 0 [c0,c1,c2] h) else lim tab.get S 59 0 7 [x4] h:=by
  intro j h hj;subst hj;rw[w59_6,b59_6,qAs,qAT,decide_eq_false (by decide),qCR]; rfl
 induction m with
 |zero=>intro j h h1 h2; exact done j h (by omega)
 |succ m ih =>
  intro j h h1 h2;by_cases hj:j<13
  ·obtain⟨d,hd⟩:∃ d,singles[j]?=some d:=⟨singles[j]'(by simpa [singles] using hj),by simp⟩;have hdd:=qUM singles j d hd;rw[w59_6,b59_6,qAs,qAT,decide_eq_true (show(j:Int)<(singles.length:Int) by show(j:Int)<13; omega),qD5,qDC singles j d hd,qDC s i c hc,qA6,hdd];by_cases hdc:d=c
   ·subst hdc;have e1:IntKind.i64.wrap ((i:Int)+1)=((i+1:Nat):Int):=by rw[qAL _ (by omega) (by omega)]; omega
    rw[decide_eq_true rfl,qD5,if_pos (by simp)];simp only[qAZ,e1];rw[qHl s i (i+1) (by omega) (by omega),show(s.take (i+1)).drop i=[d] by rw[List.drop_take,qUM s i d hc]; simp]
   ·have:¬ (d.toNat:Int)=(c.toNat:Int):=λe=>hdc (UInt8.toNat_inj.1 (by omega))
    rw[decide_eq_false this,qCR,qAZ,qAL _ (by omega) (by omega),show((j:Int)+1)=((j+1:Nat):Int) by omega,ih (j+1) h (by omega) (by omega)];have e:((d::singles.drop (j+1)).contains c)=(singles.drop (j+1)).contains c:=by
     rw[List.contains_cons]; simp[Ne.symm hdc]
    rw[e]
  ·exact done j h (by omega)
theorem qVC(c:UInt8):singles.contains c=isSingle c.toNat:=by
 have h:∀ n:Nat,n<256->singles.contains (UInt8.ofNat n)=isSingle n:=by decide
 have:=h c.toNat (UInt8.toNat_lt c)
 rwa [UInt8.ofNat_toNat] at this
theorem qUP(t:Tok)(k e:Int)(op:AOp)(d:Nat)(h:Heap)(cs:List Cell)(hh:h.get (.own 4 1)=some (.cells cs 0))(hc:cs.length=4)(hb:plan .nil op=some (.pure (.v (.agg t.cells))))(O:Oracle) :
  (vop O op h d λx h=>vstore 4 (.v (.c (.ptr (.own 4 1) 0))) x h λ_ h=>vcell true 4 (.v (.c (.ptr (.own 4 1) 0))) h λc0=>tcomp (kI k) λc1=>tcomp (kI e) λc2=>vfin true 0 [c0,c1,c2] h)=some (nextV t k e,[]):=by
 rw[qAx _ _ hb,qAt 4 4 1 h cs t.cells _ hh (by decide) hc rfl,qAI,qAI,qAJ _ _ rfl]; rfl
theorem qWW(s:LB)(hs:s.length<=1500)(i:Nat)(c:UInt8)(hc:s[i]?=some c)(h:Heap)(cs:List Cell)(hh:h.get (.own 4 1)=some (.cells cs 0))(hcs:cs.length=4) :
  NextOk (lim tab.get S 59 0 5 [kS s,kI (i:Int),.v (.c (.ptr (.own 4 1) 0))] h) i (signM (s.drop i)):=by
 have hil:=(List.getElem?_eq_some_iff.1 hc).1;have hd:=qUM s i c hc;have e2:IntKind.i64.wrap ((i:Int)+2)=((i+2:Nat):Int):=by rw[qAL _ (by omega) (by omega)]; omega
 have fin6:¬ (s.drop i).take 2=two1->¬ (s.drop i).take 2=two2->NextOk (lim tab.get S 59 0 6 [kS s,kI (i:Int),.v (.c (.ptr (.own 4 1) 0)),kS singles,kI 0] h) i (signM (s.drop i)):=by
  intro n1 n2;have hm:signM (s.drop i)=if isSingle c.toNat then ⟨⟨4,[c],0,0⟩,1,0⟩ else bad 11:=by
   unfold signM;rw[if_neg n1,if_neg n2,hd]
  have:=qWU s hs i c hc (.v (.c (.ptr (.own 4 1) 0))) 13 0 h (by decide) (by decide);rw[show(kI 0:TVal)=kI ((0:Nat):Int) from rfl,this,List.drop_zero,qVC,hm];cases hq:isSingle c.toNat with
  |true =>
   rw[if_pos rfl,if_pos rfl];exact⟨⟨4,[c],0,(i:Int)⟩,((i+1:Nat):Int),qUP ⟨4,[c],0,(i:Int)⟩ _ 0 _ _ h cs hh hcs rfl _,λ_=>⟨rfl,by show((i+1:Nat):Int)=(i:Int)+1; omega⟩⟩
  |false =>
   rw[if_neg (by decide),if_neg (by decide),w59_7,b59_7];exact⟨Tok.zero,0,qUP Tok.zero 0 11 _ _ h cs hh hcs rfl _,λe=>by cases e⟩
 have two:∀ w:LB,(s.drop i).take 2=w->(w=two1\/w=two2)->i+2<=s.length->signM (s.drop i)=⟨⟨4,w,0,0⟩,2,0⟩:=by
  intro w hw ho hl;unfold signM
  rcases ho with rfl|rfl
  ·rw[if_pos hw]
  ·rw[if_neg (by rw[hw]; decide),if_pos hw]
 rw[w59_5,b59_5,qAZ,e2,qAs,qPV];by_cases hl:i+2<=s.length
 ·rw[show(!decide ((s.length:Int)<((i+2:Nat):Int)))=true by simp; omega];simp only[qBw];have hsl:(s.take (i+2)).drop i=(s.drop i).take 2:=by rw[List.drop_take,show i+2 - i=2 by omega]
  have ok:∀ w:LB,(s.drop i).take 2=w->(w=two1\/w=two2)->NextOk (vbin .add 0 (kI (i:Int)) (kI 2) h λx148 h =>
    vop Om (.slice 0 true (.k (kS s)) (some (.k (kI (i:Int)))) (some (.k x148)) none) h 149 λx149 h =>
    vop Om (.build [(.p (.int .i64 0)),(.p (.str [])),(.p (.int .i64 0)),(.p (.int .i64 0))] [(0,1,(.k (kI 4))),(1,1,(.k x149)),(3,1,(.k (kI (i:Int))))]) h 151 λx151 h =>
    vbin .add 0 (kI (i:Int)) (kI 2) h λx153 h =>
    vstore 4 (.v (.c (.ptr (.own 4 1) 0))) x151 h λ_ h =>
    vcell true 4 (.v (.c (.ptr (.own 4 1) 0))) h λc0=>tcomp x153 λc1=>tcomp (kI 0) λc2=>vfin true 0 [c0,c1,c2] h) i (signM (s.drop i)):=by
   intro w hw ho;rw[qAZ,e2,qHl s i (i+2) (by omega) (by omega),hsl,hw,qAx _ (.v (.agg (Tok.cells ⟨4,w,0,(i:Int)⟩))) rfl,qAZ,e2,qAt 4 4 1 h cs _ _ hh (by decide) hcs rfl,qAI,qAI,qAJ _ _ rfl,two w hw ho hl];exact⟨⟨4,w,0,(i:Int)⟩,((i+2:Nat):Int),rfl,λ_=>⟨rfl,by show((i+2:Nat):Int)=(i:Int)+2; omega⟩⟩
  rw[qAZ,e2,qHl s i (i+2) (by omega) (by omega),hsl,qHo];by_cases h1:(s.drop i).take 2=two1
  ·rw[show decide ((s.drop i).take 2=[45,62])=true from decide_eq_true h1];simp only[qMx,qJb,qCT,qD5];exact ok _ h1 (.inl rfl)
  ·rw[show decide ((s.drop i).take 2=[45,62])=false from decide_eq_false h1];simp only[qOB];rw[qAZ,e2,qHl s i (i+2) (by omega) (by omega),hsl,qHo,qCC,qCT];by_cases h2:(s.drop i).take 2=two2
   ·rw[show decide ((s.drop i).take 2=[58,61])=true from decide_eq_true h2,qD5];exact ok _ h2 (.inr rfl)
   ·rw[show decide ((s.drop i).take 2=[58,61])=false from decide_eq_false h2,qCR];exact fin6 h1 h2
 ·rw[show(!decide ((s.length:Int)<((i+2:Nat):Int)))=false by simp; omega];simp only[qBV,qJb,qCC,qCR];have hn:∀ w:LB,w.length=2->¬ (s.drop i).take 2=w:=by
   intro w hw e;have:=congrArg List.length e;simp at this;omega
  exact fin6 (hn two1 rfl) (hn two2 rfl)
theorem qW0(s:LB)(hs:s.length<=1500)(i:Nat)(c:UInt8)(hc:s[i]?=some c)(hl:isLetter c.toNat=true)(h:Heap)(cs:List Cell)(hh:h.get (.own 4 1)=some (.cells cs 0))(hcs:cs.length=4) :
  NextOk (lim tab.get S 59 0 1 [kS s,kI (i:Int),.v (.c (.ptr (.own 4 1) 0)),kI (i:Int)] h) i (wrdM (s.drop i)):=by
 have hil:=(List.getElem?_eq_some_iff.1 hc).1;have hr:=qCj isWord (s.drop i);rw[List.length_drop] at hr;rw[qWY s hs _ _ _ i h (Nat.le_refl _) (by omega)];generalize hk:runLen isWord (s.drop i)=n at hr;unfold wrdM;rw[hk,w59_2,b59_2,qAf,qAL _ (by omega) (by omega),show(((i+n:Nat):Int) - (i:Int))=(n:Int) by omega,qBb];by_cases h1:16<n
 ·rw[decide_eq_true (by omega),qD5,if_pos h1];exact⟨Tok.zero,0,qUP Tok.zero 0 4 _ _ h cs hh hcs rfl _,λe=>by cases e⟩
 ·rw[decide_eq_false (by omega),qCR,qHl s i (i+n) (by omega) (by omega),if_neg h1,show(s.take (i+n)).drop i=(s.drop i).take n by rw[List.drop_take,show i+n - i=n by omega]];exact⟨⟨1,(s.drop i).take n,0,(i:Int)⟩,((i+n:Nat):Int),qUP ⟨1,(s.drop i).take n,0,(i:Int)⟩ _ 0 _ _ h cs hh hcs rfl _,λ_=>⟨rfl,by show((i+n:Nat):Int)=(i:Int)+(n:Int); omega⟩⟩
theorem qW7(s:LB)(hs:s.length<=1500)(i:Nat)(c:UInt8)(hc:s[i]?=some c)(hn:c.toNat=45\/isDigit c.toNat=true)(h:Heap)(cs:List Cell)(hh:h.get (.own 4 1)=some (.cells cs 0))(hcs:cs.length=4) :
  NextOk (lim tab.get S 59 0 3 [kS s,kI (i:Int),.v (.c (.ptr (.own 4 1) 0)),kI ((i+1:Nat):Int)] h) i (numberM (s.drop i)):=by
 have hil:=(List.getElem?_eq_some_iff.1 hc).1;have hd:=qUM s i c hc;have hr:=qCj isDigit (s.drop (i+1));rw[List.length_drop] at hr;have hall:=qRH isDigit (s.drop (i+1));rw[qXD s hs _ _ _ (i+1) h (Nat.le_refl _) (by omega)];generalize hk:runLen isDigit (s.drop (i+1))=n at hr hall;have hsl:(s.take (i+1+n)).drop i=c::(s.drop (i+1)).take n:=by
  rw[List.drop_take,hd,show i+1+n - i=n+1 by omega,List.take_succ_cons]
 have hlen:((s.drop (i+1)).take n).length=n:=by simp; omega
 rw[w59_4,b59_4,qHl s i (i+1+n) (by omega) (by omega),hsl,qAH 91 _ _ rfl (qWS c _ hall hn) rfl,qAj _ 0 _ rfl,qAj _ 1 _ rfl];generalize hv:numR (decide (c.toNat=45)) (if c.toNat=45 then (s.drop (i+1)).take n else c::(s.drop (i+1)).take n)=v;have key:(numberM (s.drop i)).e=v.2/\(v.2=0->(numberM (s.drop i)).t=⟨3,[],v.1,0⟩/\(numberM (s.drop i)).n=((1+n:Nat):Int)):=by
  unfold numberM;unfold numR at hv;by_cases h45:c.toNat=45
  ·have hc45:c=45:=UInt8.toNat_inj.1 h45;have hneg:neg (s.drop i)=1:=by unfold neg; rw[hd,hc45]; rfl
   rw[hneg,show(s.drop i).drop 1=s.drop (i+1) by rw[List.drop_drop],hk];simp only[h45,decide_true,if_true] at hv;rw[hlen] at hv;by_cases q1:19<n
   ·rw[if_pos q1] at hv ⊢; subst hv; exact⟨rfl,λe=>by cases e⟩
   ·rw[if_neg q1] at hv ⊢;by_cases q2:9223372036854775807+1<numVal ((s.drop (i+1)).take n)
    ·rw[if_pos q2] at hv ⊢; subst hv; exact⟨rfl,λe=>by cases e⟩
    ·rw[if_neg q2] at hv ⊢; subst hv; exact⟨rfl,λ_=>⟨rfl,rfl⟩⟩
  ·have hdig:isDigit c.toNat=true:=by rcases hn with q|q; exact absurd q h45; exact q
   have hneg:neg (s.drop i)=0:=by
    unfold neg; rw[hd];rw[if_neg (by intro e; simp at e; exact h45 (by rw[e]; rfl))]
   have hrun:runLen isDigit (s.drop i)=n+1:=by rw[hd]; simp only[runLen,hdig,if_true,hk]
   have htk:(s.drop i).take (n+1)=c::(s.drop (i+1)).take n:=by rw[hd,List.take_succ_cons]
   rw[hneg,List.drop_zero,hrun,htk];simp only[h45,decide_false,Bool.false_eq_true,if_false,Nat.add_zero] at hv;rw[List.length_cons,hlen] at hv;by_cases q1:19<n+1
   ·rw[if_pos q1] at hv ⊢; subst hv; exact⟨rfl,λe=>by cases e⟩
   ·rw[if_neg q1] at hv ⊢;by_cases q2:9223372036854775807<numVal (c::(s.drop (i+1)).take n)
    ·rw[if_pos q2] at hv; rw[if_pos (by omega)]; subst hv; exact⟨rfl,λe=>by cases e⟩
    ·rw[if_neg q2] at hv; rw[if_neg (by omega)]; subst hv;exact⟨rfl,λ_=>⟨rfl,by show((0+(n+1):Nat):Int)=_; omega⟩⟩
 unfold NextOk;rw[key.1];refine⟨⟨3,[],v.1,(i:Int)⟩,((i+1+n:Nat):Int),qUP ⟨3,[],v.1,(i:Int)⟩ _ v.2 _ _ h cs hh hcs rfl _,λe=>?_⟩;obtain⟨k1,k2⟩:=key.2 e;rw[k1,k2];exact⟨rfl,by omega⟩
theorem qWf(s:LB)(hs:s.length<=1500)(i:Nat)(hil:i<s.length)(h:Heap)(cs:List Cell)(hh:h.get (.own 4 1)=some (.cells cs 0))(hcs:cs.length=4) :
  NextOk (vcall Om (F_ 92) [kS s,kI (i:Int)] h 110 λx110 h =>
   vext x110 0 h λx111 h =>
   vext x110 1 h λx112 h =>
   vbin .lss 0 x112 (kI 0) h λx114 h =>
   vif x114 (
   vop Om (.build [(.p (.int .i64 0)),(.p (.str [])),(.p (.int .i64 0)),(.p (.int .i64 0))] []) h 115 λx115 h =>
   vstore 4 (.v (.c (.ptr (.own 4 1) 0))) x115 h λ_ h =>
   vcell true 4 (.v (.c (.ptr (.own 4 1) 0))) h λc0=>tcomp (kI 0) λc1=>tcomp (kI 11) λc2=>vfin true 0 [c0,c1,c2] h)
   (vlen Om 0 x111 h 117 λx117 h =>
   vbin .gtr 0 x117 (kI 200) h λx118 h =>
   vif x118 (
   vop Om (.build [(.p (.int .i64 0)),(.p (.str [])),(.p (.int .i64 0)),(.p (.int .i64 0))] []) h 119 λx119 h =>
   vstore 4 (.v (.c (.ptr (.own 4 1) 0))) x119 h λ_ h =>
   vcell true 4 (.v (.c (.ptr (.own 4 1) 0))) h λc0=>tcomp (kI 0) λc1=>tcomp (kI 4) λc2=>vfin true 0 [c0,c1,c2] h)
   (vop Om (.build [(.p (.int .i64 0)),(.p (.str [])),(.p (.int .i64 0)),(.p (.int .i64 0))] [(0,1,(.k (kI 2))),(1,1,(.k x111)),(3,1,(.k (kI (i:Int))))]) h 122 λx122 h =>
   vstore 4 (.v (.c (.ptr (.own 4 1) 0))) x122 h λ_ h =>
   vcell true 4 (.v (.c (.ptr (.own 4 1) 0))) h λc0=>tcomp x112 λc1=>tcomp (kI 0) λc2=>vfin true 0 [c0,c1,c2] h))) i (textM (s.drop i)):=by
 have ht:textM (s.drop i)=quoOne (quoM (s.drop (i+1)) [] 1):=by
  unfold textM;rw[List.drop_drop,qXT _ _ _ _ (Nat.le_refl _)]
 have hsh:=qW9 i _ (s.drop (i+1)) [] 1 (Nat.le_refl _);rw[show 1+i=i+1 by omega] at hsh;have hp:pT (quoV (quoM (s.drop (i+1)) [] (i+1)))=true:=by cases quoM (s.drop (i+1)) [] (i+1) <;> rfl
 rw[qAH 92 _ _ rfl (qXA s hs i hil) hp,hsh,ht];cases hq:quoM (s.drop (i+1)) [] 1 with
 |none =>
  rw[show quoV (Option.map (λp:LB×Nat=>(p.1,p.2+i)) none) = .tup [.c (.p (.str [])),.c (.p (.int .i64 (-1)))] from rfl,qAj _ 0 _ rfl,qAj _ 1 _ rfl,qAT,decide_eq_true (by decide),qD5];exact⟨Tok.zero,0,qUP Tok.zero 0 11 _ _ h cs hh hcs rfl _,λe=>by cases e⟩
 |some p =>
  obtain⟨t,k⟩:=p;rw[show quoV (Option.map (λp:LB×Nat=>(p.1,p.2+i)) (some (t,k))) = .tup [.c (.p (.str t)),.c (.p (.int .i64 ((k+i:Nat):Int)))] from rfl,qAj _ 0 _ rfl,qAj _ 1 _ rfl,qAT,decide_eq_false (by omega),qCR,qAs,qBb];unfold quoOne;dsimp only;by_cases h1:200<t.length
  ·rw[decide_eq_true (by omega),qD5,if_pos h1];exact⟨Tok.zero,0,qUP Tok.zero 0 4 _ _ h cs hh hcs rfl _,λe=>by cases e⟩
  ·rw[decide_eq_false (by omega),qCR,if_neg h1];exact⟨⟨2,t,0,(i:Int)⟩,((k+i:Nat):Int),qUP ⟨2,t,0,(i:Int)⟩ _ 0 _ _ h cs hh hcs rfl _,λ_=>⟨rfl,by show((k+i:Nat):Int)=(i:Int)+(k:Int); omega⟩⟩
theorem qX5(s:LB)(hs:s.length<=1500)(i:Nat)(c:UInt8)(hc:s[i]?=some c):NextOk (Om 59 [kS s,kI (i:Int)] []) i (oneM (s.drop i)):=by
 have hil:=(List.getElem?_eq_some_iff.1 hc).1;have hd:=qUM s i c hc;have hO:oneM (s.drop i)=if isLetter c.toNat then wrdM (s.drop i) else if numHead (s.drop i) then numberM (s.drop i) else if c.toNat=34 then textM (s.drop i) else signM (s.drop i):=by rw[hd]; rfl
 unfold NextOk;rw[show Om 59 [kS s,kI (i:Int)] []=lim tab.get S 59 0 0 [kS s,kI (i:Int)] h0 from qAD rfl,w59_0,b59_0,qDD,qOK];have hh:=Heap.own_get h0 4 (0+1) (.cells [.p (.int .i64 0),.p (.str []),.p (.int .i64 0),.p (.int .i64 0)] 0) (by decide) (λe=>by cases e);generalize (h0.own 4 (0+1) (.cells [.p (.int .i64 0),.p (.str []),.p (.int .i64 0),.p (.int .i64 0)] 0))=h at hh;rw[qDC s i c hc,qAH 89 _ _ rfl (qU8 c) rfl,hO];cases h1:isLetter c.toNat with
 |true =>
  rw[qD5,if_pos rfl];exact qW0 s hs i c hc h1 h _ hh rfl
 |false =>
  rw[qCR,if_neg (by decide),qDC s i c hc,qAH 90 _ _ rfl (qUb c) rfl];have e1:IntKind.i64.wrap ((i:Int)+1)=((i+1:Nat):Int):=by rw[qAL _ (by omega) (by omega)]; omega
  have num:numHead (s.drop i)=true->(c.toNat=45\/isDigit c.toNat=true)->NextOk (vbin .add 0 (kI (i:Int)) (kI 1) h λx76 h=>lim tab.get S 59 0 3 [kS s,kI (i:Int),.v (.c (.ptr (.own 4 1) 0)),x76] h) i (if numHead (s.drop i) then numberM (s.drop i) else if c.toNat=34 then textM (s.drop i) else signM (s.drop i)):=by
   intro q1 q2;rw[if_pos q1,qAZ,e1];exact qW7 s hs i c hc q2 h _ hh rfl
  have rest:numHead (s.drop i)=false->NextOk (vindex (kS s) (kI (i:Int)) h λx105 h=>vbin .eql 0 x105 (.v (.c (.p (.int .u8 34)))) h λx106 h=>vif x106 (vcall Om (F_ 92) [kS s,kI (i:Int)] h 110 λx110 h =>
   vext x110 0 h λx111 h =>
   vext x110 1 h λx112 h =>
   vbin .lss 0 x112 (kI 0) h λx114 h =>
   vif x114 (
   vop Om (.build [(.p (.int .i64 0)),(.p (.str [])),(.p (.int .i64 0)),(.p (.int .i64 0))] []) h 115 λx115 h =>
   vstore 4 (.v (.c (.ptr (.own 4 1) 0))) x115 h λ_ h =>
   vcell true 4 (.v (.c (.ptr (.own 4 1) 0))) h λc0=>tcomp (kI 0) λc1=>tcomp (kI 11) λc2=>vfin true 0 [c0,c1,c2] h)
   (vlen Om 0 x111 h 117 λx117 h =>
   vbin .gtr 0 x117 (kI 200) h λx118 h =>
   vif x118 (
   vop Om (.build [(.p (.int .i64 0)),(.p (.str [])),(.p (.int .i64 0)),(.p (.int .i64 0))] []) h 119 λx119 h =>
   vstore 4 (.v (.c (.ptr (.own 4 1) 0))) x119 h λ_ h =>
   vcell true 4 (.v (.c (.ptr (.own 4 1) 0))) h λc0=>tcomp (kI 0) λc1=>tcomp (kI 4) λc2=>vfin true 0 [c0,c1,c2] h)
   (vop Om (.build [(.p (.int .i64 0)),(.p (.str [])),(.p (.int .i64 0)),(.p (.int .i64 0))] [(0,1,(.k (kI 2))),(1,1,(.k x111)),(3,1,(.k (kI (i:Int))))]) h 122 λx122 h =>
   vstore 4 (.v (.c (.ptr (.own 4 1) 0))) x122 h λ_ h =>
   vcell true 4 (.v (.c (.ptr (.own 4 1) 0))) h λc0=>tcomp x112 λc1=>tcomp (kI 0) λc2=>vfin true 0 [c0,c1,c2] h)))
   (lim tab.get S 59 0 5 [kS s,kI (i:Int),.v (.c (.ptr (.own 4 1) 0))] h)) i (if numHead (s.drop i) then numberM (s.drop i) else if c.toNat=34 then textM (s.drop i) else signM (s.drop i)):=by
   intro q1;rw[if_neg (by rw[q1]; decide),qDC s i c hc,qA6];by_cases h34:c.toNat=34
   ·rw[decide_eq_true (show(c.toNat:Int)=34 by omega),qD5,if_pos h34];exact qWf s hs i hil h _ hh rfl
   ·rw[decide_eq_false (show ¬ (c.toNat:Int)=34 by omega),qCR,if_neg h34];exact qWW s hs i c hc h _ hh rfl
  cases h2:isDigit c.toNat with
  |true =>
   have hn:numHead (s.drop i)=true:=by rw[hd]; simp[numHead,h2]
   simp only[qMx,qJb,qCT,qD5];exact num hn (.inr h2)
  |false =>
   simp only[qOB];rw[qDC s i c hc,qA6];by_cases h45:c.toNat=45
   ·rw[decide_eq_true (show(c.toNat:Int)=45 by omega)];simp only[qBw];rw[qAZ,e1,qAs,qAT,qCT];by_cases hl:i+1<s.length
    ·obtain⟨d,hdd⟩:∃ d,s[i+1]?=some d:=⟨s[i+1],by simp[hl]⟩;have hd2:=qUM s (i+1) d hdd;rw[decide_eq_true (by omega)];simp only[qBw];rw[qAZ,e1,qDC s (i+1) d hdd,qAH 90 _ _ rfl (qUb d) rfl,qCT,qCC];cases h3:isDigit d.toNat with
     |true =>
      rw[qD5];exact num (by rw[hd,hd2]; simp[numHead,h45,h3]) (.inl h45)
     |false =>
      rw[qCR];exact rest (by rw[hd,hd2]; simp[numHead,h2,h3])
    ·rw[decide_eq_false (by omega)];simp only[qBV,qJb,qCC,qCR];have hn:s.drop (i+1)=[]:=List.drop_eq_nil_of_le (by omega);exact rest (by rw[hd,hn]; simp[numHead,h2])
   ·rw[decide_eq_false (show ¬ (c.toNat:Int)=45 by omega)];simp only[qBV,qJb,qCC,qCR];exact rest (by rw[hd]; simp[numHead,h2,h45])
open Go Go.AI
theorem qVz(f:Nat)(b:UInt8)(hb:isBlank b.toNat=true)(s:LB)(i:Nat)(acc:List Tok):toksGo (f+1) (b::s) i acc=toksGo (f+1) s (i+1) acc:=by
 have e:runLen isBlank (b::s)=runLen isBlank s+1:=by simp[runLen,hb]
 unfold toksGo;simp only[e,List.drop_succ_cons,show i+(runLen isBlank s+1)=i+1+runLen isBlank s by omega]
theorem qWg(f i:Nat)(acc:List Tok):toksGo f [] i acc = .ok acc:=by cases f <;> rfl
theorem qVx(acc:List Tok)(v:Cell)(h:Heap)(G:Grow [35] 4 v (acc.map Tok.row) h):lim tab.get S 36 0 2 [.v (.c v)] h=some (toksVal (toksFin (.ok acc)),[]):=by
 rw[w36_2,b36_2,qH9 G,qBb,qAM];show _=some (toksVal (if 400<acc.length then .error 3 else .ok acc),[]);by_cases h1:400<acc.length
 ·rw[if_pos (decide_eq_true (by simp; omega)),if_pos h1,qAI,qAI,qAJ _ _ rfl]; rfl
 ·rw[if_neg (by rw[decide_eq_true_eq]; simp; omega),if_neg h1,qAI,qAI,qNk _ G]; rfl
theorem qVt(s:LB)(hs:s.length<=1500):∀ (m i f:Nat) (acc:List Tok) (v:Cell) (h:Heap),s.length - i<=m->s.length - i<f->i<=s.length->acc.length<=i->Grow [35] 4 v (acc.map Tok.row) h ->
  lim tab.get S 36 0 1 [kS s,.v (.c v),kI (i:Int)] h=some (toksVal (toksFin (toksGo f (s.drop i) i acc)),[]):=by
 intro m;have done:∀ (i f:Nat) (acc:List Tok) (v:Cell) (h:Heap),i=s.length->Grow [35] 4 v (acc.map Tok.row) h->lim tab.get S 36 0 1 [kS s,.v (.c v),kI (i:Int)] h=some (toksVal (toksFin (toksGo f (s.drop i) i acc)),[]):=by
  intro i f acc v h hi G;subst hi;rw[List.drop_length,qWg,w36_1,b36_1,qAs,qAT,decide_eq_false (by omega),qCR];exact qVx acc v h G
 induction m using Nat.strongRecOn with
 |ind m ih =>
  intro i f acc v h hm hf hl ha G;by_cases hi:i<s.length
  ·obtain⟨c,hc⟩:∃ c,s[i]?=some c:=⟨s[i],by simp[hi]⟩;have hd:=qUM s i c hc;obtain⟨g,rfl⟩:∃ g,f=g+1:=⟨f - 1,by omega⟩;rw[w36_1,b36_1,qAs,qAT,decide_eq_true (by omega),qD5,qDC s i c hc,qAH 58 _ _ rfl (qWx c) rfl];cases hb:isBlank c.toNat with
   |true =>
    rw[qD5,qAZ,qAL _ (by omega) (by omega),show((i:Int)+1)=((i+1:Nat):Int) by omega,hd,qVz g c hb];exact ih (s.length - (i+1)) (by omega) (i+1) (g+1) acc v h (Nat.le_refl _) (by omega) (by omega) (by omega) G
   |false =>
    rw[qCR];obtain⟨t,k,n1,n2⟩:=qX5 s hs i c hc;rw[qAH 59 _ _ rfl n1 rfl,show nextV t k (oneM (s.drop i)).e = .tup [.agg t.cells,.c (.p (.int .i64 k)),.c (.p (.int .i64 (oneM (s.drop i)).e))] from rfl,qAj _ 0 _ rfl,qAj _ 1 _ rfl,qAj _ 2 _ rfl,qDD];rw[qDo 4 (.own 6 (h.gen 6+1)) 0 0 _ (.agg t.cells) (Heap.own_get _ _ _ _ (by decide) (λe=>by cases e)) (by decide) rfl (by decide),Heap.put_own,qIj];have hk:runLen isBlank (s.drop i)=0:=by rw[hd]; simp[runLen,hb]
    have hgo:toksGo (g+1) (s.drop i) i acc=if (oneM (s.drop i)).e=0 then toksGo g ((s.drop i).drop (oneM (s.drop i)).n.toNat) (i+(oneM (s.drop i)).n.toNat) (acc++[{ (oneM (s.drop i)).t with pos:=(i:Int) }]) else .error (oneM (s.drop i)).e:=by
     rw[toksGo];simp only[hk,List.drop_zero,Nat.add_zero];rw[hd]
    have hbd:=qLC (s.drop i) (by rw[hd]; simp);rw[hgo];generalize oneM (s.drop i)=o at n1 n2 hbd;by_cases hoe:o.e=0
    ·obtain⟨rfl,rfl⟩:=n2 hoe;obtain⟨n,e1,e2,e3⟩:=hbd hoe;rw[List.length_drop] at e3;rw[decide_eq_true hoe,if_pos hoe,show(!true)=false from rfl,qCR];have G1:=((G.own (d:=6) (h.gen 6+1) (.cells [.p (.int .i64 0),.p (.str []),.p (.int .i64 0),.p (.int .i64 0)] 0) (by decide)).own (d:=6) (h.gen 6+1) (.cells (splice [.p (.int .i64 0),.p (.str []),.p (.int .i64 0),.p (.int .i64 0)] 0 (Comp.agg (Tok.cells { o.t with pos:=(i:Int) })).cells) 0) (by decide));rw[qNV 4 (.own 6 (h.gen 6+1)) 0 0 _ (Heap.own_get _ _ _ _ (by decide) (λe=>by cases e)) rfl];rw[qAx (.bslice 4 1 _ _ false) (kSl 4 true [Tok.row { o.t with pos:=(i:Int) }]) rfl];have q4:((acc.map Tok.row).length+1)*40<=1099511627776:=by rw[List.length_map]; omega
     obtain⟨v',h',G',e',_⟩:=qEv (d:=35) (by':=40) (new:=[Tok.row { o.t with pos:=(i:Int) }]) true G1 (by decide) (by simp) (by simp[Tok.row]) (by simpa using q4) (by decide);refine(e' _ _ _).trans ?_;have en:(i:Int)+o.n=((i+n:Nat):Int):=by rw[e1]; omega
     rw[en,e1,Int.toNat_natCast,List.drop_drop];exact ih (s.length - (i+n)) (by omega) (i+n) g (acc++[{ o.t with pos:=(i:Int) }]) v' h' (Nat.le_refl _) (by omega) (by omega) (by simp; omega) (by simpa using G')
    ·rw[decide_eq_false hoe,if_neg hoe,show(!false)=true from rfl,qD5,qAI,qAI,qAJ _ _ rfl];rfl
  ·exact done i f acc v h (by omega) G
theorem qWQ(s:LB):Om 36 [kS s] []=some (toksVal (tokensM s),[]):=by
 refine(qAD rfl).trans ?_;show lim tab.get S 36 0 0 [kS s] h0=_;rw[w36_0,b36_0,qAs,qBb,qAM];unfold tokensM;by_cases h1:1500<s.length
 ·rw[if_pos (decide_eq_true (by omega)),if_pos h1,qAI,qAI,qAJ _ _ rfl]; rfl
 ·rw[if_neg (by rw[decide_eq_true_eq]; omega),if_neg h1];exact qVt s (by omega) s.length 0 (s.length+1) [] (.p .nilslice) h0 (by omega) (by omega) (by omega) (by simp) (Grow.nil _ 4 _)
open Go Go.AI
def leadM(key:LB):List (LB)->Nat
 |[]=>0
 |a::l=>if bless a key then leadM key l+1 else 0
theorem qJe(key:LB):∀ l:List (LB),leadM key l<=l.length
 |[]=>Nat.le_refl _
 |a::l=>by
  unfold leadM;split
  ·have:=qJe key l; simp; omega
  ·exact Nat.zero_le _
def putM(v:TT)(key:LB)(x:TT):TT :=
 if v.names.list[leadM key v.names.list]?=some key then v else
  .mk v.kind v.name (.mk false (v.names.list.take (leadM key v.names.list)++[key]++v.names.list.drop (leadM key v.names.list))) (.mk false (v.kids.list.take (leadM key v.names.list)++[x]++v.kids.list.drop (leadM key v.names.list)))
abbrev p3:TVal:=.v (.c (.ptr (.own 3 1) 0))
abbrev p5:TVal:=.v (.c (.ptr (.own 5 1) 0))
abbrev p6:TVal:=.v (.c (.ptr (.own 6 1) 0))
theorem qXP(v:TT)(key:LB)(x5 x6:TVal)(h:Heap)(hv:h.get (.own 3 1)=some (.cells (pcells v.row) 0))(hl:v.names.len<=1000) :
  ∀ i:Nat,lim tab.get S 28 0 1 [kS key,p3,x5,x6,kI (i:Int)] h=lim tab.get S 28 0 2 [kS key,p3,x5,x6,kI ((i+leadM key (v.names.list.drop i):Nat):Int)] h:=by
 refine qE7 v.names.len (λi hi=>?_) (λi hi ih=>?_) <;> rw[w28_1,b28_1]
 ·have h1:¬ (i:Int)<(v.names.len:Int):=by omega
  simp (maxSteps:=9^7) +contextual only[exa,rA,rB,rC,rD,rE,rF,rG,rH,rI,hv,h1,qB8 hi,leadM]
 ·have h1:(i:Int)<(v.names.len:Int):=by omega
  obtain⟨s,hs,h2,_⟩:=qBN hi;cases h3:bless s key
  ·simp (maxSteps:=9^7) +contextual only[exa,rA,rB,rC,rD,rE,rF,rG,rH,rI,hv,h1,h2,hs,h3,leadM,Bool.false_eq_true,if_false]
  ·simp (maxSteps:=9^7) +contextual only[exa,rA,rB,rC,rD,rE,rF,rG,rH,rI,hv,h1,h2,hs,h3,leadM,if_true,qBq i (by omega),ih];rw[show i+1+leadM key (v.names.list.drop (i+1))=i+(leadM key (v.names.list.drop (i+1))+1) by omega]
def putK(v:TT)(key:LB)(x:TT)(k:Nat):TT :=
 if v.names.list[k]?=some key then v else .mk v.kind v.name (.mk false (v.names.list.take k++[key]++v.names.list.drop k)) (.mk false (v.kids.list.take k++[x]++v.kids.list.drop k))
theorem qUs{β:Type}{O:Oracle}{h:Heap}{d:Nat}{op:AOp}{v':TVal}{h':Heap}{t:AI.Touch}(e:∀ (β:Type) (O:Oracle) (kt:KT β),vtouch O op h d kt=kt v' h' t)(k:KO β):vop O op h d k=k v' h':=by
 rw[qEx,e]
theorem qXs(v x:TT)(key:LB)(k:Nat)(h:Heap)(hv:h.get (.own 3 1)=some (.cells (pcells v.row) 0))(hx:h.get (.own 5 1)=some (.cells (pcells x.row) 0))(h6:∃ cs,cs.length=4/\h.get (.own 6 1)=some (.cells cs 0))
  (hk:k<=v.names.len) (hk2:k<=v.kids.len) (hl:v.names.len<=1000) (hl2:v.kids.len<=1000) :
  lim tab.get S 28 0 2 [kS key,p3,p5,p6,kI (k:Int)] h=some (kA (putK v key x k).row,[]):=by
 obtain⟨cs,hcs,h6⟩:=h6;rw[w28_2,b28_2];by_cases hkey:v.names.list[k]?=some key
 ·have h1:(k:Int)<(v.names.len:Int):=by
   have:=(List.getElem?_eq_some_iff.1 hkey).1;unfold Sl.len; omega
  simp (maxSteps:=9^7) +contextual only[exa,rA,rB,rC,rD,rE,rF,rG,rH,rI,hv,hx,h6,h1,hkey,hcs,BEq.rfl,putK,if_true,oneOf]
 ·obtain⟨bk,hbk,pk⟩:=qWA 1 sRow v.names k hk;obtain⟨dk,hdk,qk⟩:=qV2 1 sRow v.names k hk;obtain⟨bl,hbl,pl⟩:=qWA 4 TT.row v.kids k hk2;obtain⟨dl,hdl,ql⟩:=qV2 4 TT.row v.kids k hk2;have r1:∀ l:List (LB),∀ r∈l.map sRow,r.length=1:=λl r hr=>by obtain⟨_,_,rfl⟩:=List.mem_map.1 hr; rfl
  have r6:∀ l:List TT,∀ r∈l.map TT.row,r.length=4:=λl r hr=>by obtain⟨a,_,rfl⟩:=List.mem_map.1 hr; exact TT.row_len a
  have n1:v.names.list.length<=1000:=hl;have n2:v.kids.list.length<=1000:=hl2;have m1:∀ l:List TT,(l.map TT.row).length=l.length:=λl=>List.length_map _
  have m2:∀ l:List (LB),(l.map sRow).length=l.length:=λl=>List.length_map _
  obtain⟨c1,h1,t1,G1,e1,T1,K1,I1,X1⟩:=qML (h:=h) (d:=46) (D:=[46,56,61]) (sz:=1) (by':=16) (v:=.p (.slice 1 true [])) (rows:=[]) hbk (.inr (.inl rfl)) (by decide) (r1 _) (by simp[m2]; omega) (by decide);obtain⟨c2,h2,t2,G2,e2,T2,K2,I2,X2⟩:=qML (h:=h1) (d:=52) (D:=[52,65,70]) (sz:=4) (by':=72) (v:=.p (.slice 4 true [])) (rows:=[]) hbl (.inr (.inl rfl)) (by decide) (r6 _) (by simp[m1]; omega) (by decide);have G1':GS [46,56,61] 1 c1 ([]++(v.names.list.take k).map sRow) h2:=G1.keep λe he g hh=>K2 e g _ (by revert he; simp; omega) hh
  obtain⟨c3,h3,t3,G3,e3,T3,K3,I3,X3⟩:=qML (h:=h2) (d:=56) (sz:=1) (by':=16) (new:=[[.str key]]) (b:=.slice 1 true [[.str key]]) (.inr ⟨_,rfl⟩) G1' (by decide) (λr hr=>by simp at hr; rw[hr]; rfl) (by simp[m2]; omega) (by decide);obtain⟨c4,h4,t4,G4,e4,T4,K4,I4,X4⟩:=qML (d:=61) (by':=16) hdk G3 (by decide) (r1 _) (by simp[m2]; omega) (by decide);have G2':GS [52,65,70] 4 c2 ([]++(v.kids.list.take k).map TT.row) h4:=G2.keep λe he g hh=>K4 e g _ (by revert he; simp; omega) (K3 e g _ (by revert he; simp; omega) hh)
  obtain⟨c5,h5,t5,G5,e5,T5,K5,I5,X5⟩:=qML (d:=65) (by':=72) (new:=[x.row]) (b:=.slice 4 true [x.row]) (.inr ⟨_,rfl⟩) G2' (by decide) (λr hr=>by simp at hr; rw[hr]; exact TT.row_len x) (by simp[m1]; omega) (by decide);obtain⟨c6,h6',t6,G6,e6,T6,K6,I6,X6⟩:=qML (d:=70) (by':=72) hdl G5 (by decide) (r6 _) (by simp[m1]; omega) (by decide);obtain⟨ra,ea⟩:=X4 (.inr (X3 (.inl (by simp))));obtain⟨rb,eb⟩:=X6 (.inr (X5 (.inl (by simp))));have keep:∀ e o,e∉[46,56,61,52,65,70]->h.get (.own e 1)=some o->(h1.get (.own e 1)=some o/\h2.get (.own e 1)=some o)/\(h3.get (.own e 1)=some o/\h4.get (.own e 1)=some o)/\h5.get (.own e 1)=some o/\h6'.get (.own e 1)=some o:=by
   intro e o he ho;have a1:=K1 e 1 o (by revert he; simp <;> omega) ho;have a2:=K2 e 1 o (by revert he; simp <;> omega) a1;have a3:=K3 e 1 o (by revert he; simp <;> omega) a2;have a4:=K4 e 1 o (by revert he; simp <;> omega) a3;have a5:=K5 e 1 o (by revert he; simp <;> omega) a4;exact⟨⟨a1,a2⟩,⟨a3,a4⟩,a5,K6 e 1 o (by revert he; simp <;> omega) a5⟩
  obtain⟨⟨v1,v2⟩,⟨v3,v4⟩,v5,v6⟩:=keep 3 _ (by decide) hv;obtain⟨⟨x1,x2⟩,⟨x3,x4⟩,x5,x6⟩:=keep 5 _ (by decide) hx;obtain⟨⟨y1,y2⟩,⟨y3,y4⟩,y5,y6⟩:=keep 6 _ (by decide) h6;have A1:AI.Touch.apart t3 ⟨[(Ref.own 5 1).site],[],false⟩=true:=qEe T3 5 (by decide);have A2:AI.Touch.apart t4 ⟨[(Ref.own 5 1).site],[],false⟩=true:=qEe T4 5 (by decide);have A3:AI.Touch.apart t3 ⟨[(Ref.own 3 1).site],[],false⟩=true:=qEe T3 3 (by decide);have A4:AI.Touch.apart t4 ⟨[(Ref.own 3 1).site],[],false⟩=true:=qEe T4 3 (by decide);have A5:AI.Touch.apart t5 ⟨[(Ref.own 3 1).site],[],false⟩=true:=qEe T5 3 (by decide);have P1:put1 (pcells v.row) 2 [c4]=[.p (.int .i64 v.kind),.p (.str v.name),c4,.p (slP 4 TT.row v.kids)]:=by rw[TT.row_eq]; rfl
  have P2:∀ a b f:Cell,put1 [a,b,c4,f] 3 [c6]=[a,b,c4,c6]:=λ_ _ _=>rfl
  have P3:∀ a b c d:Cell,put1 cs 0 [a,b,c,d]=[a,b,c,d]:=λ_ _ _ _=>qBA _ _ (by rw[hcs]; rfl)
  have F:∀ h,vfin true 0 [.agg [.p (.int .i64 v.kind),.p (.str v.name),c4,c6]] h=some (kA (putK v key x k).row,[]):=by
   intro h;rw[ea,eb,qS6 _ rfl,putK,if_neg hkey,TT.row_eq (TT.mk _ _ _ _)];show _=some (kA [.int .i64 v.kind,.str v.name,slP 1 sRow (.mk false (v.names.list.take k++[key]++v.names.list.drop k)),slP 4 TT.row (.mk false (v.kids.list.take k++[x]++v.kids.list.drop k))],[]);simp only[oneOf,slP,pcells,Comp.strip,Cell.strip,List.map_append,List.map_cons,List.map_nil,List.nil_append];rfl
  have B1:∀ {β:Type}{O:Oracle}{h:Heap}{d:Nat}{kt:KT β},vtouch O (.bslice 1 1 [.p (.str [])] [(0,.k (kS key))] false) h d kt=kt (kSl 1 true [[.str key]]) h noTouch:=qMZ _ _ rfl;have B2:∀ {β:Type}{O:Oracle}{h:Heap}{d:Nat}{kt:KT β},vtouch O (.bslice 4 1 [.p (.int .i64 0),.p (.str []),.p .nilslice,.p .nilslice] [(0,.k (.v (.agg (pcells x.row))))] false) h d kt=kt (kSl 4 true [x.row]) h noTouch:=qLb 4 _ _ rfl (TT.row_len x);by_cases hlt:(k:Int)<(v.names.len:Int)
  ·obtain⟨s,hs,_,_⟩:=qBN (l:=v.names.list) (i:=k) (by unfold Sl.len at hlt; omega);have hne:¬ s=key:=λe=>hkey (by rw[hs,e])
   simp (maxSteps:=9^7) +contextual only[exa,rA,rB,rC,rD,rE,rF,rG,rH,rI,exY,hv,hx,h6,hlt,hs,hne,hcs,hkey,qAx _ _ pk,qAx _ _ pl,qBe _ _ qk,qBe _ _ ql,qUs e1,qUs e2,e3,e4,e5,e6,v1,v2,v3,v4,v5,v6,x1,x2,x3,x4,x5,x6,y6,B1,B2,qAv,A1,A2,A3,A4,A5,P1,P2,P3];exact F _
  ·simp (maxSteps:=9^7) +contextual only[exa,rA,rB,rC,rD,rE,rF,rG,rH,rI,exY,hv,hx,h6,hlt,hcs,hkey,qAx _ _ pk,qAx _ _ pl,qBe _ _ qk,qBe _ _ ql,qUs e1,qUs e2,e3,e4,e5,e6,v1,v2,v3,v4,v5,v6,x1,x2,x3,x4,x5,x6,y6,B1,B2,qAv,A1,A2,A3,A4,A5,P1,P2,P3];exact F _
def evenT(n:Nat)(v:TT):Prop:=v.names.len=v.kids.len/\v.names.len<=n
theorem qIM(v x:TT)(key:LB)(hv:evenT 1000 v):Om 28 [kA v.row,kS key,kA x.row] []=some (kA (putM v key x).row,[]):=by
 obtain⟨e,hl⟩:=hv;refine(qAD rfl).trans ?_;show lim tab.get S 28 0 0 [kA v.row,kS key,kA x.row] h0=_;rw[w28_0,b28_0];have hk:leadM key v.names.list<=v.names.len:=qJe _ _;simp (maxSteps:=9^7) +contextual only[exa,rA,rB,rC,rD,rE,rF,rG,rH,rI];refine(qXP v key _ _ _ ?_ hl 0).trans ?_
 ·rfl
 rw[List.drop_zero,Nat.zero_add];exact qXs v x key _ _ rfl rfl ⟨_,rfl,rfl⟩ hk (e▸hk) hl (by omega)
theorem qWe(n:Nat)(k:Int)(s:LB)(p:List (LB))(l:List TT)(x:TT)(key:LB)(m:Nat)(hm:m<=p.length)(e:p.length=l.length)(hl:p.length<=n):evenT (n+1) (.mk k s (.mk false (p.take m++[key]++p.drop m)) (.mk false (l.take m++[x]++l.drop m))):=by
 have h1:(p.take m++[key]++p.drop m).length=p.length+1:=by simp; omega
 have h2:(l.take m++[x]++l.drop m).length=l.length+1:=by simp; omega
 constructor
 ·show(p.take m++[key]++p.drop m).length=(l.take m++[x]++l.drop m).length;omega
 ·show(p.take m++[key]++p.drop m).length<=n+1;omega
theorem qVd(n:Nat)(v x:TT)(key:LB)(hv:evenT n v):evenT (n+1) (putM v key x):=by
 obtain⟨e,hl⟩:=hv;unfold putM;split
 ·exact⟨e,by omega⟩
 ·exact qWe n _ _ _ _ _ _ _ (qJe _ _) e hl
open Go Go.AI
mutual
def fewR:RW->Int->Int
 |.mk k n s l,m=>if (((!decide (0<m))||decide (10<(l.len:Int)))||decide (20<(s.len:Int))) then 0 else fewS l (IntKind.i64.wrap (m - 1))
def fewS:Sl RW->Int->Int
 |.nil,m=>m
 |.mk _ l,m=>fewL l m
def fewL:List RW->Int->Int
 |[],m=>m
 |r::rs,m=>if 0<m then fewL rs (fewR r m) else m
end
theorem qXy(l:Sl RW)(m:Int):fewS l m=fewL l.list m:=by cases l <;> simp[fewS,fewL,Sl.list]
def bigR(r:RW)(m:Int):Bool:=((!decide (0<m))||decide (10<(r.kids.len:Int)))||decide (20<(r.names.len:Int))
theorem qV4(r:RW)(m:Int):fewR r m=if bigR r m then 0 else fewL r.kids.list (IntKind.i64.wrap (m - 1)):=by
 cases r with
 |mk k n s l=>rw[fewR,qXy]; rfl
theorem qXK(r:RW)(g:Nat)(h:Heap)(hv:h.get (.own 2 g)=some (.cells (pcells r.row) 0))(hl:r.kids.len<=12)
  (ih:∀ x∈r.kids.list,∀ m,Om 11 [kA x.row,kI m] []=some (kI (fewR x m),[])) :
  ∀ (i:Nat) (m:Int),lim tab.get S 11 0 1 [kI m,.v (.c (.ptr (.own 2 g) 0)),kI (i:Int)] h=some (kI (fewL (r.kids.list.drop i) m),[]):=by
 refine qE7 r.kids.len (λi hi m=>?_) (λi hi ihl m=>?_) <;> rw[w11_1,b11_1]
 ·have h1:¬ (i:Int)<(r.kids.len:Int):=by omega
  simp (maxSteps:=9^7) +contextual only[exa,rA,rB,rC,rD,rE,rF,rG,rH,rI,exR,exY,hv,h1,qB8 hi,fewL,oneOf]
 ·have h1:(i:Int)<(r.kids.len:Int):=by omega
  obtain⟨x,hs,h2,hx⟩:=qBN hi;by_cases hm:0<m
  ·have cc:CAL 11 [kA x.row,kI m] (kI (fewR x m)):=qAH 11 _ _ (by simp only[exP]) (ih x hx m) rfl;simp (maxSteps:=9^7) +contextual only[exa,rA,rB,rC,rD,rE,rF,rG,rH,rI,exR,exY,hv,h1,hs,hm,cc,qBq i (by omega),ihl,h2,fewL,if_true]
  ·simp (maxSteps:=9^7) +contextual only[exa,rA,rB,rC,rD,rE,rF,rG,rH,rI,exR,exY,hv,h1,hs,hm,h2,fewL,if_false,oneOf]
theorem qYD:∀ (n:Nat) (r:RW),SizeOf.sizeOf r<n->∀ m,Om 11 [kA r.row,kI m] []=some (kI (fewR r m),[]):=by
 intro n
 induction n with
 |zero=>intro r h; omega
 |succ n ih =>
  intro r hs m;refine(qAD rfl).trans ?_;show lim tab.get S 11 0 0 [kA r.row,kI m] h0=_;rw[w11_0,b11_0,qV4];cases hb:bigR r m
  ·unfold bigR at hb;simp (maxSteps:=9^7) +contextual only[exa,rA,rB,rC,rD,rE,rF,rG,rH,rI,exR,exY,hb,if_false];have hl:r.kids.len<=12:=by simp only[Bool.or_eq_false_iff,decide_eq_false_iff_not] at hb; omega
   have:=qXK r _ _ (qJI h0 2 1 _ 0 (by decide)) hl (λx hx=>ih x (by have:=RW.mem_size hx; omega)) 0 (IntKind.i64.wrap (m - 1));rw[List.drop_zero] at this;exact this
  ·unfold bigR at hb;simp (maxSteps:=9^7) +contextual only[exa,rA,rB,rC,rD,rE,rF,rG,rH,rI,exR,exY,hb,if_true,oneOf]
theorem u11{β:Type}{k:KO β}{h:Heap}{d:Nat}(r:RW)(m:Int):vcall Om (F_ 11) [kA r.row,kI m] h d k=k (kI (fewR r m)) h:=qAH 11 _ _ (by simp only[exP]) (qYD _ r (Nat.lt_succ_self _) m) rfl
mutual
def smR:RW->Prop
 |.mk k n s l=>l.len<=10/\s.len<=20/\smS l
def smS:Sl RW->Prop
 |.nil=>True
 |.mk _ l=>smL l
def smL:List RW->Prop
 |[]=>True
 |r::rs=>smR r/\smL rs
end
theorem qWt:∀ l:List RW,smL l↔∀ x∈l,smR x
 |[]=>by simp[smL]
 |r::l=>by simp[smL,qWt l]
theorem qUp(r:RW):smR r↔r.kids.len<=10/\r.names.len<=20/\∀ x∈r.kids.list,smR x:=by
 cases r with
 |mk k n s l =>
  rw[smR,<- qWt];cases l <;> simp[smS,smL,Sl.list,RW.kids,RW.names]
theorem qYJ:∀ (n:Nat) (r:RW),SizeOf.sizeOf r<n->∀ m:Int,m<=1000->0<=fewR r m/\(fewR r m<=m\/m<0)/\(fewR r m≠0->smR r):=by
 intro n
 induction n with
 |zero=>intro r h; omega
 |succ n ih =>
  intro r hs m hm;have hl:∀ l:List RW,(∀ x∈l,SizeOf.sizeOf x<n)->∀ m:Int,0<=m->m<=1000->0<=fewL l m/\fewL l m<=m/\(fewL l m≠0->∀ x∈l,smR x):=by
   intro l
   induction l with
   |nil=>intro _ m h0 _; exact⟨h0,Int.le_refl _,λ_ x hx=>by cases hx⟩
   |cons x l ihl =>
    intro hx m h0 h1;unfold fewL;by_cases hp:0<m
    ·rw[if_pos hp];obtain⟨a1,a2,a3⟩:=ih x (hx x (by simp)) m h1;have a2':fewR x m<=m:=by rcases a2 with a|a <;> omega
     obtain⟨b1,b2,b3⟩:=ihl (λy hy=>hx y (by simp[hy])) (fewR x m) a1 (by omega);refine⟨b1,by omega,λhz y hy=>?_⟩
     rcases List.mem_cons.1 hy with rfl|hy
     ·exact a3 (by omega)
     ·exact b3 hz y hy
    ·rw[if_neg hp];exact⟨h0,Int.le_refl _,λhz=>by omega⟩
  rw[qV4];cases hb:bigR r m
  ·simp only[Bool.false_eq_true,if_false];have hb':=hb;simp only[bigR,Bool.or_eq_false_iff,decide_eq_false_iff_not,Bool.not_eq_false',decide_eq_true_eq] at hb';obtain⟨⟨h1,h2⟩,h3⟩:=hb';rw[qAL (m - 1) (by omega) (by omega)];obtain⟨c1,c2,c3⟩:=hl r.kids.list (λx hx=>by have:=RW.mem_size hx; omega) (m - 1) (by omega) (by omega);exact⟨c1,by omega,λhz=>(qUp r).2 ⟨by omega,by omega,c3 hz⟩⟩
  ·simp only[if_true];exact⟨Int.le_refl _,by omega,λhz=>absurd rfl hz⟩
theorem qWc{r:RW}{m:Int}(hm:m<=1000)(h:fewR r m≠0):smR r:=(qYJ _ r (Nat.lt_succ_self _) m hm).2.2 h
def kidM(r:RW)(i:Nat):RW:=match r.kids.list[i % r.kids.len]? with
 |some x=>x
 |none=>.mk (IntKind.i64.wrap (r.n+(i:Int))) r.kind .nil .nil
theorem qVA{r:RW}(sm:smR r)(i:Nat):smR (kidM r i):=by
 unfold kidM;cases h:r.kids.list[i % r.kids.len]? with
 |none=>exact(qUp _).2 ⟨by show 0<=10; decide,by show 0<=20; decide,λx hx=>by cases hx⟩
 |some x=>exact((qUp r).1 sm).2.2 x (List.mem_of_getElem? h)
theorem qWl(r:RW)(i:Nat)(sm:smR r):Om 27 [kA r.row,kI (i:Int)] []=some (kA (kidM r i).row,[]):=by
 obtain⟨s1,_,_⟩:=(qUp r).1 sm;refine(qAD rfl).trans ?_;show lim tab.get S 27 0 0 [kA r.row,kI (i:Int)] h0=_;rw[w27_0,b27_0];by_cases hz:r.kids.len=0
 ·have e:kidM r i = .mk (IntKind.i64.wrap (r.n+(i:Int))) r.kind .nil .nil:=by
   unfold kidM;rw[List.getElem?_eq_none (by show r.kids.len<=_; omega)]
  have h1:((r.kids.len:Nat):Int)=0:=by omega
  have P:∀ a b c d:Cell,put1 ([.p (.int .i64 0),.p (.int .i64 0),.p .nilslice,.p .nilslice]:List Cell) 0 [a,b,c,d]=[a,b,c,d]:=λ_ _ _ _=>rfl
  rw[e];simp (maxSteps:=9^7) +contextual only[exa,rA,rB,rC,rD,rE,rF,rG,rH,rI,exR,h1,P];rw[RW.row_eq]; rfl
 ·have h1:¬ ((r.kids.len:Nat):Int)=0:=by omega
  have hlt:i % r.kids.len<r.kids.len:=Nat.mod_lt _ (by omega);obtain⟨x,hs,_,hx⟩:=qBN (l:=r.kids.list) (i:=i % r.kids.len) hlt;have e:kidM r i=x:=by unfold kidM; rw[hs]
  have hm:(i:Int).tmod (r.kids.len:Int)=((i % r.kids.len:Nat):Int):=by
   rw[Int.tmod_eq_emod_of_nonneg (by omega)]; omega
  have P:put1 ([.p (.int .i64 0),.p (.int .i64 0),.p .nilslice,.p .nilslice]:List Cell) 0 (pcells x.row)=pcells x.row:=qBA _ _ (by simp[pcells,RW.row_len]);rw[e];simp (maxSteps:=9^7) +contextual only[exa,rA,rB,rC,rD,rE,rF,rG,rH,rI,exR,h1,qF0 0 .i64 (i:Int) (r.kids.len:Int) (by omega),hm,hs,P,oneOf]
theorem u27{β:Type}{k:KO β}{h:Heap}{d:Nat}(r:RW)(i:Nat)(sm:smR r):vcall Om (F_ 27) [kA r.row,kI (i:Int)] h d k=k (kA (kidM r i).row) h:=qAH 27 _ _ (by simp only[exP]) (qWl r i sm) (by simp only[exP])
def nameL:List (LB):=[[97],[98],[99],[110,97,109,101],[110],[73,110,116],[116,121,112,101]]
def nameM(n:Int):LB:=nameL.getD (withinM n 7).toNat []
theorem qJX(n:Int):nameL[(withinM n 7).toNat]?=some (nameM n):=by
 have h:=qCy n 7 (by decide);have h1:(withinM n 7).toNat<nameL.length:=by show _<7; omega
 unfold nameM;rw[List.getD_eq_getElem?_getD,List.getElem?_eq_getElem h1]; rfl
theorem qNB(n:Int):Om 21 [kI n] []=some (kS (nameM n),[]):=by
 have hw:=qCy n 7 (by decide);have e:(nameL.map sRow)[(withinM n 7).toNat]?=some (sRow (nameM n)):=by rw[List.getElem?_map,qJX]; rfl
 have w0:decide (0<=withinM n 7)=true:=decide_eq_true hw.1;have B:∀ {β:Type}{O:Oracle}{h:Heap}{d:Nat}{k:KO β},vop O (.bslice 1 7 [.p (.str [])] [(0,.k (kS [97])),(1,.k (kS [98])),(2,.k (kS [99])),(3,.k (kS [110,97,109,101])),(4,.k (kS [110])),(5,.k (kS [73,110,116])),(6,.k (kS [116,121,112,101]))] false) h d k=k (kSl 1 true (nameL.map sRow)) h:=λ{β O h d k}=>qAx _ _ rfl
 refine(qAD rfl).trans ?_;show lim tab.get S 21 0 0 [kI n] h0=_;rw[w21_0,b21_0];simp (maxSteps:=9^7) +contextual only[exa,rA,rB,rC,rD,rE,rF,rG,rH,rI,B,u19 n 7 (by decide) (by decide),e,w0,oneOf]
theorem u21{β:Type}{k:KO β}{h:Heap}{d:Nat}(n:Int):vcall Om (F_ 21) [kI n] h d k=k (kS (nameM n)) h:=qAH 21 _ _ rfl (qNB n) rfl
open Go Go.AI
def nmM(r:RW)(i:Nat):LB:=match r.names.list[i]? with
 |some n=>nameM n
 |none=>[117]
def recM(r:RW)(sub:RW->TT):Nat->Nat->TT->TT
 |0,_,t=>t
 |c+1,i,t=>recM r sub c (i+1) (putM t (nmM r i) (sub (kidM r i)))
def cntM(r:RW)(k:Int):Nat:=if r.names.len=0 then (if k=8 then 1 else 0) else min r.names.len 4
def treeK(ns:List (LB))(k:Int)(r:RW)(sub:RW->TT):TT :=
 if k=9 then .mk 9 (ns.getD (withinM r.n (ns.length:Int)).toNat []) .nil .nil
 else if k=4\/k=5\/k=6 then (if k=6/\(sub (kidM r 0)).kind=6 then sub (kidM r 0) else .mk k [] .nil (.mk true [sub (kidM r 0)]))
 else if k=7\/k=8 then recM r sub (cntM r k) 0 (.mk k [] .nil .nil)
 else .mk k [] .nil .nil
def kindT(r:RW)(d:Int):Int:=if d<=1/\4<=1+withinM r.kind 9/\1+withinM r.kind 9<=8 then 2 else 1+withinM r.kind 9
def treeM(ns:List (LB)):Nat->RW->TT
 |0,r=>treeK ns (kindT r 0) r λ_=>.mk 0 [] .nil .nil
 |d+1,r=>treeK ns (kindT r ((d:Int)+1)) r (treeM ns d)
abbrev z4:List Cell:=[.p (.int .i64 0),.p (.str []),.p .nilslice,.p .nilslice]
abbrev t3:TVal:=.v (.c (.ptr (.own 3 1) 0))
abbrev t6:TVal:=.v (.c (.ptr (.own 6 1) 0))
abbrev t8:TVal:=.v (.c (.ptr (.own 8 1) 0))
structure TreeH (r:RW) (t:TT) (h:Heap):Prop where
 a3:h.get (.own 3 1)=some (.cells (pcells r.row) 0)
 a6:h.get (.own 6 1)=some (.cells z4 0)
 a8:h.get (.own 8 1)=some (.cells (pcells t.row) 0)
theorem TreeH.put{r:RW}{t:TT}{h:Heap}(H:TreeH r t h)(t':TT):TreeH r t' (h.own 8 1 (.cells (pcells t'.row) 0)) :=
 ⟨(Heap.own_get_ne h 8 1 _ 3 1 (by decide)).trans H.a3,(Heap.own_get_ne h 8 1 _ 6 1 (by decide)).trans H.a6,qJI h 8 1 _ 0 (by decide)⟩
theorem qR2(row:List PVal)(h:row.length=4):put1 z4 0 (pcells row)=pcells row:=qBA _ _ (by simp[pcells,h])
theorem qXf(a row:List PVal)(ha:a.length=4)(h:row.length=4):put1 (pcells a) 0 (pcells row)=pcells row:=qBA _ _ (by simp[pcells,h,ha])
theorem qUh(r:RW)(t:TT)(h:Heap)(H:TreeH r t h):lim tab.get S 12 0 6 [t6,t8] h=some (kA t.row,[]):=by
 rw[w12_6,b12_6];simp (maxSteps:=9^7) +contextual only[exa,rA,rB,rC,rD,rE,rF,rG,rH,rI,H.a6,H.a8,qR2 _ (TT.row_len t),oneOf]
def TreeOK(ns:Sl (LB))(d:Int)(f:RW->TT):Prop:=∀ x:RW,smR x->Om 12 [kA x.row,kI d,.v (.c (.p (slP 1 sRow ns)))] []=some (kA (f x).row,[])
theorem y27{β:Type}{kt:KT β}{h:Heap}{d:Nat}(r:RW)(i:Nat)(sm:smR r):vtouch Om (.call (.k (F_ 27)) [.k (kA r.row),.k (kI (i:Int))]) h d kt=kt (kA (kidM r i).row) h noTouch :=
 qKo 27 [kA r.row,kI (i:Int)] _ (by simp only[exP]) (qWl r i sm) (by simp only[exP])
theorem y12{β:Type}{kt:KT β}{h:Heap}{d:Nat}{ns:Sl (LB)}{m:Int}{f:RW->TT}(ok:TreeOK ns m f)(x:RW)(sm:smR x):vtouch Om (.call (.k (F_ 12)) [.k (kA x.row),.k (kI m),.k (.v (.c (.p (slP 1 sRow ns))))]) h d kt=kt (kA (f x).row) h noTouch :=
 qKo 12 [kA x.row,kI m,.v (.c (.p (slP 1 sRow ns)))] _ (by simp only[exP]) (ok x sm) (by simp only[exP])
theorem u12{β:Type}{k:KO β}{h:Heap}{d:Nat}{ns:Sl (LB)}{m:Int}{f:RW->TT}(ok:TreeOK ns m f)(x:RW)(sm:smR x):vcall Om (F_ 12) [kA x.row,kI m,.v (.c (.p (slP 1 sRow ns)))] h d k=k (kA (f x).row) h :=
 qAH 12 _ _ (by simp only[exP]) (ok x sm) (by simp only[exP])
theorem y28{β:Type}{kt:KT β}{h:Heap}{d:Nat}(v x:TT)(key:LB)(hv:evenT 1000 v):vtouch Om (.call (.k (F_ 28)) [.k (kA v.row),.k (kS key),.k (kA x.row)]) h d kt=kt (kA (putM v key x).row) h noTouch :=
 qKo 28 [kA v.row,kS key,kA x.row] _ (by simp only[exP]) (qIM v x key hv) (by simp only[exP])
theorem qXa(ns:Sl (LB))(d k:Int)(f:RW->TT)(ok:TreeOK ns (IntKind.i64.wrap (d - 1)) f)(r:RW)(sm:smR r)(i:Nat)(hi:i<=100)(nm:LB)(t:TT)(ev:evenT 1000 t)(h:Heap)(H:TreeH r t h) :
  ∃ h',TreeH r (putM t nm (f (kidM r i))) h'/\lim tab.get S 12 0 5 [kI d,.v (.c (.p (slP 1 sRow ns))),t3,t6,kI k,t8,kI (i:Int),kS nm] h=lim tab.get S 12 0 4 [kI d,.v (.c (.p (slP 1 sRow ns))),t3,t6,kI k,t8,kI ((i+1:Nat):Int)] h':=by
 refine⟨_,H.put _,?_⟩;rw[w12_5,b12_5];simp (maxSteps:=9^7) +contextual only[exa,rA,rB,rC,rD,rE,rF,rG,rH,rI,exR,exY,H.a3,H.a8,y27 r i sm,y12 ok _ (qVA sm i),y28 _ _ _ ev,qAv,qXf _ _ (TT.row_len t) (TT.row_len _),qBq i (by omega)]
theorem qXb(ns:Sl (LB))(d k:Int)(hk:k=7\/k=8)(f:RW->TT)(ok:TreeOK ns (IntKind.i64.wrap (d - 1)) f)(r:RW)(sm:smR r) :
  ∀ (c i:Nat),i+c=cntM r k->∀ (t:TT) (h:Heap),evenT (i+1) t->TreeH r t h->lim tab.get S 12 0 4 [kI d,.v (.c (.p (slP 1 sRow ns))),t3,t6,kI k,t8,kI (i:Int)] h=some (kA (recM r f c i t).row,[]):=by
 obtain⟨_,s2,_⟩:=(qUp r).1 sm;have hc4:cntM r k<=4:=by unfold cntM; split <;> (try split) <;> omega
 intro c
 induction c with
 |zero =>
  intro i hi t h ev H;rw[w12_4,b12_4];have q:¬ (((i:Int)<(r.names.len:Int)/\(i:Int)<4)\/((i:Int)=0/\k=8)):=by
   unfold cntM at hi;split at hi
   ·split at hi <;> omega
   ·omega
  by_cases h1:(i:Int)<(r.names.len:Int)
  ·have h2:¬ (i:Int)<4:=by omega
   have h3:¬ (i:Int)=0:=by omega
   simp (maxSteps:=9^7) +contextual only[exa,rA,rB,rC,rD,rE,rF,rG,rH,rI,exR,H.a3,h1,h2,h3];exact qUh r t h H
  ·by_cases h3:(i:Int)=0
   ·have h4:¬ k=8:=by omega
    have h1':¬ (0:Int)<(r.names.len:Int):=by rw[<- h3]; exact h1
    simp (maxSteps:=9^7) +contextual only[exa,rA,rB,rC,rD,rE,rF,rG,rH,rI,exR,H.a3,h1',h3,h4];exact qUh r t h H
   ·simp (maxSteps:=9^7) +contextual only[exa,rA,rB,rC,rD,rE,rF,rG,rH,rI,exR,H.a3,h1,h3];exact qUh r t h H
 |succ c ih =>
  intro i hi t h ev H;rw[w12_4,b12_4];have ev':evenT 1000 t:=⟨ev.1,by have:=ev.2; omega⟩;by_cases h1:(i:Int)<(r.names.len:Int)
  ·have h2:(i:Int)<4:=by omega
   obtain⟨n,hn,_,_⟩:=qBN (l:=r.names.list) (i:=i) (by show i<r.names.len; omega);have hnm:nmM r i=nameM n:=by unfold nmM; rw[hn]
   obtain⟨h',H',e'⟩:=qXa ns d k f ok r sm i (by omega) (nameM n) t ev' h H;simp (maxSteps:=9^7) +contextual only[exa,rA,rB,rC,rD,rE,rF,rG,rH,rI,exR,H.a3,h1,h2,hn,u21];rw[e',recM,hnm];exact ih (i+1) (by omega) _ h' (qVd _ _ _ _ ev) H'
  ·have h3:i=0:=by
    unfold cntM at hi;split at hi
    ·split at hi <;> omega
    ·omega
   subst h3;have h4:k=8:=by
    unfold cntM at hi;split at hi
    ·split at hi
     ·assumption
     ·omega
    ·omega
   subst h4;have hnm:nmM r 0=[117]:=by
    unfold nmM;rw[List.getElem?_eq_none (by show r.names.len<=0; omega)]
   obtain⟨h',H',e'⟩:=qXa ns d 8 f ok r sm 0 (by omega) [117] t ev' h H;have h1':¬ (0:Int)<(r.names.len:Int):=h1;have i0:((0:Nat):Int)=0:=rfl;rw[i0] at e' ⊢;simp (maxSteps:=9^7) +contextual only[exa,rA,rB,rC,rD,rE,rF,rG,rH,rI,exR,H.a3,h1'];rw[e',recM,hnm];exact ih 1 (by omega) _ h' (qVd _ _ _ _ ev) H'
theorem qUy(a:Int):1<=1+withinM a 9/\1+withinM a 9<=9:=by
 have:=qCy a 9 (by decide); omega
theorem qU6(ns:Sl (LB))(hns:ns.len<=1000)(d k:Int)(f:RW->TT)(r:RW)(sm:smR r)(hk:1<=k/\k<=9)(h9:k=9->0<ns.len)(ok:4<=k->k<=8->TreeOK ns (IntKind.i64.wrap (d - 1)) f)(h:Heap)(a3:h.get (.own 3 1)=some (.cells (pcells r.row) 0))(a6:h.get (.own 6 1)=some (.cells z4 0))(g8:h.gen 8=0) :
  lim tab.get S 12 0 1 [kI d,.v (.c (.p (slP 1 sRow ns))),t3,t6,kI k] h=some (kA (treeK ns.list k r f).row,[]):=by
 have H:TreeH r (.mk k [] .nil .nil) ((h.own 8 1 (.cells z4 0)).own 8 1 (.cells (pcells (TT.mk k [] .nil .nil).row) 0)) :=
  ⟨(Heap.own_get_ne _ 8 1 _ 3 1 (by decide)).trans ((Heap.own_get_ne _ 8 1 _ 3 1 (by decide)).trans a3),(Heap.own_get_ne _ 8 1 _ 6 1 (by decide)).trans ((Heap.own_get_ne _ 8 1 _ 6 1 (by decide)).trans a6),qJI _ 8 1 _ 0 (by decide)⟩
 have PZ:∀ a b c d:Cell,put1 z4 0 [a,b,c,d]=[a,b,c,d]:=λ_ _ _ _=>rfl
 rw[w12_1,b12_1];unfold treeK;by_cases k9:k=9
 ·rw[if_pos k9];have hn:=h9 k9;have hw:=qCy r.n (ns.len:Int) (by omega);have w0:decide (0<=withinM r.n (ns.len:Int))=true:=decide_eq_true hw.1;obtain⟨s,hs,_,_⟩:=qBN (l:=ns.list) (i:=(withinM r.n (ns.len:Int)).toNat) (by show _<ns.len; omega);have hd:ns.list.getD (withinM r.n (ns.list.length:Int)).toNat []=s:=by
   rw[List.getD_eq_getElem?_getD];show(ns.list[(withinM r.n (ns.len:Int)).toNat]?).getD []=s;rw[hs]; rfl
  rw[hd];subst k9;simp (maxSteps:=9^7) +contextual only[exa,rA,rB,rC,rD,rE,rF,rG,rH,rI,exR,a3,g8,PZ,u19 r.n (ns.len:Int) (by omega) (by omega),hs,w0];exact qUh r (.mk 9 s .nil .nil) _ (H.put (.mk 9 s .nil .nil))
 rw[if_neg k9];have one:∀ (c:Int) (hc:k=c),(c=4\/c=5\/c=6)->lim tab.get S 12 0 2 [kI d,.v (.c (.p (slP 1 sRow ns))),t3,t6,kI k,t8,kI k,kB true] ((h.own 8 1 (.cells z4 0)).own 8 1 (.cells (pcells (TT.mk k [] .nil .nil).row) 0))=some (kA (if k=6/\(f (kidM r 0)).kind=6 then f (kidM r 0) else .mk k [] .nil (.mk true [f (kidM r 0)])).row,[]):=by
  intro c hc h456;have ok':=ok (by omega) (by omega);have i0:((0:Nat):Int)=0:=rfl;have k27:CAL 27 [kA r.row,kI 0] (kA (kidM r 0).row):=u27 r 0 sm;have B:∀ {β:Type}{O:Oracle}{h:Heap}{d:Nat}{k:KO β}(y:TT),vop O (.bslice 4 1 z4 [(0,.k (.v (.agg (pcells y.row))))] false) h d k=k (kSl 4 true [y.row]) h:=λ{β O h d k} y=>qLO 4 z4 _ rfl (TT.row_len y)
  have P3:∀ x:PVal,put1 (pcells (TT.mk k [] .nil .nil).row) 3 [.p x]=[.p (.int .i64 k),.p (.str []),.p .nilslice,.p x]:=λ_=>rfl
  have z0:∀ y:TT,([y.row]:List (List PVal))[(0:Int).toNat]?=some y.row:=λ_=>rfl
  rw[w12_2,b12_2];by_cases k6:k=6
  ·by_cases kk:(f (kidM r 0)).kind=6
   ·rw[if_pos ⟨k6,kk⟩];subst k6;simp (maxSteps:=9^7) +contextual only[exa,rA,rB,rC,rD,rE,rF,rG,rH,rI,exR,H.a3,H.a6,H.a8,k27,u12 ok' _ (qVA sm 0),B,P3,z0,kk,Int.toNat_zero,qR2 _ (TT.row_len _),TT.row_len,oneOf]
   ·rw[if_neg (λe=>kk e.2)];subst k6;simp (maxSteps:=9^7) +contextual only[exa,rA,rB,rC,rD,rE,rF,rG,rH,rI,exR,H.a3,H.a6,H.a8,k27,u12 ok' _ (qVA sm 0),B,P3,z0,kk,Int.toNat_zero];exact qUh r (.mk 6 [] .nil (.mk true [f (kidM r 0)])) _ (H.put (.mk 6 [] .nil (.mk true [f (kidM r 0)])))
  ·rw[if_neg (λe=>k6 e.1)];simp (maxSteps:=9^7) +contextual only[exa,rA,rB,rC,rD,rE,rF,rG,rH,rI,exR,H.a3,H.a6,H.a8,k27,u12 ok' _ (qVA sm 0),B,P3,z0,k6,Int.toNat_zero];exact qUh r (.mk k [] .nil (.mk true [f (kidM r 0)])) _ (H.put (.mk k [] .nil (.mk true [f (kidM r 0)])))
 by_cases k4:k=4
 ·rw[if_pos (.inl k4)];have:=one 4 k4 (by omega);subst k4;simp (maxSteps:=9^7) +contextual only[exa,rA,rB,rC,rD,rE,rF,rG,rH,rI,exR,a3,g8,PZ];exact this
 by_cases k5:k=5
 ·rw[if_pos (.inr (.inl k5))];have:=one 5 k5 (by omega);subst k5;simp (maxSteps:=9^7) +contextual only[exa,rA,rB,rC,rD,rE,rF,rG,rH,rI,exR,a3,g8,PZ];exact this
 by_cases k6:k=6
 ·rw[if_pos (.inr (.inr k6))];have:=one 6 k6 (by omega);subst k6;generalize (if (6:Int)=6/\(f (kidM r 0)).kind=6 then f (kidM r 0) else TT.mk 6 [] .nil (.mk true [f (kidM r 0)]))=q at this ⊢;simp (maxSteps:=9^7) +contextual only[exa,rA,rB,rC,rD,rE,rF,rG,rH,rI,exR,a3,g8,PZ];exact this
 rw[if_neg (by omega)];simp (maxSteps:=9^7) +contextual only[exa,rA,rB,rC,rD,rE,rF,rG,rH,rI,exR,a3,g8,PZ,k9,k4,k5,k6];rw[w12_2,b12_2];by_cases k7:k=7
 ·rw[if_pos (.inl k7)];have:=qXb ns d k (.inl k7) f (ok (by omega) (by omega)) r sm (cntM r k) 0 (by omega) (.mk k [] .nil .nil) _ ⟨rfl,by show 0<=_; omega⟩ H;subst k7;simp (maxSteps:=9^7) +contextual only[exa,rA,rB,rC,rD,rE,rF,rG,rH,rI,exR,a3];rw[w12_3,b12_3];simp (maxSteps:=9^7) +contextual only[exa,rA,rB,rC,rD,rE,rF,rG,rH,rI,exR,a3];exact this
 by_cases k8:k=8
 ·rw[if_pos (.inr k8)];have:=qXb ns d k (.inr k8) f (ok (by omega) (by omega)) r sm (cntM r k) 0 (by omega) (.mk k [] .nil .nil) _ ⟨rfl,by show 0<=_; omega⟩ H;subst k8;simp (maxSteps:=9^7) +contextual only[exa,rA,rB,rC,rD,rE,rF,rG,rH,rI,exR,a3];rw[w12_3,b12_3];simp (maxSteps:=9^7) +contextual only[exa,rA,rB,rC,rD,rE,rF,rG,rH,rI,exR,a3];exact this
 rw[if_neg (by omega)];simp (maxSteps:=9^7) +contextual only[exa,rA,rB,rC,rD,rE,rF,rG,rH,rI,exR,a3,k7,k8];rw[w12_3,b12_3];simp (maxSteps:=9^7) +contextual only[exa,rA,rB,rC,rD,rE,rF,rG,rH,rI,exR,a3];exact qUh r (.mk k [] .nil .nil) _ H
theorem qXc(ns:Sl (LB))(hns:ns.len<=1000)(hn:0<ns.len)(d:Int)(f:RW->TT)(r:RW)(sm:smR r)(ok:1<d->TreeOK ns (IntKind.i64.wrap (d - 1)) f):Om 12 [kA r.row,kI d,.v (.c (.p (slP 1 sRow ns)))] []=some (kA (treeK ns.list (kindT r d) r f).row,[]):=by
 refine(qAD rfl).trans ?_;show lim tab.get S 12 0 0 [kA r.row,kI d,.v (.c (.p (slP 1 sRow ns)))] h0=_;rw[w12_0,b12_0];have hb:=qUy r.kind;have w:IntKind.i64.wrap (1+withinM r.kind 9)=1+withinM r.kind 9:=qAL _ (by omega) (by omega);have n0:¬ ((ns.len:Nat):Int)=0:=by omega
 unfold kindT;by_cases h9:1+withinM r.kind 9=9
 ·rw[if_neg (by omega)];have q8:¬ ((9:Int)<=8):=by decide
  by_cases hd:1<d
  ·have hd':¬ d<1+1:=by omega
   simp (maxSteps:=9^7) +contextual only[exa,rA,rB,rC,rD,rE,rF,rG,rH,rI,exR,u19 r.kind 9 (by decide) (by decide),w,h9,n0,hd];exact qU6 ns hns d 9 f r sm (by omega) (λ_=>hn) (λ_ h=>absurd h (by decide)) _ rfl rfl rfl
  ·simp (maxSteps:=9^7) +contextual only[exa,rA,rB,rC,rD,rE,rF,rG,rH,rI,exR,u19 r.kind 9 (by decide) (by decide),w,h9,n0,hd];exact qU6 ns hns d 9 f r sm (by omega) (λ_=>hn) (λ_ h=>absurd h (by decide)) _ rfl rfl rfl
 ·by_cases hd:1<d
  ·rw[if_neg (by omega)];simp (maxSteps:=9^7) +contextual only[exa,rA,rB,rC,rD,rE,rF,rG,rH,rI,exR,u19 r.kind 9 (by decide) (by decide),w,h9,n0,hd];exact qU6 ns hns d _ f r sm hb (λe=>absurd e h9) (λ_ _=>ok hd) _ rfl rfl rfl
  ·by_cases h4:1+withinM r.kind 9<4
   ·rw[if_neg (by omega)];simp (maxSteps:=9^7) +contextual only[exa,rA,rB,rC,rD,rE,rF,rG,rH,rI,exR,u19 r.kind 9 (by decide) (by decide),w,h9,n0,hd,h4];exact qU6 ns hns d _ f r sm hb (λe=>absurd e h9) (λh=>absurd h (by omega)) _ rfl rfl rfl
   ·have h8:¬ (8:Int)<1+withinM r.kind 9:=by omega
    rw[if_pos (by omega)];simp (maxSteps:=9^7) +contextual only[exa,rA,rB,rC,rD,rE,rF,rG,rH,rI,exR,u19 r.kind 9 (by decide) (by decide),w,h9,n0,hd,h4,h8];exact qU6 ns hns d 2 f r sm (by omega) (λe=>absurd e (by decide)) (λh=>absurd h (by decide)) _ rfl rfl rfl
theorem qWG(ns:Sl (LB))(hns:ns.len<=1000)(hn:0<ns.len):∀ (d:Nat),d<=1000->TreeOK ns (d:Int) (treeM ns.list d)
 |0,_=>λr sm=>qXc ns hns hn 0 _ r sm (λh=>absurd h (by decide))
 |d+1,hd=>λr sm=>by
  have e:(((d+1:Nat):Int))=(d:Int)+1:=by omega
  rw[e];refine qXc ns hns hn ((d:Int)+1) (treeM ns.list d) r sm (λ_=>?_);rw[show(d:Int)+1 - 1=(d:Int) by omega,qAL _ (by omega) (by omega)];exact qWG ns hns hn d (by omega)
open Go Go.AI
mutual
def smT:TT->Prop
 |.mk k n ns l=>ns.len<=1000/\l.len<=1000/\smTS l
def smTS:Sl TT->Prop
 |.nil=>True
 |.mk _ l=>smTL l
def smTL:List TT->Prop
 |[]=>True
 |r::rs=>smT r/\smTL rs
end
theorem qKp:∀ l:List TT,smTL l↔∀ x∈l,smT x
 |[]=>by simp[smTL]
 |r::l=>by simp[smTL,qKp l]
theorem qGM(t:TT):smT t↔t.names.len<=1000/\t.kids.len<=1000/\∀ x∈t.kids.list,smT x:=by
 cases t with
 |mk k n ns l =>
  rw[smT,<- qKp];cases l <;> simp[smTS,smTL,Sl.list,TT.kids,TT.names]
mutual
def sameT:TT->TT->Bool
 |.mk k n ns l,b=>((decide (k=b.kind)&&decide (n=b.name))&&decide (ns.list=b.names.list))&&sameS l b.kids.list
def sameS:Sl TT->List TT->Bool
 |.nil,m=>m.isEmpty
 |.mk _ l,m=>sameL l m
def sameL:List TT->List TT->Bool
 |[],[]=>true
 |a::l,b::m=>sameT a b&&sameL l m
 |_,_=>false
end
theorem qQL(l:Sl TT)(m:List TT):sameS l m=sameL l.list m:=by
 cases l with
 |nil=>cases m <;> simp[sameS,sameL,Sl.list]
 |mk t l=>simp[sameS,Sl.list]
theorem qIk(a b:TT):sameT a b=(((decide (a.kind=b.kind)&&decide (a.name=b.name))&&decide (a.names.list=b.names.list))&&sameL a.kids.list b.kids.list):=by
 cases a with
 |mk k n ns l=>rw[sameT,qQL]; rfl
theorem qEs:∀ (l m:List TT),l.length≠m.length->sameL l m=false
 |[],[],h=>absurd rfl h
 |[],_::_,_=>by simp[sameL]
 |_::_,[],_=>by simp[sameL]
 |a::l,b::m,h=>by
  rw[sameL,qEs l m (λe=>h (by simp[e])),Bool.and_false]
abbrev ssP(s:Sl (LB)):TVal:=.v (.c (.p (slP 1 sRow s)))
abbrev tsP(s:Sl TT):TVal:=.v (.c (.p (slP 4 TT.row s)))
theorem qWa(a b:Sl (LB))(hab:a.len=b.len)(hl:a.len<=1000)(h:Heap):∀ i:Nat,lim tab.get S 29 0 1 [ssP a,ssP b,kI (a.len:Int),kI (i:Int)] h=some (kB (decide (a.list.drop i=b.list.drop i)),[]):=by
 refine qE7 a.len (λi hi=>?_) (λi hi ihl=>?_) <;> rw[w29_1,b29_1]
 ·have h1:¬ (i:Int)<(a.len:Int):=by omega
  have e1:a.list.drop i=[]:=qB8 hi;have e2:b.list.drop i=[]:=qB8 (by show b.len<=i; omega);rw[e1,e2];simp (maxSteps:=9^7) +contextual only[exa,rA,rB,rC,rD,rE,rF,rG,rH,rI,h1,oneOf]
 ·have h1:(i:Int)<(a.len:Int):=by omega
  obtain⟨x,hx,dx,_⟩:=qBN (l:=a.list) (i:=i) hi;obtain⟨y,hy,dy,_⟩:=qBN (l:=b.list) (i:=i) (by show i<b.len; omega);rw[dx,dy];by_cases hxy:x=y
  ·have e:decide (x::a.list.drop (i+1)=y::b.list.drop (i+1))=decide (a.list.drop (i+1)=b.list.drop (i+1)):=by rw[hxy]; simp
   rw[e];simp (maxSteps:=9^7) +contextual only[exa,rA,rB,rC,rD,rE,rF,rG,rH,rI,h1,hx,hy,hxy,qBq i (by omega),ihl]
  ·have e:decide (x::a.list.drop (i+1)=y::b.list.drop (i+1))=false:=decide_eq_false (λe=>hxy (List.cons.inj e).1);rw[e];simp (maxSteps:=9^7) +contextual only[exa,rA,rB,rC,rD,rE,rF,rG,rH,rI,h1,hx,hy,hxy,oneOf]
theorem eq29(a b:Sl (LB))(ha:a.len<=1000)(hb:b.len<=1000):Om 29 [ssP a,ssP b] []=some (kB (decide (a.list=b.list)),[]):=by
 refine(qAD rfl).trans ?_;show lim tab.get S 29 0 0 [ssP a,ssP b] h0=_;rw[w29_0,b29_0];by_cases hab:a.len=b.len
 ·have h1:((a.len:Nat):Int)=(b.len:Int):=by omega
  simp (maxSteps:=9^7) +contextual only[exa,rA,rB,rC,rD,rE,rF,rG,rH,rI,h1];have:=qWa a b hab ha h0 0;rw[List.drop_zero,List.drop_zero,h1] at this;exact this
 ·have h1:¬ ((a.len:Nat):Int)=(b.len:Int):=by omega
  have e:decide (a.list=b.list)=false:=decide_eq_false (λe=>hab (by unfold Sl.len; rw[e]));rw[e];simp (maxSteps:=9^7) +contextual only[exa,rA,rB,rC,rD,rE,rF,rG,rH,rI,h1,oneOf]
theorem u29{β:Type}{k:KO β}{h:Heap}{d:Nat}(a b:Sl (LB))(ha:a.len<=1000)(hb:b.len<=1000):vcall Om (F_ 29) [ssP a,ssP b] h d k=k (kB (decide (a.list=b.list))) h:=qAH 29 _ _ rfl (eq29 a b ha hb) rfl
def SameOK(a b:TT):Prop:=Om 13 [kA a.row,kA b.row] []=some (kB (sameT a b),[])
abbrev f13:TVal:=.v (.c (.func 13 []))
theorem qWq(a b:Sl TT)(hab:a.len=b.len)(hl:a.len<=1000)(ok:∀ x∈a.list,∀ y∈b.list,SameOK x y):∀ (i:Nat) (h:Heap),lim tab.get S 30 0 1 [tsP b,f13,tsP a,kI (a.len:Int),kI (i:Int)] h=some (kB (sameL (a.list.drop i) (b.list.drop i)),[]):=by
 refine qE7 a.len (λi hi h=>?_) (λi hi ihl h=>?_) <;> rw[w30_1,b30_1]
 ·have h1:¬ (i:Int)<(a.len:Int):=by omega
  have e1:a.list.drop i=[]:=qB8 hi;have e2:b.list.drop i=[]:=qB8 (by show b.len<=i; omega);rw[e1,e2];simp (maxSteps:=9^7) +contextual only[exa,rA,rB,rC,rD,rE,rF,rG,rH,rI,h1,oneOf,sameL]
 ·have h1:(i:Int)<(a.len:Int):=by omega
  obtain⟨x,hx,dx,mx⟩:=qBN (l:=a.list) (i:=i) hi;obtain⟨y,hy,dy,my⟩:=qBN (l:=b.list) (i:=i) (by show i<b.len; omega);rw[dx,dy,sameL];have cc:CAL 13 [kA x.row,kA y.row] (kB (sameT x y)):=qAH 13 _ _ (by simp only[exP]) (ok x mx y my) rfl;cases hs:sameT x y
  ·simp (maxSteps:=9^7) +contextual only[exa,rA,rB,rC,rD,rE,rF,rG,rH,rI,exR,h1,hx,hy,cc,hs,qR2 _ (TT.row_len _),oneOf]
  ·simp (maxSteps:=9^7) +contextual only[exa,rA,rB,rC,rD,rE,rF,rG,rH,rI,exR,h1,hx,hy,cc,hs,qR2 _ (TT.row_len _),qBq i (by omega),ihl]
theorem eq30(a b:Sl TT)(ha:a.len<=1000)(hb:b.len<=1000)(ok:∀ x∈a.list,∀ y∈b.list,SameOK x y):Om 30 [tsP a,tsP b,f13] []=some (kB (sameL a.list b.list),[]):=by
 refine(qAD rfl).trans ?_;show lim tab.get S 30 0 0 [tsP a,tsP b,f13] h0=_;rw[w30_0,b30_0];by_cases hab:a.len=b.len
 ·have h1:((a.len:Nat):Int)=(b.len:Int):=by omega
  simp (maxSteps:=9^7) +contextual only[exa,rA,rB,rC,rD,rE,rF,rG,rH,rI,h1];have:=qWq a b hab ha ok 0 h0;rw[List.drop_zero,List.drop_zero,h1] at this;exact this
 ·have h1:¬ ((a.len:Nat):Int)=(b.len:Int):=by omega
  rw[qEs _ _ (λe=>hab e)];simp (maxSteps:=9^7) +contextual only[exa,rA,rB,rC,rD,rE,rF,rG,rH,rI,h1,oneOf]
theorem qXm:∀ (n:Nat) (a b:TT),SizeOf.sizeOf a<n->smT a->smT b->SameOK a b:=by
 intro n
 induction n with
 |zero=>intro a b h; omega
 |succ n ih =>
  intro a b hs sa sb;obtain⟨a1,a2,a3⟩:=(qGM a).1 sa;obtain⟨b1,b2,b3⟩:=(qGM b).1 sb;have ok:∀ x∈a.kids.list,∀ y∈b.kids.list,SameOK x y:=λx hx y hy=>ih x y (by have:=TT.mem_size hx; omega) (a3 x hx) (b3 y hy)
  have c30:CAL 30 [tsP a.kids,tsP b.kids,.v (.c (.func 13 []))] (kB (sameL a.kids.list b.kids.list)):=λ{β k h d} =>
   qXj 30 [tsP a.kids,tsP b.kids] [] 13 (kB (sameL a.kids.list b.kids.list)) rfl rfl rfl (eq30 a.kids b.kids a2 b2 ok)
  refine(qAD rfl).trans ?_;show lim tab.get S 13 0 0 [kA a.row,kA b.row] h0=_;rw[w13_0,b13_0,qIk];by_cases h1:a.kind=b.kind
  ·by_cases h2:a.name=b.name
   ·cases h3:decide (a.names.list=b.names.list)
    ·simp (maxSteps:=9^7) +contextual only[exa,rA,rB,rC,rD,rE,rF,rG,rH,rI,h1,h2,u29 _ _ a1 b1,h3,oneOf]
    ·simp (maxSteps:=9^7) +contextual only[exa,rA,rB,rC,rD,rE,rF,rG,rH,rI,h1,h2,u29 _ _ a1 b1,h3,c30,oneOf]
   ·simp (maxSteps:=9^7) +contextual only[exa,rA,rB,rC,rD,rE,rF,rG,rH,rI,h1,h2,oneOf]
  ·simp (maxSteps:=9^7) +contextual only[exa,rA,rB,rC,rD,rE,rF,rG,rH,rI,h1,oneOf]
open Go Go.AI
def sepC:LB:=[44,32]
def colC:LB:=[58,32]
def wordM(k:Int):LB:=if k=1 then [66,111,111,108] else if k=2 then [73,110,116] else if k=3 then [84,101,120,116] else if k=4 then [76,105,115,116] else if k=5 then [77,97,112] else if k=6 then [79,112,116] else if k=8 then [85,110,105,111,110] else []
mutual
def txtM:TT->LB
 |.mk k n ns l=>if k=9 then n else if k=7 then [123]++Lib.join (fldS ns.list l) sepC++[125] else if k=8 then [85,110,105,111,110,32]++([123]++Lib.join (fldS ns.list l) sepC++[125]) else wordM k++angS l
def fldS:List (LB)->Sl TT->List (LB)
 |_,.nil=>[]
 |ns,.mk _ l=>fldL ns l
def fldL:List (LB)->List TT->List (LB)
 |n::ns,t::l=>(n++colC++txtM t)::fldL ns l
 |_,_=>[]
def angS:Sl TT->LB
 |.nil=>[]
 |.mk _ l=>angL l
def angL:List TT->LB
 |[]=>[]
 |t::l=>[60]++txtM t++[62]++angL l
end
theorem qXu(ns:List (LB))(l:Sl TT):fldS ns l=fldL ns l.list:=by
 cases l with
 |nil=>cases ns <;> simp[fldS,fldL,Sl.list]
 |mk t l=>simp[fldS,Sl.list]
theorem qXi(l:Sl TT):angS l=angL l.list:=by cases l <;> simp[angS,angL,Sl.list]
def brM(t:TT):LB:=[123]++Lib.join (fldL t.names.list t.kids.list) sepC++[125]
theorem qUL(t:TT):txtM t=if t.kind=9 then t.name else if t.kind=7 then brM t else if t.kind=8 then [85,110,105,111,110,32]++brM t else wordM t.kind++angL t.kids.list:=by
 cases t with
 |mk k n ns l=>rw[txtM,qXu,qXi]; rfl
theorem qUi(l:List TT):fldL [] l=[]:=by cases l <;> simp[fldL]
theorem qVT(ns:List (LB)):fldL ns []=[]:=by cases ns <;> simp[fldL]
theorem qVN:∀ (r:List (LB)) (x:LB),x∈r->x.length<=(Lib.joinTail sepC r).length
 |y::r,x,h=>by
  have e:Lib.joinTail sepC (y::r)=(sepC++y)++Lib.joinTail sepC r:=by simp[Lib.joinTail]
  rw[e,List.length_append,List.length_append]
  rcases List.mem_cons.1 h with rfl|h
  ·omega
  ·have:=qVN r x h; omega
theorem qXH(l:List (LB))(x:LB)(h:x∈l):x.length<=(Lib.join l sepC).length:=by
 cases l with
 |nil=>cases h
 |cons y r =>
  rw[Lib.join_cons,List.length_append]
  rcases List.mem_cons.1 h with rfl|h
  ·omega
  ·have:=qVN r x h; omega
theorem qVf:∀ (ns:List (LB)) (l:List TT) (i:Nat) (n:LB) (t:TT),ns[i]?=some n->l[i]?=some t->(n++colC++txtM t)∈fldL ns l
 |a::ns,b::l,0,n,t,h1,h2=>by
  obtain rfl:a=n:=by simpa using h1
  obtain rfl:b=t:=by simpa using h2
  rw[fldL]; exact List.mem_cons_self
 |a::ns,b::l,i+1,n,t,h1,h2=>by
  rw[fldL];exact List.mem_cons_of_mem _ (qVf ns l i n t (by simpa using h1) (by simpa using h2))
 |[],_,i,n,t,h1,_=>by simp at h1
 |_::_,[],i,n,t,_,h2=>by simp at h2
theorem qVs:∀ (ns:List (LB)) (l:List TT),(fldL ns l).length<=l.length
 |[],l=>by rw[qUi]; exact Nat.zero_le _
 |_::_,[]=>by rw[qVT]; exact Nat.le_refl _
 |a::ns,b::l=>by rw[fldL,List.length_cons,List.length_cons]; have:=qVs ns l; omega
theorem qN0(k:Int)(hk:k≠7/\k≠9\/True):Om 32 [kI k] []=some (kS (wordM k),[]):=by
 refine(qAD rfl).trans ?_;show lim tab.get S 32 0 0 [kI k] h0=_;rw[w32_0,b32_0];unfold wordM;by_cases h1:k=1
 ·rw[if_pos h1]; simp (maxSteps:=9^7) +contextual only[exa,rA,rB,rC,rD,rE,rF,rG,rH,rI,h1,oneOf]
 rw[if_neg h1];by_cases h2:k=2
 ·rw[if_pos h2]; simp (maxSteps:=9^7) +contextual only[exa,rA,rB,rC,rD,rE,rF,rG,rH,rI,h2,oneOf]
 rw[if_neg h2];by_cases h3:k=3
 ·rw[if_pos h3]; simp (maxSteps:=9^7) +contextual only[exa,rA,rB,rC,rD,rE,rF,rG,rH,rI,h3,oneOf]
 rw[if_neg h3];by_cases h4:k=4
 ·rw[if_pos h4]; simp (maxSteps:=9^7) +contextual only[exa,rA,rB,rC,rD,rE,rF,rG,rH,rI,h4,oneOf]
 rw[if_neg h4];by_cases h5:k=5
 ·rw[if_pos h5]; simp (maxSteps:=9^7) +contextual only[exa,rA,rB,rC,rD,rE,rF,rG,rH,rI,h5,oneOf]
 rw[if_neg h5];by_cases h6:k=6
 ·rw[if_pos h6]; simp (maxSteps:=9^7) +contextual only[exa,rA,rB,rC,rD,rE,rF,rG,rH,rI,h6,oneOf]
 rw[if_neg h6];by_cases h8:k=8
 ·rw[if_pos h8]; simp (maxSteps:=9^7) +contextual only[exa,rA,rB,rC,rD,rE,rF,rG,rH,rI,h8,oneOf]
 rw[if_neg h8];simp (maxSteps:=9^7) +contextual only[exa,rA,rB,rC,rD,rE,rF,rG,rH,rI,h1,h2,h3,h4,h5,h6,h8,oneOf]
theorem u32{β:Type}{k:KO β}{h:Heap}{d:Nat}(a:Int):vcall Om (F_ 32) [kI a] h d k=k (kS (wordM a)) h:=qAH 32 _ _ rfl (qN0 a (.inr trivial)) rfl
theorem y32{β:Type}{kt:KT β}{h:Heap}{d:Nat}(a:Int):vtouch Om (.call (.k (F_ 32)) [.k (kI a)]) h d kt=kt (kS (wordM a)) h noTouch:=qKo 32 [kI a] _ rfl (qN0 a (.inr trivial)) rfl
theorem qUw:∀ xs:List (LB),strRows (xs.map sRow)=some xs
 |[]=>rfl
 |x::xs=>by
  show(bnd (strRow (sRow x)) λs=>bnd (strRows (xs.map sRow)) λt=>some (s::t))=_;rw[qUw xs]; rfl
theorem qYL(xs:List (LB))(sep:LB)(h1:(Lib.join xs sep).length<=140737488355328)(h2:xs.length<=140737488355328):Om 53 [.v (.c (.p (growP 1 (xs.map sRow)))),kS sep] []=some (kS (Lib.join xs sep),[]):=by
 have e:S 53 [.v (.c (.p (growP 1 (xs.map sRow)))),kS sep] []=some (kS (Lib.join xs sep),[]):=by
  show(match (none:Option (TVal×List AObj)) with|some r=>some r|none=>joinP (growP 1 (xs.map sRow)) sep)=_;cases xs with
  |nil=>rfl
  |cons x xs =>
   show bnd (strRows ((x::xs).map sRow)) (λys=>joinO ys sep)=_;rw[qUw];show(bif Nat.ble (lenF (Lib.join (x::xs) sep)) 140737488355328&&Nat.ble (lenF (x::xs)) 140737488355328 then _ else none)=_;rw[qAR,qAR,show Nat.ble (Lib.join (x::xs) sep).length 140737488355328=true from Nat.ble_eq_true_of_le h1,show Nat.ble (x::xs).length 140737488355328=true from Nat.ble_eq_true_of_le h2]; rfl
 show Option.rec (motive:=λ_=>Res1) _ some (S 53 _ [])=_;rw[e]
def TextOK(t:TT):Prop:=Om 14 [kA t.row] []=some (kS (txtM t),[])
abbrev q1:TVal:=.v (.c (.ptr (.own 1 1) 0))
theorem qXR(w:LB)(l:Sl TT)(hl:l.len<=1000)(ok:∀ x∈l.list,TextOK x):∀ (i:Nat) (acc:LB) (h:Heap),(acc++angL (l.list.drop i)).length<=1000000000->lim tab.get S 14 0 1 [kS acc,tsP l,kI (l.len:Int),kI (i:Int)] h=some (kS (acc++angL (l.list.drop i)),[]):=by
 refine qE7 l.len (λi hi acc h hs=>?_) (λi hi ihl acc h hs=>?_) <;> rw[w14_1,b14_1]
 ·have h1:¬ (i:Int)<(l.len:Int):=by omega
  have e1:l.list.drop i=[]:=qB8 hi;rw[e1];simp (maxSteps:=9^7) +contextual only[exa,rA,rB,rC,rD,rE,rF,rG,rH,rI,h1,oneOf,angL,List.append_nil]
 ·have h1:(i:Int)<(l.len:Int):=by omega
  obtain⟨x,hx,dx,mx⟩:=qBN (l:=l.list) (i:=i) hi;rw[dx,angL] at hs ⊢;have cc:CAL 14 [kA x.row] (kS (txtM x)):=qAH 14 _ _ (by simp only[exP]) (ok x mx) rfl;have hs':=hs;simp only[List.length_append,List.length_cons,List.length_nil] at hs';have s1:([60]:LB).length+(txtM x).length<=4611686018427387904:=by simp; omega
  have s2:([60]++txtM x).length+([62]:LB).length<=4611686018427387904:=by simp; omega
  have s3:acc.length+([60]++txtM x++[62]).length<=4611686018427387904:=by simp; omega
  have D1:decide (([60]:LB).length+(txtM x).length<=4611686018427387904)=true:=decide_eq_true s1;have D2:decide (([60]++txtM x).length+([62]:LB).length<=4611686018427387904)=true:=decide_eq_true s2;have D3:decide (acc.length+([60]++txtM x++[62]).length<=4611686018427387904)=true:=decide_eq_true s3;have A1:∀ {β:Type}{h:Heap}{k:KO β},vbin .add 0 (kS [60]) (kS (txtM x)) h k=k (kS ([60]++txtM x)) h:=λ{β h k}=>qUJ 0 _ _ s1
  have A2:∀ {β:Type}{h:Heap}{k:KO β},vbin .add 0 (kS ([60]++txtM x)) (kS [62]) h k=k (kS ([60]++txtM x++[62])) h:=λ{β h k}=>qUJ 0 _ _ s2
  have A3:∀ {β:Type}{h:Heap}{k:KO β},vbin .add 0 (kS acc) (kS ([60]++txtM x++[62])) h k=k (kS (acc++([60]++txtM x++[62]))) h:=λ{β h k}=>qUJ 0 _ _ s3
  have:=ihl (acc++([60]++txtM x++[62])) ((h.own 5 (h.gen 5+1) (.cells z4 0)).own 5 (h.gen 5+1) (.cells (pcells x.row) 0)) (by simp only[List.append_assoc] at hs ⊢; exact hs);simp only[List.append_assoc] at this;simp (maxSteps:=9^7) +contextual only[h1,hx,cc,A1,A2,A3,qBq i (by omega),qR2 _ (TT.row_len _),exa,rA,rB,rC,rD,rE,rF,rG,rH,rI];simp only[List.append_assoc];exact this
structure RS where
 p:Nat
 e:Int
 tw:Bool
def tksP(L:List Tok):PVal:=growP 4 (L.map Tok.row)
abbrev rO(L:List Tok)(s:RS):AObj:=.cells [.p (tksP L),.p (.int .i64 (s.p:Int)),.p (.int .i64 s.e),.p (.bool s.tw)] 0
abbrev P0:TVal:=.v (.c (.ptr (.im 0) 0))
theorem qAC(L:List Tok)(s:RS):plainO (rO L s):=qAB [tksP L,.int .i64 (s.p:Int),.int .i64 s.e,.bool s.tw] 0
theorem qBT{β:Type}{O:Oracle}{h:Heap}{d:Nat}{k:KO β}(L:List Tok):vlen O 2 (.v (.c (.p (tksP L)))) h d k=k (kI (L.length:Int)) h:=by
 cases L with
 |nil=>rfl
 |cons t L =>
  show vlen O 2 (.v (.c (.p (.slice 4 false ((t::L).map Tok.row))))) h d k=_;simp (maxSteps:=9^7) +contextual only[exa,rA,rB,rC,rD,rE,rF,rG,rH,rI,List.length_map]
theorem qSa{β:Type}{h:Heap}{k:KO β}(L:List Tok)(i:Nat)(t:Tok)(ht:L[i]?=some t):viaddr 4 (.v (.c (.p (tksP L)))) (kI (i:Int)) h k=k (.v (.c (.p (.pptr t.row 0)))) h:=by
 cases L with
 |nil=>cases ht
 |cons a L =>
  have:((a::L).map Tok.row)[i]?=some t.row:=by rw[List.getElem?_map,ht]; rfl
  show viaddr 4 (.v (.c (.p (.slice 4 false ((a::L).map Tok.row))))) (kI (i:Int)) h k=_;simp (maxSteps:=9^7) +contextual only[exa,rA,rB,rC,rD,rE,rF,rG,rH,rI,this,Int.toNat_natCast]
def peekM(L:List Tok)(s:RS):Tok:=if s.e=0 then (L[s.p]?).getD Tok.zero else Tok.zero
abbrev zT:List Cell:=[.p (.int .i64 0),.p (.str []),.p (.int .i64 0),.p (.int .i64 0)]
theorem qSb(L:List Tok)(s:RS):Om 55 [P0] [rO L s]=some (.v (.agg (peekM L s).cells),[rO L s]):=by
 refine(qAD rfl).trans ?_;show lim tab.get S 55 1 0 [P0] { ims:=[rO L s],owns:=.nil }=_;have g0:∀ x:AObj,((Heap.mk [rO L s] .nil).own 2 1 x).get (.im 0)=some (rO L s):=λ_=>rfl
 have gn:(Heap.mk [rO L s] .nil).gen 2=0:=rfl;have fin:∀ (t:Tok) (x y:AObj),vfin true 1 [.agg t.cells] (((Heap.mk [rO L s] .nil).own 2 1 x).own 2 1 y)=some (.v (.agg t.cells),[rO L s]):=λt x y=>qAP true [.agg t.cells] _ rfl rfl (qAC L s)
 have PT:∀ t:Tok,put1 zT 0 t.cells=t.cells:=λ_=>rfl
 have tl:∀ t:Tok,t.cells.length=4:=λ_=>rfl
 have tt:∀ t:Tok,t.cells.take 4=t.cells:=λ_=>rfl
 have BZ:∀ (β:Type) (k:KO β) (h:Heap),vop Om (.build zT []) h 20 k=k (.v (.agg Tok.zero.cells)) h:=λ_ _ _=>rfl
 rw[w55_0,b55_0];unfold peekM;by_cases he:s.e=0
 ·rw[if_pos he];by_cases hp:s.p<L.length
  ·have ht:L[s.p]?=some L[s.p]:=List.getElem?_eq_getElem hp;have AT:=λ(β:Type) (k:KO β) (h:Heap)=>qSa (h:=h) (k:=k) L s.p L[s.p] ht
   have q1:(s.p:Int)<(L.length:Int):=by omega
   have LD:∀ (β:Type) (k:KO β) (h:Heap),vload true 4 (.v (.c (.p (.pptr L[s.p].row 0)))) h k=k (.v (.agg L[s.p].cells)) h:=λ_ _ _=>rfl
   rw[ht,Option.getD_some];generalize L[s.p]=t at *;simp (maxSteps:=9^7) +contextual only[exa,rA,rB,rC,rD,rE,rF,rG,rH,rI,exW,gn,g0,he,q1,qBT,AT,LD,PT,tl,tt];exact fin t _ _
  ·have ht:L[s.p]?=none:=List.getElem?_eq_none (by omega);have q1:¬ (s.p:Int)<(L.length:Int):=by omega
   rw[ht,Option.getD_none];simp (maxSteps:=9^7) +contextual only[exa,rA,rB,rC,rD,rE,rF,rG,rH,rI,exW,gn,g0,he,q1,qBT,PT,tl,tt,BZ];exact fin _ _ _
 ·rw[if_neg he];simp (maxSteps:=9^7) +contextual only[exa,rA,rB,rC,rD,rE,rF,rG,rH,rI,exW,gn,g0,he,qBT,PT,tl,tt,BZ];exact fin _ _ _
theorem u55{β:Type}{k:KO β}{h:Heap}{d:Nat}{L:List Tok}{s:RS}(hg:h.get (.im 0)=some (rO L s)):vcall Om (F_ 55) [P0] h d k=k (.v (.agg (peekM L s).cells)) h :=
 (qAU 55 (.im 0) 0 [] [] _ _ _ rfl rfl hg (qAC L s) (qAC L s) rfl (qSb L s)).trans (by show k _ (h.put (.im 0) (rO L s))=k _ h; rw[qM7 0 _ hg])
def failM(s:RS)(e:Int):RS:=if s.e=0 then { s with e:=e } else s
theorem qTA(L:List Tok)(s:RS)(e:Int):Om 56 [P0,kI e] [rO L s]=some (.tup [],[rO L (failM s e)]):=by
 refine(qAD rfl).trans ?_;show lim tab.get S 56 1 0 [P0,kI e] { ims:=[rO L s],owns:=.nil }=_;have g0:(Heap.mk [rO L s] .nil).get (.im 0)=some (rO L s):=rfl;have P:∀ (a b c d x:Cell),put1 [a,b,c,d] 2 [x]=[a,b,x,d]:=λ_ _ _ _ _=>rfl
 rw[w56_0,b56_0];unfold failM;by_cases he:s.e=0
 ·rw[if_pos he];have fin:vfin true 1 [] ((Heap.mk [rO L s] .nil).put (.im 0) (rO L { s with e:=e }))=some (.tup [],[rO L { s with e:=e }]):=qAP true [] _ rfl rfl (qAC L _);simp (maxSteps:=9^7) +contextual only[exa,rA,rB,rC,rD,rE,rF,rG,rH,rI,exW,g0,he,P]
 ·rw[if_neg he];have fin:vfin true 1 [] (Heap.mk [rO L s] .nil)=some (.tup [],[rO L s]):=qAP true [] _ rfl rfl (qAC L _);simp (maxSteps:=9^7) +contextual only[exa,rA,rB,rC,rD,rE,rF,rG,rH,rI,exW,g0,he,P]
theorem u56{β:Type}{k:KO β}{h:Heap}{d:Nat}{L:List Tok}{s:RS}(e:Int)(hg:h.get (.im 0)=some (rO L s)):vcall Om (F_ 56) [P0,kI e] h d k=k (.tup []) (h.put (.im 0) (rO L (failM s e))) :=
 qAU 56 (.im 0) 0 [] [kI e] _ _ _ rfl rfl hg (qAC L s) (qAC L _) rfl (qTA L s e)
def mustM(s:RS)(b:Bool):RS:=if b=true then s else failM s 12
theorem qB5(L:List Tok)(s:RS)(b:Bool):Om 39 [P0,kB b] [rO L s]=some (.tup [],[rO L (mustM s b)]):=by
 refine(qAD rfl).trans ?_;show lim tab.get S 39 1 0 [P0,kB b] { ims:=[rO L s],owns:=.nil }=_;have g0:(Heap.mk [rO L s] .nil).get (.im 0)=some (rO L s):=rfl;have U:=λ(β:Type) (k:KO β) (d:Nat)=>u56 (k:=k) (d:=d) 12 g0
 rw[w39_0,b39_0];unfold mustM;cases b with
 |true =>
  have fin:vfin true 1 [] (Heap.mk [rO L s] .nil)=some (.tup [],[rO L s]):=qAP true [] _ rfl rfl (qAC L _);simp (maxSteps:=9^7) +contextual only[exa,rA,rB,rC,rD,rE,rF,rG,rH,rI,exW];exact fin
 |false =>
  have fin:vfin true 1 [] ((Heap.mk [rO L s] .nil).put (.im 0) (rO L (failM s 12)))=some (.tup [],[rO L (failM s 12)]):=qAP true [] _ rfl rfl (qAC L _);simp (maxSteps:=9^7) +contextual only[exa,rA,rB,rC,rD,rE,rF,rG,rH,rI,exW,U];exact fin
theorem u39{β:Type}{k:KO β}{h:Heap}{d:Nat}{L:List Tok}{s:RS}(b:Bool)(hg:h.get (.im 0)=some (rO L s)):vcall Om (F_ 39) [P0,kB b] h d k=k (.tup []) (h.put (.im 0) (rO L (mustM s b))) :=
 qAU 39 (.im 0) 0 [] [kB b] _ _ _ rfl rfl hg (qAC L s) (qAC L _) rfl (qB5 L s b)
def nextM(s:RS):RS:={ s with p:=s.p+1 }
def isM(k:Int)(L:List Tok)(s:RS)(x:LB):Bool:=decide ((peekM L s).kind=k)&&decide ((peekM L s).text=x)
def takeM(k:Int)(L:List Tok)(s:RS)(x:LB):RS:=if isM k L s x=true then nextM s else s
theorem qIL(t:Tok):t.cells=[.p (.int .i64 t.kind),.p (.str t.text),.p (.int .i64 t.n),.p (.int .i64 t.pos)]:=rfl
theorem qDE(L:List Tok)(s:RS)(hp:s.p<=1000000)(x:LB):Om 41 [P0,kS x] [rO L s]=some (kB (isM 4 L s x),[rO L (takeM 4 L s x)]):=by
 refine(qAD rfl).trans ?_;show lim tab.get S 41 1 0 [P0,kS x] { ims:=[rO L s],owns:=.nil }=_;have g0:(Heap.mk [rO L s] .nil).get (.im 0)=some (rO L s):=rfl;have U:=λ(β:Type) (k:KO β) (d:Nat)=>u55 (k:=k) (d:=d) g0
 have gn:(Heap.mk [rO L s] .nil).gen 5=0:=rfl;have g1:∀ a b:AObj,(((Heap.mk [rO L s] .nil).own 5 1 a).own 5 1 b).get (.im 0)=some (rO L s):=λ_ _=>rfl
 have P4:∀ a b c d:Cell,put1 zT 0 [a,b,c,d]=[a,b,c,d]:=λ_ _ _ _=>rfl
 have P1:∀ (a b c d y:Cell),put1 [a,b,c,d] 1 [y]=[a,y,c,d]:=λ_ _ _ _ _=>rfl
 have w1:IntKind.i64.wrap ((s.p:Int)+1)=((s.p+1:Nat):Int):=by rw[qAL _ (by omega) (by omega)]; omega
 unfold takeM isM;rw[w41_0,b41_0];rw[qIL] at U;generalize peekM L s=t at *;by_cases h1:t.kind=4
 ·by_cases h2:t.text=x
  ·simp (maxSteps:=9^7) +contextual only[exa,rA,rB,rC,rD,rE,rF,rG,rH,rI,exW,U,gn,g1,P4,P1,h1,h2,w1,Bool.and_true,decide_true];rfl
  ·simp (maxSteps:=9^7) +contextual only[exa,rA,rB,rC,rD,rE,rF,rG,rH,rI,exW,U,gn,g1,P4,P1,h1,h2,w1,Bool.and_false,decide_false,decide_true];rfl
 ·simp (maxSteps:=9^7) +contextual only[exa,rA,rB,rC,rD,rE,rF,rG,rH,rI,exW,U,gn,g1,P4,P1,h1,w1,Bool.false_and,decide_false];rfl
theorem u41{β:Type}{k:KO β}{h:Heap}{d:Nat}{L:List Tok}{s:RS}(hp:s.p<=1000000)(x:LB)(hg:h.get (.im 0)=some (rO L s)):vcall Om (F_ 41) [P0,kS x] h d k=k (kB (isM 4 L s x)) (h.put (.im 0) (rO L (takeM 4 L s x))) :=
 qAU 41 (.im 0) 0 [] [kS x] _ _ _ rfl rfl hg (qAC L s) (qAC L _) rfl (qDE L s hp x)
theorem qBS(s:RS)(b:Bool):(mustM s b).p=s.p:=by
 unfold mustM failM;split
 ·rfl
 ·split <;> rfl
theorem qJU(L:List Tok)(s:RS)(hp:s.p<=1000000):Om 65 [P0] [rO L s]=some (kS (peekM L s).text,[rO L (nextM (mustM s (decide ((peekM L s).kind=1))))]):=by
 refine(qAD rfl).trans ?_;show lim tab.get S 65 1 0 [P0] { ims:=[rO L s],owns:=.nil }=_;have g0:(Heap.mk [rO L s] .nil).get (.im 0)=some (rO L s):=rfl;have U:=λ(β:Type) (k:KO β) (d:Nat)=>u55 (k:=k) (d:=d) g0
 have gn:(Heap.mk [rO L s] .nil).gen 3=0:=rfl;have g1:∀ a b:AObj,(((Heap.mk [rO L s] .nil).own 3 1 a).own 3 1 b).get (.im 0)=some (rO L s):=λ_ _=>rfl
 have P4:∀ a b c d:Cell,put1 zT 0 [a,b,c,d]=[a,b,c,d]:=λ_ _ _ _=>rfl
 have P1:∀ (a b c d y:Cell),put1 [a,b,c,d] 1 [y]=[a,y,c,d]:=λ_ _ _ _ _=>rfl
 have U39:=λ(a b:AObj) (c:Bool) (β:Type) (k:KO β) (d:Nat)=>u39 (k:=k) (d:=d) c (g1 a b)
 rw[qIL] at U;rw[w65_0,b65_0];generalize peekM L s=t at *;generalize hs:mustM s (decide (t.kind=1))=s';have hp':s'.p<=1000000:=by rw[<- hs,qBS]; exact hp
 have w1:IntKind.i64.wrap ((s'.p:Int)+1)=((s'.p+1:Nat):Int):=by rw[qAL _ (by omega) (by omega)]; omega
 have G2:∀ a b:AObj,((((Heap.mk [rO L s] .nil).own 3 1 a).own 3 1 b).put (.im 0) (rO L s')).get (.im 0)=some (rO L s'):=λ_ _=>rfl
 simp (maxSteps:=9^7) +contextual only[exa,rA,rB,rC,rD,rE,rF,rG,rH,rI,exW,U,U39,gn,P4,P1,hs,G2,w1];rfl
def endM(L:List Tok)(s:RS):RS:=mustM s (decide (L.length<=s.p))
def errM(s:RS):Int:=if s.e≠0 then s.e else if s.tw=true then 6 else 0
theorem qQf(L:List Tok)(s:RS):Om 35 [P0] [rO L s]=some (kI (errM (endM L s)),[rO L (endM L s)]):=by
 refine(qAD rfl).trans ?_;show lim tab.get S 35 1 0 [P0] { ims:=[rO L s],owns:=.nil }=_;have g0:(Heap.mk [rO L s] .nil).get (.im 0)=some (rO L s):=rfl;have U39:=λ(c:Bool) (β:Type) (k:KO β) (d:Nat)=>u39 (k:=k) (d:=d) c g0
 have ed:(!decide ((s.p:Int)<(L.length:Int)))=decide (L.length<=s.p):=by
  by_cases h:L.length<=s.p
  ·rw[decide_eq_true h,decide_eq_false (by omega)]; rfl
  ·rw[decide_eq_false h,decide_eq_true (by omega)]; rfl
 rw[w35_0,b35_0];unfold endM;generalize hs:mustM s (decide (L.length<=s.p))=s';have G2:((Heap.mk [rO L s] .nil).put (.im 0) (rO L s')).get (.im 0)=some (rO L s'):=rfl;unfold errM;by_cases h1:s'.e=0
 ·cases h2:s'.tw with
  |true =>
   simp (maxSteps:=9^7) +contextual only[exa,rA,rB,rC,rD,rE,rF,rG,rH,rI,exW,g0,qBT,ed,U39,hs,G2,h1,h2];rfl
  |false =>
   simp (maxSteps:=9^7) +contextual only[exa,rA,rB,rC,rD,rE,rF,rG,rH,rI,exW,g0,qBT,ed,U39,hs,G2,h1,h2];rfl
 ·simp (maxSteps:=9^7) +contextual only[exa,rA,rB,rC,rD,rE,rF,rG,rH,rI,exW,g0,qBT,ed,U39,hs,G2,h1];rfl
theorem u35{β:Type}{k:KO β}{h:Heap}{d:Nat}{L:List Tok}{s:RS}(hg:h.get (.im 0)=some (rO L s)):vcall Om (F_ 35) [P0] h d k=k (kI (errM (endM L s))) (h.put (.im 0) (rO L (endM L s))) :=
 qAU 35 (.im 0) 0 [] [] _ _ _ rfl rfl hg (qAC L s) (qAC L _) rfl (qQf L s)
end Go.Proofs.YtnlmlcfipbnpgaaDoor.Ab
namespace Go.AI
section
variable {β:Type} {O:Oracle} {h:Heap} {d:Nat} {k:KO β} {kt:KT β}
theorem qL9{sz by':Nat}{j lb:Nat}{capb:Option Nat}{ys:List Cell}{ib:Nat}(hb:lb≠0)(hm:lb*by'<=1099511627776)(gb:h.get (.im j)=some (.cells ys ib))(ly:ys.length=lb*sz) :
  vop O (.append sz by' true (.k (.v (.c (.p .nilslice)))) (.k (.v (.c (.sref (.im j) 0 lb capb sz))))) h d k=k (.v (.c (.sref (.im h.ims.length) 0 lb none sz))) (h.push (.cells ys 0)):=by
 have ea:appendTo sz by' true (.v (.c (.p .nilslice))) none ys lb=some ⟨λr=>.v (.c (.sref r 0 lb none sz)),[],some (.cells ys 0),true⟩:=by
  unfold appendTo;rw[if_neg hb];dsimp only;unfold freshRow;rw[if_pos rfl,if_pos (by omega)]
 show opK O _ .nil h d k=_;rw[qA9];have:slow O (.append sz by' true (.k (.v (.c (.p .nilslice)))) (.k (.v (.c (.sref (.im j) 0 lb capb sz))))) .nil h d=some (.v (.c (.sref (.im h.ims.length) 0 lb none sz)),h.push (.cells ys 0)):=by
  unfold slow;show((Plan.go [.im j] _).exec O d h).map _=_;simp only[Plan.exec,goOp,List.mapM_cons,List.mapM_nil,gb,Option.pure_def,rL,Option.bind_some,dstRef,srcRef,splitNeeds,qEL sz j lb capb ys ib ly,ea];rfl
 rw[this]; rfl
theorem qCl(q:Nat)(h:Heap)(fr:List Ref)(e:reach h fuelReach ((ims (q+1)).flatMap λr=>match h.get r with|some o=>o.refs|none=>[]) (ims (q+1))=fr):vfin true (q+1) [] h=some (.tup [],fr.map λr=>match h.get r with|some o=>o.ren (inn fr)|none=>.dead):=by
 letI:Sym:=⟨λ_=>0⟩
 rw[qCL];unfold finV;simp only[oneOf,freezeT,List.mapM_nil,Option.pure_def,Option.map_some,List.flatMap_nil,settle,TVal.refs,List.append_nil,List.map_nil,TVal.ren,if_true,ite_self];subst e;rfl
theorem qBE(g:FuncId)(r:Ref)(x v:TVal)(o o':AObj)(hx:pT x=true)(hv:pT v=true)(hg:h.get r=some o)(ho:plainO o)(ho':plainO o')(hc:O g [.v (.c (.ptr (.im 0) 0)),x] [o]=some (v,[o'])) :
  vtouch O (.call (.k (.v (.c (.func g [])))) [.k (.v (.c (.ptr r 0))),.k x]) h d kt=kt v (h.put r o') ⟨[r.site,r.site],[r.site],false⟩:=by
 obtain⟨q1,q2,q3,q4⟩:=qAk hx;obtain⟨p1,p2,p3,p4⟩:=qAk hv;have e2:reach h fuelReach ([TVal.v (.c (.ptr r 0)),x].flatMap TVal.refs) []=[r]:=by
  rw[List.flatMap_cons,List.flatMap_cons,List.flatMap_nil,q1];show reach h (398+1+1) [r] []=_;rw[qAK _ r [] [] o (by simp) hg,ho.1];exact qAc _ _
 have e3:([r]:List Ref).mapM h.get=some [o]:=by simp only[List.mapM_cons,List.mapM_nil,hg,Option.pure_def,rL,Option.bind_some]
 have ir:inn [r] r=some (.im 0):=by simp[inn,idx]
 have e4:([TVal.v (.c (.ptr r 0)),x]).map (TVal.ren (inn [r]))=[.v (.c (.ptr (.im 0) 0)),x]:=by
  show [TVal.v (.c (match inn [r] r with|some s=>.ptr s 0|none=>.junk)),x.ren (inn [r])]=_;rw[ir,q3]
 have co:=qF2 (d:=d) (h:=h) (O:=O) g [.v (.c (.ptr r 0)),x] [.v (.c (.ptr r 0)),x] _ [r] [o] [o] [o'] v (by show [_,x.strip]=_; rw[q2]; rfl) e2 e3 e4 (by rw[List.map_cons,ho.2]; rfl) hc (Nat.le_refl _);have hp:plan .nil (.call (.k (.v (.c (.func g [])))) [.k (.v (.c (.ptr r 0))),.k x])=some (.call g [.v (.c (.ptr r 0)),x]):=rfl;show bnd (plan2 (.call (.k (.v (.c (.func g [])))) [.k (.v (.c (.ptr r 0))),.k x]) .nil) (λp=>bnd (p.exec O d h) λx=>kt x.1 x.2.1 x.2.2)=_;rw[qAr,hp];show bnd (callOp O g [.v (.c (.ptr r 0)),x] d h) _=_;rw[co,bnd_some];have h1:hAfter h [r] [o']=h.put r o':=by show h.put r (o'.ren _)=_; rw[ho'.2]
 have h2:gTouch h [.v (.c (.ptr r 0)),x] [o] [r] [o']=⟨[r.site,r.site],[r.site],false⟩:=by
  unfold gTouch;rw[List.flatMap_cons,List.flatMap_cons,List.flatMap_nil,q1,List.flatMap_cons,List.flatMap_nil,ho.1];rfl
 dsimp only;rw[h1,h2,p3]
theorem qEE(cs:List Cell):vop O (.alloc cs true) h d k=k (.v (.c (.ptr (.im h.ims.length) 0))) (h.push (.cells cs 0)):=by rw[qEx]; rfl
end
theorem qHN(h:Heap)(d g:Nat)(o x:AObj)(i:Nat):(h.own d g o).put (.im i) x=(h.put (.im i) x).own d g o:=id rfl
theorem qKv(h:Heap)(d g:Nat)(o:AObj):(h.own d g o).ims.length=h.ims.length:=id rfl
theorem push_len(h:Heap)(o:AObj):(h.push o).ims.length=h.ims.length+1:=by show(h.ims++[o]).length=_; simp
theorem qFu(h:Heap)(cs:List Cell)(i n:Nat)(hn:h.ims.length=n):(h.push (.cells cs i)).get (.im n)=some (.cells cs i):=by rw[<- hn]; exact qAu h _ (λe=>by cases e)
theorem qAQ(h:Heap)(o:AObj)(i:Nat)(hi:i<h.ims.length):(h.push o).get (.im i)=h.get (.im i):=by
 unfold Heap.push Heap.get;simp only[List.getElem?_append_left hi]
theorem qIq(h:Heap)(o x:AObj)(i:Nat)(hi:i<h.ims.length):(h.push o).put (.im i) x=(h.put (.im i) x).push o:=by
 show Heap.mk ((h.ims++[o]).set i x) h.owns=Heap.mk (h.ims.set i x++[o]) h.owns;rw[List.set_append_left _ _ hi]
theorem qHX(h:Heap)(o x:AObj)(n:Nat)(hn:h.ims.length=n):(h.push o).put (.im n) x=h.push x:=by
 show Heap.mk ((h.ims++[o]).set n x) h.owns=Heap.mk (h.ims++[x]) h.owns;rw[<- hn,List.set_append_right _ _ (Nat.le_refl _),Nat.sub_self]; rfl
end Go.AI
namespace Go.Proofs.YtnlmlcfipbnpgaaDoor.Ab
open Go Go.AI
def nmS1(L:List Tok)(s:RS):RS:=nextM (mustM s (decide ((peekM L s).kind=1)))
def colM(L:List Tok)(s:RS):RS:=mustM (takeM 4 L (nmS1 L s) [58]) (isM 4 L (nmS1 L s) [58])
structure Ent (d:Int) (L:List Tok) (s:RS) (v:TT) (s':RS):Prop where
 one:Om 34 [P0,kI (d+1)] [rO L (colM L s)]=some (kA v.row,[rO L s'])
 hd:0<=d/\d<=100
 hp:s.p<=900000
abbrev boxO(i:Nat):AObj:=.cells [.ptr (.im i) 0] 0
abbrev intO(d:Int):AObj:=.cells [.p (.int .i64 d)] 0
def eRow(key:LB)(v:TT):List PVal:=.str key::v.row
def H4(L:List Tok)(a:RS)(d:Int)(E:AObj):Heap:=.mk [boxO 1,rO L a,intO d,E] .nil
section
variable (L:List Tok) (a b:RS) (d:Int) (E E':AObj) (i:Nat) (cs:List Cell)
theorem H4_0:(H4 L a d E).get (.im 0)=some (boxO 1):=id rfl
theorem H4_1:(H4 L a d E).get (.im 1)=some (rO L a):=id rfl
theorem H4_2:(H4 L a d E).get (.im 2)=some (intO d):=id rfl
theorem H4_3:(H4 L a d (.cells cs i)).get (.im 3)=some (.cells cs i):=id rfl
theorem qT0:(H4 L a d E).put (.im 1) (rO L b)=H4 L b d E:=id rfl
theorem qTs:(H4 L a d E).put (.im 3) E'=H4 L a d E':=id rfl
theorem H4_l:(H4 L a d E).ims.length=4:=id rfl
theorem qS7:(H4 L a d E).gen i=0:=id rfl
end
abbrev z5:List Cell:=[.p (.str []),.p (.int .i64 0),.p (.str []),.p .nilslice,.p .nilslice]
theorem qQb{β:Type}{k:KO β}{h:Heap}{d:Nat}(c0 c1 c2 c3 c4:Cell):vop Om (.bslice 5 1 z5 [(0,.k (.v (.agg [c0,c1,c2,c3,c4])))] true) h d k=k (.v (.c (.sref (.im h.ims.length) 0 1 (some 1) 5))) (h.push (.cells [c0,c1,c2,c3,c4] 0)):=by
 show opK Om _ .nil h d k=_;rw[qA9]; rfl
theorem qB6(L:List Tok)(s:RS):(nmS1 L s).p=s.p+1:=by
 unfold nmS1 nextM;show(mustM s _).p+1=_;rw[qBS]
theorem qRQ(d:Int)(L:List Tok)(s:RS)(v:TT)(s':RS)(E:Ent d L s v s') :
  Om 86 [P0,.v (.c (.ptr (.im 2) 0)),.v (.c (.ptr (.im 3) 0))] [boxO 1,rO L s,intO d,.cells [.p .nilslice] 0] =
   some (.tup [],[boxO 1,rO L s',intO d,.cells [.sref (.im 4) 0 1 none 5] 0,.cells (pcells (eRow (peekM L s).text v)) 0]):=by
 obtain⟨e1,hd,hp⟩:=E;refine(qAD rfl).trans ?_;show lim tab.get S 86 4 0 [P0,.v (.c (.ptr (.im 2) 0)),.v (.c (.ptr (.im 3) 0))] (H4 L s d (.cells [.p .nilslice] 0))=_;have c65:∀ {β:Type}{k:KO β}{h:Heap}{e:Nat},h.get (.im 1)=some (rO L s)->vcall Om (F_ 65) [.v (.c (.ptr (.im 1) 0))] h e k=k (kS (peekM L s).text) (h.put (.im 1) (rO L (nmS1 L s))):=λ{β k h e} hg =>
  qAU 65 (.im 1) 0 [] [] _ _ _ rfl rfl hg (qAC L s) (qAC L _) rfl (qJU L s (by omega))
 have hp1:(nmS1 L s).p<=1000000:=by rw[qB6]; omega
 have c41:∀ {β:Type}{h:Heap}{e:Nat}{kt:KT β},h.get (.im 1)=some (rO L (nmS1 L s))->vtouch Om (.call (.k (F_ 41)) [.k (.v (.c (.ptr (.im 1) 0))),.k (kS [58])]) h e kt=kt (kB (isM 4 L (nmS1 L s) [58])) (h.put (.im 1) (rO L (takeM 4 L (nmS1 L s) [58]))) ⟨[(Ref.im 1).site,(Ref.im 1).site],[(Ref.im 1).site],false⟩:=λ{β h e kt} hg =>
  qBE 41 (.im 1) (kS [58]) _ _ _ rfl rfl hg (qAC L _) (qAC L _) (qDE L _ hp1 [58])
 have c39:∀ {β:Type}{h:Heap}{e:Nat}{kt:KT β},h.get (.im 1)=some (rO L (takeM 4 L (nmS1 L s) [58]))->vtouch Om (.call (.k (F_ 39)) [.k (.v (.c (.ptr (.im 1) 0))),.k (kB (isM 4 L (nmS1 L s) [58]))]) h e kt=kt (.tup []) (h.put (.im 1) (rO L (colM L s))) ⟨[(Ref.im 1).site,(Ref.im 1).site],[(Ref.im 1).site],false⟩:=λ{β h e kt} hg =>
  qBE 39 (.im 1) (kB (isM 4 L (nmS1 L s) [58])) _ _ _ rfl rfl hg (qAC L _) (qAC L _) (qB5 L _ _)
 have c34:∀ {β:Type}{k:KO β}{h:Heap}{e:Nat},h.get (.im 1)=some (rO L (colM L s))->vcall Om (F_ 34) [.v (.c (.ptr (.im 1) 0)),kI (d+1)] h e k=k (kA v.row) (h.put (.im 1) (rO L s')):=λ{β k h e} hg =>
  qAU 34 (.im 1) 0 [] [kI (d+1)] _ _ _ rfl rfl hg (qAC L _) (qAC L _) (by simp only[exP]) e1
 have ed:IntKind.i64.wrap (d+1)=d+1:=qAL _ (by omega) (by omega);obtain⟨a1,a2,a3,a4,hrow⟩:∃ a1 a2 a3 a4,v.row=[a1,a2,a3,a4]:=by cases v; exact⟨_,_,_,_,rfl⟩
 unfold eRow;rw[hrow] at c34 ⊢;have pr:pcells [a1,a2,a3,a4]=[.p a1,.p a2,.p a3,.p a4]:=rfl;generalize isM 4 L (nmS1 L s) [58]=bc at *;generalize hs2:takeM 4 L (nmS1 L s) [58]=s2 at *;generalize hs3:colM L s=s3 at *;generalize nmS1 L s=s1 at *;generalize (peekM L s).text=key at *;have ap:=λ{β:Type} {k:KO β} {h:Heap} {e:Nat} (gb:h.get (.im 5)=some (.cells [.p (.str key),.p a1,.p a2,.p a3,.p a4] 0))=>qL9 (O:=Om) (k:=k) (d:=e) (sz:=5) (by':=88) (lb:=1) (capb:=some 1) (by omega) (by omega) gb rfl
 have P5:∀ a b c d e:Cell,put1 z5 0 [a,b,c,d,e]=[a,b,c,d,e]:=λ_ _ _ _ _=>rfl
 have P4:∀ a b c d e x y z w:Cell,put1 [a,b,c,d,e] 1 [x,y,z,w]=[a,x,y,z,w]:=λ_ _ _ _ _ _ _ _ _=>rfl
 rw[w86_0,b86_0];simp (maxSteps:=9^7) +contextual only[exa,rA,rB,rC,rD,rE,rF,rG,rH,rI,exW,exY,H4_0,H4_1,H4_2,H4_3,qT0,qTs,H4_l,qHN,c65,c41,c39,c34,ed,if_false,pr,qQb,qEE,qS7,qKv,push_len,qFu,qIq,qHX,qAQ,ap,oneOf,P5,P4];exact(qCl 3 _ [.im 0,.im 1,.im 2,.im 3,.im 6] rfl).trans rfl
def H5(L:List Tok)(a:RS)(d:Int)(E F:AObj):Heap:=.mk [boxO 1,rO L a,intO d,E,F] .nil
section
variable (L:List Tok) (a b:RS) (d:Int) (E E' F F':AObj) (i:Nat) (cs:List Cell)
theorem H5_0:(H5 L a d E F).get (.im 0)=some (boxO 1):=id rfl
theorem H5_1:(H5 L a d E F).get (.im 1)=some (rO L a):=id rfl
theorem H5_2:(H5 L a d E F).get (.im 2)=some (intO d):=id rfl
theorem H5_3:(H5 L a d (.cells cs i) F).get (.im 3)=some (.cells cs i):=id rfl
theorem H5_4:(H5 L a d E (.cells cs i)).get (.im 4)=some (.cells cs i):=id rfl
theorem qTl:(H5 L a d E F).put (.im 1) (rO L b)=H5 L b d E F:=id rfl
theorem qTS:(H5 L a d E F).put (.im 3) E'=H5 L a d E' F:=id rfl
theorem qTf:(H5 L a d E F).put (.im 4) F'=H5 L a d E F':=id rfl
theorem H5_l:(H5 L a d E F).ims.length=5:=id rfl
theorem qST:(H5 L a d E F).gen i=0:=id rfl
end
theorem qO0(n:Nat)(xs:List PVal)(hx:xs.length=n*5)(hn:n<=100000)(d:Int)(L:List Tok)(s:RS)(v:TT)(s':RS)(E:Ent d L s v s') :
  Om 86 [P0,.v (.c (.ptr (.im 2) 0)),.v (.c (.ptr (.im 3) 0))] [boxO 1,rO L s,intO d,.cells [.sref (.im 4) 0 n none 5] 0,.cells (pcells xs) 0] =
   some (.tup [],[boxO 1,rO L s',intO d,.cells [.sref (.im 5) 0 (n+1) none 5] 0,.dead,.cells (pcells (xs++eRow (peekM L s).text v)) 0]):=by
 obtain⟨e1,hd,hp⟩:=E;refine(qAD rfl).trans ?_;show lim tab.get S 86 5 0 [P0,.v (.c (.ptr (.im 2) 0)),.v (.c (.ptr (.im 3) 0))] (H5 L s d (.cells [.sref (.im 4) 0 n none 5] 0) (.cells (pcells xs) 0))=_;have c65:∀ {β:Type}{k:KO β}{h:Heap}{e:Nat},h.get (.im 1)=some (rO L s)->vcall Om (F_ 65) [.v (.c (.ptr (.im 1) 0))] h e k=k (kS (peekM L s).text) (h.put (.im 1) (rO L (nmS1 L s))):=λ{β k h e} hg =>
  qAU 65 (.im 1) 0 [] [] _ _ _ rfl rfl hg (qAC L s) (qAC L _) rfl (qJU L s (by omega))
 have hp1:(nmS1 L s).p<=1000000:=by rw[qB6]; omega
 have c41:∀ {β:Type}{h:Heap}{e:Nat}{kt:KT β},h.get (.im 1)=some (rO L (nmS1 L s))->vtouch Om (.call (.k (F_ 41)) [.k (.v (.c (.ptr (.im 1) 0))),.k (kS [58])]) h e kt=kt (kB (isM 4 L (nmS1 L s) [58])) (h.put (.im 1) (rO L (takeM 4 L (nmS1 L s) [58]))) ⟨[(Ref.im 1).site,(Ref.im 1).site],[(Ref.im 1).site],false⟩:=λ{β h e kt} hg =>
  qBE 41 (.im 1) (kS [58]) _ _ _ rfl rfl hg (qAC L _) (qAC L _) (qDE L _ hp1 [58])
 have c39:∀ {β:Type}{h:Heap}{e:Nat}{kt:KT β},h.get (.im 1)=some (rO L (takeM 4 L (nmS1 L s) [58]))->vtouch Om (.call (.k (F_ 39)) [.k (.v (.c (.ptr (.im 1) 0))),.k (kB (isM 4 L (nmS1 L s) [58]))]) h e kt=kt (.tup []) (h.put (.im 1) (rO L (colM L s))) ⟨[(Ref.im 1).site,(Ref.im 1).site],[(Ref.im 1).site],false⟩:=λ{β h e kt} hg =>
  qBE 39 (.im 1) (kB (isM 4 L (nmS1 L s) [58])) _ _ _ rfl rfl hg (qAC L _) (qAC L _) (qB5 L _ _)
 have c34:∀ {β:Type}{k:KO β}{h:Heap}{e:Nat},h.get (.im 1)=some (rO L (colM L s))->vcall Om (F_ 34) [.v (.c (.ptr (.im 1) 0)),kI (d+1)] h e k=k (kA v.row) (h.put (.im 1) (rO L s')):=λ{β k h e} hg =>
  qAU 34 (.im 1) 0 [] [kI (d+1)] _ _ _ rfl rfl hg (qAC L _) (qAC L _) (by simp only[exP]) e1
 have ed:IntKind.i64.wrap (d+1)=d+1:=qAL _ (by omega) (by omega);obtain⟨a1,a2,a3,a4,hrow⟩:∃ a1 a2 a3 a4,v.row=[a1,a2,a3,a4]:=by cases v; exact⟨_,_,_,_,rfl⟩
 unfold eRow;rw[hrow] at c34 ⊢;have pr:pcells [a1,a2,a3,a4]=[.p a1,.p a2,.p a3,.p a4]:=rfl;generalize isM 4 L (nmS1 L s) [58]=bc at *;generalize hs2:takeM 4 L (nmS1 L s) [58]=s2 at *;generalize hs3:colM L s=s3 at *;generalize nmS1 L s=s1 at *;generalize (peekM L s).text=key at *;have ap:=λ{β:Type} {k:KO β} {h:Heap} {e:Nat} (ga:h.get (.im 4)=some (.cells (pcells xs) 0)) (gb:h.get (.im 6)=some (.cells [.p (.str key),.p a1,.p a2,.p a3,.p a4] 0))=>qMA (O:=Om) (k:=k) (d:=e) (sz:=5) (by':=88) (la:=n) (lb:=1) (capb:=some 1) (by omega) (by omega) ga gb (by rw[qAN,hx]) rfl
 have P5:∀ a b c d e:Cell,put1 z5 0 [a,b,c,d,e]=[a,b,c,d,e]:=λ_ _ _ _ _=>rfl
 have P4:∀ a b c d e x y z w:Cell,put1 [a,b,c,d,e] 1 [x,y,z,w]=[a,x,y,z,w]:=λ_ _ _ _ _ _ _ _ _=>rfl
 rw[w86_0,b86_0];simp (maxSteps:=9^7) +contextual only[exa,rA,rB,rC,rD,rE,rF,rG,rH,rI,exW,exY,H5_0,H5_1,H5_2,H5_3,H5_4,qTl,qTS,qTf,H5_l,qHN,c65,c41,c39,c34,ed,if_false,pr,qQb,qEE,qST,qKv,push_len,qFu,qIq,qHX,qAQ,ap,oneOf,P5,P4];have T:AI.Touch.apart ⟨[(Ref.im 0).site],[],false⟩ ⟨[(Ref.im 1).site,(Ref.im 1).site],[(Ref.im 1).site],false⟩=true:=rfl;rw[T,cond_true];have pa:pcells xs++[.p (.str key),.p a1,.p a2,.p a3,.p a4]=pcells (xs++[.str key,a1,a2,a3,a4]):=by unfold pcells; simp
 rw[pa];have pl:=qAB (xs++[.str key,a1,a2,a3,a4]) 0;generalize pcells (xs++[.str key,a1,a2,a3,a4])=Y at pl;refine(qCl 4 _ [.im 0,.im 1,.im 2,.im 3,.im 4,.im 7] ?_).trans ?_
 ·show reach _ (397+1+1+1) [.im 1,.im 7] (ims 5)=_;rw[qA1 _ _ _ _ (by decide),qAK _ (.im 7) [] (ims 5) (.cells Y 0) (by decide) rfl,pl.1];rfl
 ·show some (TVal.tup [],[boxO 1,rO L s',intO d,AObj.cells [Cell.sref (Ref.im 5) 0 (n+1) none 5] 0,AObj.dead,(AObj.cells Y 0).ren (inn [.im 0,.im 1,.im 2,.im 3,.im 4,.im 7])])=_;rw[pl.2]
theorem qMo{β:Type}{O:Oracle}{k:KO β}{h:Heap}{d:Nat}(g:FuncId)(a b c:Ref):vcall O (.v (.c (.func g [a,b,c]))) [] h d k=vcall O (.v (.c (.func g []))) [.v (.c (.ptr a 0)),.v (.c (.ptr b 0)),.v (.c (.ptr c 0))] h d k:=rfl
structure St0 (h:Heap) (L:List Tok) (s:RS) (d:Int):Prop where
 g0:h.get (.im 0)=some (rO L s)
 g1:h.get (.im 1)=some (boxO 0)
 g2:h.get (.im 2)=some (intO d)
 g3:h.get (.im 3)=some (.cells [.p .nilslice] 0)
structure St1 (h:Heap) (L:List Tok) (s:RS) (d:Int) (n:Nat) (xs:List PVal) (j:Nat):Prop where
 g0:h.get (.im 0)=some (rO L s)
 g1:h.get (.im 1)=some (boxO 0)
 g2:h.get (.im 2)=some (intO d)
 hj:4<=j
 g3:h.get (.im 3)=some (.cells [.sref (.im j) 0 n none 5] 0)
 gj:h.get (.im j)=some (.cells (pcells xs) 0)
 hx:xs.length=n*5
 hn:n<=90000
theorem St0.put{h:Heap}{L:List Tok}{s t:RS}{d:Int}(A:St0 h L s d):St0 (h.put (.im 0) (rO L t)) L t d :=
 ⟨Heap.zput_self A.g0 (λe=>by cases e),(Heap.zput_ne A.g0 (by decide)).trans A.g1,(Heap.zput_ne A.g0 (by decide)).trans A.g2,(Heap.zput_ne A.g0 (by decide)).trans A.g3⟩
theorem St1.put{h:Heap}{L:List Tok}{s t:RS}{d:Int}{n:Nat}{xs:List PVal}{j:Nat}(A:St1 h L s d n xs j):St1 (h.put (.im 0) (rO L t)) L t d n xs j :=
 ⟨Heap.zput_self A.g0 (λe=>by cases e),(Heap.zput_ne A.g0 (by decide)).trans A.g1,(Heap.zput_ne A.g0 (by decide)).trans A.g2,A.hj,(Heap.zput_ne A.g0 (by decide)).trans A.g3,(Heap.zput_ne A.g0 (λe=>by cases e; have:=A.hj; omega)).trans A.gj,A.hx,A.hn⟩
theorem qR9{h:Heap}{L:List Tok}{s t:RS}{v:TT}{d:Int}(A:St0 h L s d)(E:Ent d L s v t) :
  ∃ h' j,(∀ {β:Type}(e:Nat)(k:KO β),vcall Om (.v (.c (.func 86 [.im 1,.im 2,.im 3]))) [] h e k=k (.tup []) h')/\St1 h' L t d 1 (eRow (peekM L s).text v) j:=by
 have n0:(Ref.im 0)∉([.im 1]:List Ref):=by decide
 have hr:reach h fuelReach ([.v (.c (.ptr (.im 1) 0)),.v (.c (.ptr (.im 2) 0)),.v (.c (.ptr (.im 3) 0))].flatMap TVal.refs) []=[.im 1,.im 0,.im 2,.im 3]:=by
  show reach h (395+1+1+1+1+1) [.im 1,.im 2,.im 3] []=_;rw[qAK _ (.im 1) _ _ _ (by decide) A.g1];show reach h (395+1+1+1+1) [.im 0,.im 2,.im 3] [.im 1]=_;rw[qAK _ (.im 0) _ _ _ (by decide) A.g0];show reach h (395+1+1+1) [.im 2,.im 3] [.im 1,.im 0]=_;rw[qAK _ (.im 2) _ _ _ (by decide) A.g2];show reach h (395+1+1) [.im 3] [.im 1,.im 0,.im 2]=_;rw[qAK _ (.im 3) _ _ _ (by decide) A.g3];exact qAc _ _
 have hm:([.im 1,.im 0,.im 2,.im 3]:List Ref).mapM h.get=some [boxO 0,rO L s,intO d,.cells [.p .nilslice] 0]:=by
  simp only[List.mapM_cons,List.mapM_nil,A.g0,A.g1,A.g2,A.g3,Option.pure_def,rL,Option.bind_some]
 have pl:=qAB (eRow (peekM L s).text v) 0;obtain⟨h',hc,B⟩:=qBz (O:=Om) (h:=h) 86 [.v (.c (.ptr (.im 1) 0)),.v (.c (.ptr (.im 2) 0)),.v (.c (.ptr (.im 3) 0))] _ [P0,.v (.c (.ptr (.im 2) 0)),.v (.c (.ptr (.im 3) 0))] _ _ _ _ _ (.tup []) rfl hr hm rfl rfl (qRQ d L s v t E) (show(4:Nat)<=5 by decide) (by decide) rfl;refine⟨h',h.ims.length+0,λe k=>(qMo 86 _ _ _).trans (hc e k),?_⟩;have hl:4<=h.ims.length:=by
  have:=(Heap.get_im_some A.g3).1;have:=(List.getElem?_eq_some_iff.1 this).1;omega
 exact⟨B.own 1 (.im 0) _ rfl rfl (λe=>by cases e),B.own 0 (.im 1) _ rfl rfl (λe=>by cases e),B.own 2 (.im 2) _ rfl rfl (λe=>by cases e),by omega,B.own 3 (.im 3) _ rfl rfl (λe=>by cases e),
  B.new 0 (.cells (pcells (eRow (peekM L s).text v)) 0) (congrArg some (pl.2 _)) (λe=>by cases e),by unfold eRow; simp[TT.row_len],by omega⟩
theorem qTz{j:Nat}(hj:4<=j):inn [.im 1,.im 0,.im 2,.im 3,.im j] (.im j)=some (.im 4):=by
 have ne:∀ i:Nat,i<4->decide (Ref.im j=Ref.im i)=false:=λi hi=>decide_eq_false (λe=>by cases e; omega)
 unfold inn;simp only[idx,ne 1 (by decide),ne 0 (by decide),ne 2 (by decide),ne 3 (by decide),cond_false,decide_true,cond_true];rfl
theorem qQK{h:Heap}{L:List Tok}{s t:RS}{v:TT}{d:Int}{n j:Nat}{xs:List PVal}(A:St1 h L s d n xs j)(hn:n<=80000)(E:Ent d L s v t) :
  ∃ h' j,(∀ {β:Type}(e:Nat)(k:KO β),vcall Om (.v (.c (.func 86 [.im 1,.im 2,.im 3]))) [] h e k=k (.tup []) h')/\St1 h' L t d (n+1) (xs++eRow (peekM L s).text v) j:=by
 have hj:=A.hj;have nj:∀ i:Nat,i<4->Ref.im j≠Ref.im i:=λi hi e=>by cases e; omega
 have nm:Ref.im j∉([.im 1,.im 0,.im 2,.im 3]:List Ref):=by
  simp only[List.mem_cons,List.not_mem_nil,or_false,not_or];exact⟨nj 1 (by decide),nj 0 (by decide),nj 2 (by decide),nj 3 (by decide)⟩
 have pl:=qAB (xs++eRow (peekM L s).text v) 0;have px:=qAB xs 0;have hr:reach h fuelReach ([.v (.c (.ptr (.im 1) 0)),.v (.c (.ptr (.im 2) 0)),.v (.c (.ptr (.im 3) 0))].flatMap TVal.refs) []=[.im 1,.im 0,.im 2,.im 3,.im j]:=by
  show reach h (394+1+1+1+1+1+1) [.im 1,.im 2,.im 3] []=_;rw[qAK _ (.im 1) _ _ _ (by decide) A.g1];show reach h (394+1+1+1+1+1) [.im 0,.im 2,.im 3] [.im 1]=_;rw[qAK _ (.im 0) _ _ _ (by decide) A.g0];show reach h (394+1+1+1+1) [.im 2,.im 3] [.im 1,.im 0]=_;rw[qAK _ (.im 2) _ _ _ (by decide) A.g2];show reach h (394+1+1+1) [.im 3] [.im 1,.im 0,.im 2]=_;rw[qAK _ (.im 3) _ _ _ (by decide) A.g3];show reach h (394+1+1) [.im j] [.im 1,.im 0,.im 2,.im 3]=_;rw[qAK _ (.im j) _ _ _ nm A.gj,px.1];exact qAc _ _
 have hm:([.im 1,.im 0,.im 2,.im 3,.im j]:List Ref).mapM h.get=some [boxO 0,rO L s,intO d,.cells [.sref (.im j) 0 n none 5] 0,.cells (pcells xs) 0]:=by
  simp only[List.mapM_cons,List.mapM_nil,A.g0,A.g1,A.g2,A.g3,A.gj,Option.pure_def,rL,Option.bind_some]
 have e5:([boxO 0,rO L s,intO d,.cells [.sref (.im j) 0 n none 5] 0,.cells (pcells xs) 0]:List AObj).map (AObj.ren (inn [.im 1,.im 0,.im 2,.im 3,.im j]))=[boxO 1,rO L s,intO d,.cells [.sref (.im 4) 0 n none 5] 0,.cells (pcells xs) 0]:=by
  show [boxO 1,rO L s,intO d,AObj.cells [match inn [.im 1,.im 0,.im 2,.im 3,.im j] (.im j) with|some s=>.sref s 0 n none 5|none=>.junk] 0,(AObj.cells (pcells xs) 0).ren _]=_;rw[qTz hj,px.2]
 have hnd:([.im 1,.im 0,.im 2,.im 3,.im j]:List Ref).Nodup:=by
  have:([.im 1,.im 0,.im 2,.im 3]:List Ref).Nodup:=by decide
  rw[show([.im 1,.im 0,.im 2,.im 3,.im j]:List Ref)=[.im 1,.im 0,.im 2,.im 3]++[.im j] from rfl,List.nodup_append];refine⟨this,by simp,?_⟩;intro a ha b hb e;rw[List.mem_singleton.1 hb] at e;exact nm (e▸ha)
 obtain⟨h',hc,B⟩:=qBz (O:=Om) (h:=h) 86 [.v (.c (.ptr (.im 1) 0)),.v (.c (.ptr (.im 2) 0)),.v (.c (.ptr (.im 3) 0))] _ [P0,.v (.c (.ptr (.im 2) 0)),.v (.c (.ptr (.im 3) 0))] _ _ _ _ _ (.tup []) rfl hr hm rfl e5 (qO0 n xs A.hx (by have:=A.hn; omega) d L s v t E) (show(5:Nat)<=6 by decide) hnd rfl;refine⟨h',h.ims.length+0,λe k=>(qMo 86 _ _ _).trans (hc e k),?_⟩;have hl:4<=h.ims.length:=by
  have:=(Heap.get_im_some A.g3).1;have:=(List.getElem?_eq_some_iff.1 this).1;omega
 exact⟨B.own 1 (.im 0) _ rfl rfl (λe=>by cases e),B.own 0 (.im 1) _ rfl rfl (λe=>by cases e),B.own 2 (.im 2) _ rfl rfl (λe=>by cases e),by omega,B.own 3 (.im 3) _ rfl rfl (λe=>by cases e),
  B.new 0 (.cells (pcells (xs++eRow (peekM L s).text v)) 0) (congrArg some (pl.2 _)) (λe=>by cases e),by have:=A.hx; unfold eRow; simp[TT.row_len]; omega,by omega⟩
abbrev Es:=List (LB×TT)
def eRows(es:Es):List PVal:=es.flatMap λp=>eRow p.1 p.2
abbrev F86:TVal:=.v (.c (.func 86 [.im 1,.im 2,.im 3]))
def fieldM(sub:RS->TT×RS)(L:List Tok)(s:RS):(LB×TT)×RS:=(((peekM L s).text,(sub (colM L s)).1),(sub (colM L s)).2)
def loopM(sub:RS->TT×RS)(L:List Tok)(x:LB):Nat->RS->Es->Es×RS
 |0,s,acc=>(acc,s)
 |f+1,s,acc=>if isM 4 L s [44]=true then loopM sub L x f (fieldM sub L (nextM s)).2 (acc++[(fieldM sub L (nextM s)).1]) else (acc,mustM (takeM 4 L s x) (isM 4 L s x))
def rowM(sub:RS->TT×RS)(L:List Tok)(x:LB)(s:RS):Es×RS:=if isM 4 L s x=true then ([],nextM s) else loopM sub L x (L.length+2) (fieldM sub L s).2 [(fieldM sub L s).1]
def I1(L:List Tok)(s:RS):Prop:=(s.e=0->s.p<=L.length)/\s.p<=L.length+1
structure SubOK (d:Int) (L:List Tok) (sub:RS->TT×RS) (ok:RS->Prop):Prop where
 one:∀ s,I1 L s->ok s->Om 34 [P0,kI (d+1)] [rO L s]=some (kA (sub s).1.row,[rO L (sub s).2])
 inv:∀ s,I1 L s->I1 L (sub s).2/\s.p<=(sub s).2.p
def loopOK(sub:RS->TT×RS)(ok:RS->Prop)(L:List Tok):Nat->RS->Prop
 |0,_=>True
 |f+1,s=>isM 4 L s [44]=true->ok (colM L (nextM s))/\loopOK sub ok L f (fieldM sub L (nextM s)).2
def rowOK(sub:RS->TT×RS)(ok:RS->Prop)(L:List Tok)(x:LB)(s:RS):Prop:=isM 4 L s x=false->ok (colM L s)/\loopOK sub ok L (L.length+2) (fieldM sub L s).2
theorem qBC{k:Int}{L:List Tok}{s:RS}{x:LB}(hk:k≠0)(h:isM k L s x=true):s.e=0/\s.p<L.length:=by
 unfold isM peekM at h;rw[Bool.and_eq_true,decide_eq_true_eq] at h;by_cases he:s.e=0
 ·rw[if_pos he] at h;refine⟨he,?_⟩
  rcases Nat.lt_or_ge s.p L.length with h1|h1
  ·exact h1
  ·rw[List.getElem?_eq_none h1] at h;exact absurd h.1 (λe=>hk e.symm)
 ·rw[if_neg he] at h;exact absurd h.1 (λe=>hk e.symm)
theorem qCo{L:List Tok}{s:RS}(h:(peekM L s).kind≠0):s.e=0/\s.p<L.length:=by
 unfold peekM at h;by_cases he:s.e=0
 ·rw[if_pos he] at h;refine⟨he,?_⟩
  rcases Nat.lt_or_ge s.p L.length with h1|h1
  ·exact h1
  ·rw[List.getElem?_eq_none h1] at h;exact absurd rfl h
 ·rw[if_neg he] at h;exact absurd rfl h
theorem qGU(s:RS)(e:Int)(he:e≠0):(failM s e).e≠0:=by
 unfold failM;split
 ·exact he
 ·assumption
theorem qEa{L:List Tok}{s:RS}(b:Bool)(h:I1 L s):I1 L (mustM s b):=by
 refine⟨λe=>?_,by rw[qBS]; exact h.2⟩;rw[qBS];unfold mustM at e;split at e
 ·exact h.1 e
 ·exact absurd e (qGU _ _ (by decide))
theorem qEj{k:Int}{L:List Tok}{s:RS}{x:LB}(hk:k≠0)(h:I1 L s):I1 L (takeM k L s x)/\s.p<=(takeM k L s x).p:=by
 unfold takeM;split
 ·rename_i hi;obtain⟨h1,h2⟩:=qBC hk hi;refine⟨⟨λ_=>?_,?_⟩,?_⟩
  ·show s.p+1<=_; omega
  ·show s.p+1<=_; omega
  ·show s.p<=s.p+1; omega
 ·exact⟨h,Nat.le_refl _⟩
theorem nm_I{L:List Tok}{s:RS}(h:s.p<=L.length):I1 L (nmS1 L s):=by
 refine⟨λe=>?_,by rw[qB6]; omega⟩;rw[qB6];by_cases h1:(peekM L s).kind=1
 ·have:=(qCo (L:=L) (s:=s) (by rw[h1]; decide)).2;omega
 ·exfalso;have:(mustM s (decide ((peekM L s).kind=1))).e=0:=e;rw[decide_eq_false h1] at this;unfold mustM at this;rw[if_neg (by decide)] at this;exact qGU _ _ (by decide) this
theorem qGS{L:List Tok}{s:RS}(h:s.p<=L.length):I1 L (colM L s)/\s.p+1<=(colM L s).p:=by
 have h1:=nm_I h;obtain⟨h2,h3⟩:=qEj (k:=4) (x:=[58]) (by decide) h1;refine⟨qEa _ h2,?_⟩;unfold colM;rw[qBS];rw[qB6] at h3;omega
theorem qOP{d:Int}{L:List Tok}{sub:RS->TT×RS}{okP:RS->Prop}(ok:SubOK d L sub okP)(hd:0<=d/\d<=100)(hL:L.length<=1000){s:RS}(h:s.p<=L.length)(hc:okP (colM L s)):Ent d L s (fieldM sub L s).1.2 (fieldM sub L s).2/\I1 L (fieldM sub L s).2/\s.p+1<=(fieldM sub L s).2.p:=by
 obtain⟨h1,h2⟩:=qGS h;obtain⟨h4,h5⟩:=ok.inv _ h1;exact⟨⟨ok.one _ h1 hc,hd,by omega⟩,h4,by show s.p+1<=(sub (colM L s)).2.p; omega⟩
theorem qRb{h:Heap}{L:List Tok}{s:RS}{d:Int}{n j:Nat}{xs:List PVal}(hp:s.p<=1000000)(x:LB)(A:St1 h L s d n xs j) :
  lim tab.get S 66 4 2 [P0,kS x] h=some (.tup [],[rO L (mustM (takeM 4 L s x) (isM 4 L s x)),boxO 0,intO d,.cells [.sref (.im 4) 0 n none 5] 0,.cells (pcells xs) 0]):=by
 have hj:=A.hj;have A1:=A.put (t:=takeM 4 L s x);rw[w66_2,b66_2,u41 hp x A.g0,u39 _ A1.g0];have B:=A1.put (t:=mustM (takeM 4 L s x) (isM 4 L s x));generalize mustM (takeM 4 L s x) (isM 4 L s x)=t at B ⊢;have px:=qAB xs 0;have nm:Ref.im j∉(ims 4:List Ref):=by
  show Ref.im j∉[.im 0,.im 1,.im 2,.im 3];simp only[List.mem_cons,List.not_mem_nil,or_false,not_or,Ref.im.injEq];omega
 generalize (h.put (.im 0) (rO L (takeM 4 L s x))).put (.im 0) (rO L t)=h at B;have e:(ims (3+1)).flatMap (λr=>match h.get r with|some o=>o.refs|none=>[])=[.im 0,.im j]:=by
  show([.im 0,.im 1,.im 2,.im 3]:List Ref).flatMap _=_;simp only[List.flatMap_cons,List.flatMap_nil,B.g0,B.g1,B.g2,B.g3];rw[(qAC L t).1];rfl
 refine(qCl 3 h [.im 0,.im 1,.im 2,.im 3,.im j] ?_).trans ?_
 ·refine(congrArg (λl=>reach h fuelReach l (ims 4)) e).trans ?_;show reach h (397+1+1+1) [.im 0,.im j] (ims 4)=_;rw[qA1 _ _ _ _ (by decide),qAK _ (.im j) [] (ims 4) _ nm B.gj,px.1];exact qAc _ _
 ·have ij:inn [.im 0,.im 1,.im 2,.im 3,.im j] (.im j)=some (.im 4):=by
   have ne:∀ i:Nat,i<4->decide (Ref.im j=Ref.im i)=false:=λi hi=>decide_eq_false (λe=>by cases e; omega)
   unfold inn;simp only[idx,ne 1 (by decide),ne 0 (by decide),ne 2 (by decide),ne 3 (by decide),cond_false,decide_true,cond_true];rfl
  simp only[List.map_cons,List.map_nil,B.g0,B.g1,B.g2,B.g3,B.gj,px.2,(qAC L t).2];show some (TVal.tup [],[rO L t,boxO 0,intO d,AObj.cells [match inn [.im 0,.im 1,.im 2,.im 3,.im j] (.im j) with|some s=>.sref s 0 n none 5|none=>.junk] 0,AObj.cells (pcells xs) 0])=_;rw[ij]
theorem qGL(l:Es)(p:LB×TT):eRows (l++[p])=eRows l++eRow p.1 p.2:=by unfold eRows; simp
theorem qIV{d:Int}{L:List Tok}{sub:RS->TT×RS}{okP:RS->Prop}(ok:SubOK d L sub okP)(hd:0<=d/\d<=100)(hL:L.length<=1000)(x:LB):∀ (f:Nat) (s:RS) (acc:Es) (h:Heap) (j:Nat),I1 L s->loopOK sub okP L f s->L.length - s.p<f->acc.length+(L.length - s.p)<=L.length+2->St1 h L s d acc.length (eRows acc) j ->
  lim tab.get S 66 4 1 [P0,kS x,F86] h=some (.tup [],[rO L (loopM sub L x f s acc).2,boxO 0,intO d,.cells [.sref (.im 4) 0 (loopM sub L x f s acc).1.length none 5] 0,.cells (pcells (eRows (loopM sub L x f s acc).1)) 0])
 |0,s,acc,h,j,I,lo,hf,ha,A=>by omega
 |f+1,s,acc,h,j,I,lo,hf,ha,A=>by
  have hp:s.p<=1000000:=by have:=I.2; omega
  unfold loopM;rw[w66_1,b66_1,u41 hp [44] A.g0];cases hi:isM 4 L s [44] with
  |false =>
   have ht:takeM 4 L s [44]=s:=by unfold takeM; rw[hi]; rfl
   rw[qCR,if_neg (by decide),ht];exact qRb hp x (A.put (t:=s))
  |true =>
   obtain⟨h1,h2⟩:=qBC (by decide) hi;have ht:takeM 4 L s [44]=nextM s:=by unfold takeM; rw[hi]; rfl
   rw[qD5,if_pos rfl,ht];have hn:(nextM s).p<=L.length:=by show s.p+1<=_; omega
   obtain⟨lo1,lo2⟩:=lo hi;obtain⟨E,I',q⟩:=qOP ok hd hL hn lo1;obtain⟨h1',j1,hc,B⟩:=qQK (A.put (t:=nextM s)) (by omega) E;show vcall Om F86 [] (h.put (.im 0) (rO L (nextM s))) 14 _=_;rw[hc];have q':s.p+2<=(fieldM sub L (nextM s)).2.p:=q;refine qIV ok hd hL x f _ (acc++[(fieldM sub L (nextM s)).1]) h1' j1 I' lo2 (by omega) (by rw[List.length_append]; show acc.length+1+_<=_; omega) ?_;rw[List.length_append,qGL];exact B
theorem qO6{d:Int}{L:List Tok}{sub:RS->TT×RS}{okP:RS->Prop}(ok:SubOK d L sub okP)(hd:0<=d/\d<=100)(hL:L.length<=1000)(x:LB)(s:RS)(h:s.p<=L.length)(ro:rowOK sub okP L x s)(hx:isM 4 L s x=false) :
  Om 66 [P0,kS x,F86] [rO L s,boxO 0,intO d,.cells [.p .nilslice] 0]=some (.tup [],[rO L (rowM sub L x s).2,boxO 0,intO d,.cells [.sref (.im 4) 0 (rowM sub L x s).1.length none 5] 0,.cells (pcells (eRows (rowM sub L x s).1)) 0]):=by
 refine(qAD rfl).trans ?_;show lim tab.get S 66 4 0 [P0,kS x,F86] (Heap.mk [rO L s,boxO 0,intO d,.cells [.p .nilslice] 0] .nil)=_;have A:St0 (Heap.mk [rO L s,boxO 0,intO d,.cells [.p .nilslice] 0] .nil) L s d:=⟨rfl,rfl,rfl,rfl⟩;generalize Heap.mk [rO L s,boxO 0,intO d,.cells [.p .nilslice] 0] .nil=H at A;have ht:takeM 4 L s x=s:=by unfold takeM; rw[hx]; rfl
 obtain⟨ro1,ro2⟩:=ro hx;obtain⟨E,I',q⟩:=qOP ok hd hL h ro1;rw[w66_0,b66_0,u41 (by omega) x A.g0,hx,qCR,ht];obtain⟨h1,j1,hc,B⟩:=qR9 (A.put (t:=s)) E;show vcall Om F86 [] (H.put (.im 0) (rO L s)) 10 _=_;rw[hc];unfold rowM;rw[if_neg (by rw[hx]; decide)];refine qIV ok hd hL x (L.length+2) _ [(fieldM sub L s).1] h1 j1 I' ro2 (by omega) (by show 1+_<=_; omega) ?_;show St1 h1 L _ d 1 (eRow (fieldM sub L s).1.1 (fieldM sub L s).1.2++[]) j1;rw[List.append_nil];exact B
theorem qOg{d:Int}{L:List Tok}{sub:RS->TT×RS}(hL:L.length<=1000)(x:LB)(s:RS)(h:s.p<=L.length)(hx:isM 4 L s x=true) :
  Om 66 [P0,kS x,F86] [rO L s,boxO 0,intO d,.cells [.p .nilslice] 0]=some (.tup [],[rO L (rowM sub L x s).2,boxO 0,intO d,.cells [.p .nilslice] 0]):=by
 refine(qAD rfl).trans ?_;show lim tab.get S 66 4 0 [P0,kS x,F86] (Heap.mk [rO L s,boxO 0,intO d,.cells [.p .nilslice] 0] .nil)=_;have A:St0 (Heap.mk [rO L s,boxO 0,intO d,.cells [.p .nilslice] 0] .nil) L s d:=⟨rfl,rfl,rfl,rfl⟩;generalize Heap.mk [rO L s,boxO 0,intO d,.cells [.p .nilslice] 0] .nil=H at A;have ht:takeM 4 L s x=nextM s:=by unfold takeM; rw[hx]; rfl
 rw[w66_0,b66_0,u41 (by omega) x A.g0,hx,qD5,ht];unfold rowM;rw[if_pos hx];have A2:=A.put (t:=nextM s);generalize H.put (.im 0) (rO L (nextM s))=h at A2;generalize nextM s=t at *;have e:(ims (3+1)).flatMap (λr=>match h.get r with|some o=>o.refs|none=>[])=[.im 0]:=by
  show([.im 0,.im 1,.im 2,.im 3]:List Ref).flatMap _=_;simp only[List.flatMap_cons,List.flatMap_nil,A2.g0,A2.g1,A2.g2,A2.g3];rw[(qAC L t).1];rfl
 refine(qCl 3 h [.im 0,.im 1,.im 2,.im 3] ?_).trans ?_
 ·refine(congrArg (λl=>reach h fuelReach l (ims 4)) e).trans ?_;show reach h (398+1+1) [.im 0] (ims 4)=_;rw[qA1 _ _ _ _ (by decide)];exact qAc _ _
 ·simp only[List.map_cons,List.map_nil,A2.g0,A2.g1,A2.g2,A2.g3,(qAC L t).2];rfl
def cmpM(x y:LB):Int:=if bless x y=true then -1 else if (!(bless x y||x==y))=true then 1 else 0
theorem qAX(x y:LB):decide (cmpM x y<0)=bless x y:=by
 unfold cmpM;cases bless x y
 ·rw[if_neg (by decide)];split <;> rfl
 ·rfl
theorem qTi(x:LB):Om 69 [kS x] []=some (kB false,[]):=by
 refine(qAD rfl).trans ?_;show lim tab.get S 69 0 0 [kS x] h0=_;rw[w69_0,b69_0];simp (maxSteps:=9^7) +contextual only[exa,rA,rB,rC,rD,rE,rF,rG,rH,rI,oneOf]
theorem qIt(x y:LB):Om 46 [kS x,kS y] []=some (kI (cmpM x y),[]):=by
 refine(qAD rfl).trans ?_;show lim tab.get S 46 0 0 [kS x,kS y] h0=_;have c:=λ{β:Type} {k:KO β} {h:Heap} {d:Nat} (x:LB)=>qAH (O:=Om) (k:=k) (h:=h) (d:=d) 69 [kS x] _ rfl (qTi x) rfl
 rw[w46_0,b46_0];unfold cmpM;cases h1:bless x y
 ·cases h2:(x==y)
  ·simp (maxSteps:=9^7) +contextual only[exa,rA,rB,rC,rD,rE,rF,rG,rH,rI,c,h1,h2,oneOf,if_true,if_false,Bool.false_eq_true]
  ·simp (maxSteps:=9^7) +contextual only[exa,rA,rB,rC,rD,rE,rF,rG,rH,rI,c,h1,h2,oneOf,if_true,if_false,Bool.false_eq_true]
 ·simp (maxSteps:=9^7) +contextual only[exa,rA,rB,rC,rD,rE,rF,rG,rH,rI,c,h1,oneOf,if_true]
theorem qAY(v:TT):∃ a1 a2 a3 a4,v.row=[a1,a2,a3,a4]:=by cases v; exact⟨_,_,_,_,rfl⟩
theorem qSu(p q:LB×TT):Om 88 [kA (eRow p.1 p.2),kA (eRow q.1 q.2)] []=some (kI (cmpM p.1 q.1),[]):=by
 refine(qAD rfl).trans ?_;obtain⟨a1,a2,a3,a4,ha⟩:=qAY p.2;obtain⟨b1,b2,b3,b4,hb⟩:=qAY q.2;unfold eRow;rw[ha,hb];show lim tab.get S 88 0 0 [.v (.agg [.p (.str p.1),.p a1,.p a2,.p a3,.p a4]),.v (.agg [.p (.str q.1),.p b1,.p b2,.p b3,.p b4])] h0=_;have c:=λ{β:Type} {k:KO β} {h:Heap} {d:Nat}=>qAH (O:=Om) (k:=k) (h:=h) (d:=d) 46 [kS p.1,kS q.1] _ rfl (qIt p.1 q.1) rfl
 rw[w88_0,b88_0];simp (maxSteps:=9^7) +contextual only[exa,rA,rB,rC,rD,rE,rF,rG,rH,rI,c,oneOf]
theorem qA0(k:LB)(v:TT):(eRow k v).length=5:=by unfold eRow; simp[TT.row_len]
theorem qDz:∀ (l:Es) (i:Nat),(eRows l).drop (i*5)=eRows (l.drop i)
 |l,0=>by simp
 |[],i+1=>by simp[eRows]
 |p::l,i+1=>by
  show(eRow p.1 p.2++eRows l).drop ((i+1)*5)=_;rw[List.drop_append,List.drop_eq_nil_of_le (by rw[qA0]; omega),qA0,List.nil_append,show(i+1)*5 - 5=i*5 by omega,qDz l i];rfl
theorem qDV(l:Es)(i:Nat)(p:LB×TT)(h:l[i]?=some p):((pcells (eRows l)).drop (i*5)).take 5=pcells (eRow p.1 p.2):=by
 have hd:l.drop i=p::l.drop (i+1):=by
  obtain⟨h1,h2⟩:=List.getElem?_eq_some_iff.1 h;rw[List.drop_eq_getElem_cons h1,h2]
 unfold pcells;rw[<- List.map_drop,<- List.map_take,qDz,hd];show((eRow p.1 p.2++eRows (l.drop (i+1))).take 5).map _=_;rw[List.take_append,List.take_of_length_le (by rw[qA0]; omega),qA0,Nat.sub_self,List.take_zero,List.append_nil]
abbrev sE0(n:Nat):TVal:=.v (.c (.sref (.im 0) 0 n none 5))
abbrev F88:TVal:=.v (.c (.func 88 []))
theorem qAh{β:Type}{O:Oracle}{k:KO β}{h:Heap}{d:Nat}(g:FuncId)(r:Ref)(args as':List TVal)(o o':AObj)(v:TVal)(s1:args.map TVal.strip=args)(s2:args.flatMap TVal.refs=[r])(s3:args.map (TVal.ren (inn [r]))=as')(hg:h.get r=some o)(ho:plainO o)(ho':plainO o')(hv:∀ σ,v.ren σ=v)
  (hc:O g as' [o]=some (v,[o'])):vcall O (.v (.c (.func g []))) args h d k=k v (h.put r o'):=by
 have e2:reach h fuelReach (args.flatMap TVal.refs) []=[r]:=by
  rw[s2];show reach h (398+1+1) [r] []=_;rw[qAK _ r [] [] o (by simp) hg,ho.1];exact qAc _ _
 have e3:([r]:List Ref).mapM h.get=some [o]:=by simp only[List.mapM_cons,List.mapM_nil,hg,Option.pure_def,rL,Option.bind_some]
 rw[qDb g args args as' [r] [o] [o] [o'] v s1 e2 e3 s3 (by rw[List.map_cons,ho.2]; rfl) hc (Nat.le_refl _),hv];show k v (h.put r (o'.ren _))=_;rw[ho'.2]
open Go Go.AI
theorem qCp:∀ x:LB,bless x x=false
 |[]=>rfl
 |a::x=>by
  have:=qCp x;simp only[bless] at this ⊢;simp[this]
theorem qDt:∀ x y:LB,bless x y=true->bless y x=false
 |[],[],h=>by simp[bless] at h
 |[],b::y,_=>by simp[bless]
 |a::x,[],h=>by simp[bless] at h
 |a::x,b::y,h=>by
  have ih:=qDt x y;simp only[bless,Bool.or_eq_true,Bool.and_eq_true,decide_eq_true_eq,beq_iff_eq] at h;have e:bless (b::y) (a::x)=(decide (b<a)||(b==a&&bless y x)):=rfl;rw[e]
  rcases h with h|⟨h1,h2⟩
  ·have n1:¬ b<a:=λh'=>by have:=UInt8.lt_iff_toNat_lt.1 h; have:=UInt8.lt_iff_toNat_lt.1 h'; omega
   have n2:¬ b=a:=λh'=>by subst h'; have:=UInt8.lt_iff_toNat_lt.1 h; omega
   simp[n1,n2]
  ·subst h1;have n1:¬ a<a:=λh'=>by have:=UInt8.lt_iff_toNat_lt.1 h'; omega
   simp[n1,ih h2]
theorem qDS:∀ x y:LB,bless x y=false->bless y x=false->x=y
 |[],[],_,_=>rfl
 |[],b::y,h,_=>by simp[bless] at h
 |a::x,[],_,h=>by simp[bless] at h
 |a::x,b::y,h1,h2=>by
  have e1:bless (a::x) (b::y)=(decide (a<b)||(a==b&&bless x y)):=rfl;have e2:bless (b::y) (a::x)=(decide (b<a)||(b==a&&bless y x)):=rfl;rw[e1,Bool.or_eq_false_iff,decide_eq_false_iff_not] at h1;rw[e2,Bool.or_eq_false_iff,decide_eq_false_iff_not] at h2
  have hab:a=b:=UInt8.toNat_inj.1 (by
   have q1:¬ a.toNat<b.toNat:=λh=>h1.1 (UInt8.lt_iff_toNat_lt.2 h)
   have q2:¬ b.toNat<a.toNat:=λh=>h2.1 (UInt8.lt_iff_toNat_lt.2 h)
   omega)
  subst hab;have r1:bless x y=false:=by simpa using h1.2
  have r2:bless y x=false:=by simpa using h2.2
  rw[qDS x y r1 r2]
theorem qEg:∀ x y z:LB,bless y x=false->bless z y=false->bless z x=false
 |[],_,[],_,_=>rfl
 |[],[],c::z,_,h2=>by simp[bless]
 |[],b::y,c::z,_,h2=>by simp[bless]
 |a::x,[],_,h1,_=>by simp[bless] at h1
 |a::x,b::y,[],_,h2=>by simp[bless] at h2
 |a::x,b::y,c::z,h1,h2=>by
  have e1:bless (b::y) (a::x)=(decide (b<a)||(b==a&&bless y x)):=rfl;have e2:bless (c::z) (b::y)=(decide (c<b)||(c==b&&bless z y)):=rfl;have e3:bless (c::z) (a::x)=(decide (c<a)||(c==a&&bless z x)):=rfl;rw[e1,Bool.or_eq_false_iff,decide_eq_false_iff_not] at h1;rw[e2,Bool.or_eq_false_iff,decide_eq_false_iff_not] at h2;rw[e3,Bool.or_eq_false_iff,decide_eq_false_iff_not];have q1:¬ b.toNat<a.toNat:=λh=>h1.1 (UInt8.lt_iff_toNat_lt.2 h)
  have q2:¬ c.toNat<b.toNat:=λh=>h2.1 (UInt8.lt_iff_toNat_lt.2 h)
  refine⟨λh=>by have:=UInt8.lt_iff_toNat_lt.1 h; omega,?_⟩;cases hc:(c==a) with
  |false=>rfl
  |true =>
   have hca:c=a:=by simpa using hc
   subst hca;have hbc:b=c:=UInt8.toNat_inj.1 (by omega);subst hbc;have r1:bless y x=false:=by simpa using h1.2
   have r2:bless z y=false:=by simpa using h2.2
   rw[qEg x y z r1 r2]; rfl
section
variable {α:Type}
def swp(l:List α)(i j:Nat):List α:=match l[i]?,l[j]? with
 |some p,some q=>(l.set i q).set j p
 |_,_=>l
theorem qG7(l:List α)(i j:Nat):(swp l i j).length=l.length:=by
 unfold swp;split <;> simp
theorem qEq(l:List α)(i j:Nat)(p q:α)(hp:l[i]?=some p)(hq:l[j]?=some q):swp l i j=(l.set i q).set j p:=by
 unfold swp; rw[hp,hq]
theorem qBn(A B C:List α)(x y:α):swp (A++x::(B++y::C)) A.length (A.length+1+B.length)=A++y::(B++x::C):=by
 have e1:(A++x::(B++y::C))[A.length]?=some x:=by simp
 have e2:(A++x::(B++y::C))[A.length+1+B.length]?=some y:=by
  rw[List.getElem?_append_right (by omega),show A.length+1+B.length - A.length=B.length+1 by omega,List.getElem?_cons_succ];simp
 rw[qEq _ _ _ x y e1 e2,List.set_append_right _ _ (Nat.le_refl _),Nat.sub_self,List.set_cons_zero,List.set_append_right _ _ (by omega),show A.length+1+B.length - A.length=B.length+1 by omega,List.set_cons_succ,List.set_append_right _ _ (Nat.le_refl _),Nat.sub_self,List.set_cons_zero]
theorem qCd(A B C:List α)(x y:α)(h:swp (A++x::(B++y::C)) A.length (A.length+1+B.length)=A++y::(B++x::C)):swp (A++x::(B++y::C)) (A.length+1+B.length) A.length=A++y::(B++x::C):=by
 have e1:(A++x::(B++y::C))[A.length]?=some x:=by simp
 have e2:(A++x::(B++y::C))[A.length+1+B.length]?=some y:=by
  rw[List.getElem?_append_right (by omega),show A.length+1+B.length - A.length=B.length+1 by omega,List.getElem?_cons_succ];simp
 rw[qEq _ _ _ x y e1 e2] at h;rw[qEq _ _ _ y x e2 e1,<- h];exact List.set_comm _ _ (by omega)
def swR:Nat->Nat->Nat->List α->List α
 |0,_,_,l=>l
 |n+1,a,b,l=>swR n (a+1) (b+1) (swp l a b)
theorem qBo:∀ (X Y A M C:List α),X.length=Y.length->swR X.length A.length (A.length+X.length+M.length) (A++X++M++Y++C)=A++Y++M++X++C
 |[],[],A,M,C,h=>by simp[swR]
 |[],y::Y,A,M,C,h=>by simp at h
 |x::X,[],A,M,C,h=>by simp at h
 |x::X,y::Y,A,M,C,h=>by
  have h':X.length=Y.length:=by simpa using h
  have e:A++(x::X)++M++(y::Y)++C=A++x::((X++M)++y::(Y++C)):=by simp
  have s:=qBn A (X++M) (Y++C) x y;have ih:=qBo X Y (A++[y]) (M++[x]) C h';rw[List.length_cons,swR,e,show A.length+(X.length+1)+M.length=A.length+1+(X++M).length by simp; omega,s];have e2:A++y::(X++M++x::(Y++C))=(A++[y])++X++(M++[x])++Y++C:=by simp
  have e3:A++(y::Y)++M++(x::X)++C=(A++[y])++Y++(M++[x])++X++C:=by simp
  rw[e2,e3,<- ih]
  congr 1
  ·simp
  ·simp; omega
variable (lt:α->α->Bool)
abbrev Ord(l:List α):Prop:=l.Pairwise λp q=>lt q p=false
variable (asy:∀ p q,lt p q=true->lt q p=false) (ntr:∀ p q r,lt q p=false->lt r q=false->lt r p=false)
include ntr
theorem qD1(irr:∀ p,lt p p=false)(l:List α)(o:Ord lt l)(p:α)(h:l.getLast?=some p):∀ x∈l,lt p x=false:=by
 obtain⟨A,rfl⟩:=List.getLast?_eq_some_iff.1 h;intro x hx
 rcases List.mem_append.1 hx with hx|hx
 ·exact(List.pairwise_append.1 o).2.2 x hx p (by simp)
 ·rw[List.mem_singleton.1 hx]; exact irr p
theorem qPm(irr:∀ p,lt p p=false)(l:List α)(o:Ord lt l)(p:α)(h:l.head?=some p):∀ x∈l,lt x p=false:=by
 cases l with
 |nil=>cases h
 |cons q l =>
  cases h;intro x hx
  rcases List.mem_cons.1 hx with rfl|hx
  ·exact irr _
  ·exact(List.pairwise_cons.1 o).1 x hx
theorem qTu(irr:∀ p,lt p p=false)(X1 X2 Y1 Y2:List α)(oX:Ord lt (X1++X2))(oY:Ord lt (Y1++Y2))
  (h1:∀ p q,X1.getLast?=some p->Y2.head?=some q->lt q p=false) (h2:∀ p q,Y1.getLast?=some p->X2.head?=some q->lt q p=false) :
  ∀ x∈X1++Y1,∀ y∈X2++Y2,lt y x=false:=by
 have oX:=List.pairwise_append.1 oX;have oY:=List.pairwise_append.1 oY;have two:∀ (A B:List α),Ord lt A->Ord lt B->(∀ p q,A.getLast?=some p->B.head?=some q->lt q p=false)->∀ x∈A,∀ y∈B,lt y x=false:=by
  intro A B oA oB h x hx y hy;obtain⟨p,hp⟩:∃ p,A.getLast?=some p:=by
   cases hA:A.getLast? with
   |none=>rw[List.getLast?_eq_none_iff.1 hA] at hx; cases hx
   |some p=>exact⟨p,rfl⟩
  obtain⟨q,hq⟩:∃ q,B.head?=some q:=by
   cases B with
   |nil=>cases hy
   |cons q B=>exact⟨q,rfl⟩
  exact ntr _ _ _ (ntr _ _ _ (qD1 lt ntr irr A oA p hp x hx) (h p q hp hq)) (qPm lt ntr irr B oB q hq y hy)
 intro x hx y hy
 rcases List.mem_append.1 hx with hx|hx <;> rcases List.mem_append.1 hy with hy|hy
 ·exact oX.2.2 x hx y hy
 ·exact two X1 Y2 oX.1 oY.2.1 h1 x hx y hy
 ·exact two Y1 X2 oY.1 oX.2.1 h2 x hx y hy
 ·exact oY.2.2 x hx y hy
omit ntr
structure Mrg (X Y Z:List α):Prop where
 ord:Ord lt Z
 prm:Z.Perm (X++Y)
theorem Mrg.len{X Y Z:List α}(m:Mrg lt X Y Z):Z.length=X.length+Y.length:=by rw[m.prm.length_eq,List.length_append]
theorem qFB(Y:List α)(o:Ord lt Y):Mrg lt [] Y Y:=⟨o,.refl _⟩
theorem qFL(X:List α)(o:Ord lt X):Mrg lt X [] X:=⟨o,by rw[List.append_nil]⟩
include ntr
theorem qK6(irr:∀ p,lt p p=false)(X1 X2 Y1 Y2 Z1 Z2:List α)(oX:Ord lt (X1++X2))(oY:Ord lt (Y1++Y2))
  (h1:∀ p q,X1.getLast?=some p->Y2.head?=some q->lt q p=false) (h2:∀ p q,Y1.getLast?=some p->X2.head?=some q->lt q p=false)
  (m1:Mrg lt X1 Y1 Z1) (m2:Mrg lt X2 Y2 Z2):Mrg lt (X1++X2) (Y1++Y2) (Z1++Z2):=by
 refine⟨List.pairwise_append.2 ⟨m1.ord,m2.ord,λx hx y hy=>qTu lt ntr irr X1 X2 Y1 Y2 oX oY h1 h2 x (m1.prm.mem_iff.1 hx) y (m2.prm.mem_iff.1 hy)⟩,?_⟩;refine(m1.prm.append m2.prm).trans ?_;have e1:X1++Y1++(X2++Y2)=X1++(Y1++X2++Y2):=by simp
 have e2:X1++X2++(Y1++Y2)=X1++(X2++Y1++Y2):=by simp
 rw[e1,e2];exact List.Perm.append_left _ (List.Perm.append_right _ List.perm_append_comm)
include asy
theorem qLs(x:α)(Y1 Y2:List α)(oY:Ord lt (Y1++Y2))(h1:∀ y∈Y1,lt y x=true)(h2:∀ y∈Y2,lt y x=false):Mrg lt [x] (Y1++Y2) (Y1++x::Y2):=by
 have o:=List.pairwise_append.1 oY;refine⟨List.pairwise_append.2 ⟨o.1,List.pairwise_cons.2 ⟨h2,o.2.1⟩,λy hy z hz=>?_⟩,List.perm_middle⟩
 rcases List.mem_cons.1 hz with rfl|hz
 ·exact asy _ _ (h1 y hy)
 ·exact o.2.2 y hy z hz
theorem qFF(y:α)(X1 X2:List α)(oX:Ord lt (X1++X2))(h1:∀ x∈X1,lt y x=false)(h2:∀ x∈X2,lt y x=true):Mrg lt (X1++X2) [y] (X1++y::X2):=by
 have o:=List.pairwise_append.1 oX;refine⟨List.pairwise_append.2 ⟨o.1,List.pairwise_cons.2 ⟨λx hx=>asy _ _ (h2 x hx),o.2.1⟩,λx hx z hz=>?_⟩,?_⟩
 ·rcases List.mem_cons.1 hz with rfl|hz
  ·exact h1 x hx
  ·exact o.2.2 x hx z hz
 ·exact List.perm_middle.trans (List.perm_append_comm (l₁:=[y]) (l₂:=X1++X2))
end
class SK (α:Type) where
 z:Nat
 row:α->List PVal
 hrow:∀ a,(row a).length=z
 key:α->LB
 F:Nat
 fI:Nat
 fM:Nat
 fR:Nat
 fS:Nat
 fT:Nat
 fE:Nat
 cmp:∀ p q,Om F [kA (row p),kA (row q)] []=some (kI (cmpM (key p) (key q)),[])
 nI:∀ a o,S fI a o=none
 nM:∀ a o,S fM a o=none
 nR:∀ a o,S fR a o=none
 nS:∀ a o,S fS a o=none
 nT:∀ a o,S fT a o=none
 nE:∀ a o,S fE a o=none
 wI_0:∀ (q:Nat) (x0 x1 x2 x3:TVal) (h:Heap),lim tab.get S fI q 0 [x0,x1,x2,x3] h=gI_0 z fI fM fR fS fT Om (lim tab.get S fI q) q x0 x1 x2 x3 h
 wI_1:∀ (q:Nat) (x0 x1 x2 x3 x4:TVal) (h:Heap),lim tab.get S fI q 1 [x0,x1,x2,x3,x4] h=gI_1 z fI fM fR fS fT Om (lim tab.get S fI q) q x0 x1 x2 x3 x4 h
 wI_2:∀ (q:Nat) (x0 x1 x2 x3 x4 x5:TVal) (h:Heap),lim tab.get S fI q 2 [x0,x1,x2,x3,x4,x5] h=gI_2 z fI fM fR fS fT Om (lim tab.get S fI q) q x0 x1 x2 x3 x4 x5 h
 wI_3:∀ (q:Nat) (x0 x1 x2 x3 x4:TVal) (h:Heap),lim tab.get S fI q 3 [x0,x1,x2,x3,x4] h=gI_3 z fI fM fR fS fT Om (lim tab.get S fI q) q x0 x1 x2 x3 x4 h
 wM_0:∀ (q:Nat) (x0 x1 x2 x3 x4:TVal) (h:Heap),lim tab.get S fM q 0 [x0,x1,x2,x3,x4] h=gM_0 z fI fM fR fS fT Om (lim tab.get S fM q) q x0 x1 x2 x3 x4 h
 wM_1:∀ (q:Nat) (x0 x1 x2 x3 x4:TVal) (h:Heap),lim tab.get S fM q 1 [x0,x1,x2,x3,x4] h=gM_1 z fI fM fR fS fT Om (lim tab.get S fM q) q x0 x1 x2 x3 x4 h
 wM_2:∀ (q:Nat) (x0 x1 x2:TVal) (h:Heap),lim tab.get S fM q 2 [x0,x1,x2] h=gM_2 z fI fM fR fS fT Om (lim tab.get S fM q) q x0 x1 x2 h
 wM_3:∀ (q:Nat) (x0 x1 x2:TVal) (h:Heap),lim tab.get S fM q 3 [x0,x1,x2] h=gM_3 z fI fM fR fS fT Om (lim tab.get S fM q) q x0 x1 x2 h
 wM_4:∀ (q:Nat) (h:Heap),lim tab.get S fM q 4 [] h=gM_4 z fI fM fR fS fT Om (lim tab.get S fM q) q h
 wM_5:∀ (q:Nat) (x0 x1 x2 x3 x4:TVal) (h:Heap),lim tab.get S fM q 5 [x0,x1,x2,x3,x4] h=gM_5 z fI fM fR fS fT Om (lim tab.get S fM q) q x0 x1 x2 x3 x4 h
 wM_6:∀ (q:Nat) (x0 x1 x2 x3 x4:TVal) (h:Heap),lim tab.get S fM q 6 [x0,x1,x2,x3,x4] h=gM_6 z fI fM fR fS fT Om (lim tab.get S fM q) q x0 x1 x2 x3 x4 h
 wM_7:∀ (q:Nat) (x0 x1 x2:TVal) (h:Heap),lim tab.get S fM q 7 [x0,x1,x2] h=gM_7 z fI fM fR fS fT Om (lim tab.get S fM q) q x0 x1 x2 h
 wM_8:∀ (q:Nat) (x0 x1 x2:TVal) (h:Heap),lim tab.get S fM q 8 [x0,x1,x2] h=gM_8 z fI fM fR fS fT Om (lim tab.get S fM q) q x0 x1 x2 h
 wM_9:∀ (q:Nat) (h:Heap),lim tab.get S fM q 9 [] h=gM_9 z fI fM fR fS fT Om (lim tab.get S fM q) q h
 wM_10:∀ (q:Nat) (x0 x1 x2 x3 x4:TVal) (h:Heap),lim tab.get S fM q 10 [x0,x1,x2,x3,x4] h=gM_10 z fI fM fR fS fT Om (lim tab.get S fM q) q x0 x1 x2 x3 x4 h
 wM_11:∀ (q:Nat) (x0 x1 x2 x3 x4 x5 x6 x7 x8:TVal) (h:Heap),lim tab.get S fM q 11 [x0,x1,x2,x3,x4,x5,x6,x7,x8] h=gM_11 z fI fM fR fS fT Om (lim tab.get S fM q) q x0 x1 x2 x3 x4 x5 x6 x7 x8 h
 wM_12:∀ (q:Nat) (x0 x1 x2 x3 x4 x5 x6 x7 x8 x9:TVal) (h:Heap),lim tab.get S fM q 12 [x0,x1,x2,x3,x4,x5,x6,x7,x8,x9] h=gM_12 z fI fM fR fS fT Om (lim tab.get S fM q) q x0 x1 x2 x3 x4 x5 x6 x7 x8 x9 h
 wM_13:∀ (q:Nat) (x0 x1 x2 x3 x4 x5 x6 x7:TVal) (h:Heap),lim tab.get S fM q 13 [x0,x1,x2,x3,x4,x5,x6,x7] h=gM_13 z fI fM fR fS fT Om (lim tab.get S fM q) q x0 x1 x2 x3 x4 x5 x6 x7 h
 wM_14:∀ (q:Nat) (x0 x1 x2 x3 x4 x5 x6:TVal) (h:Heap),lim tab.get S fM q 14 [x0,x1,x2,x3,x4,x5,x6] h=gM_14 z fI fM fR fS fT Om (lim tab.get S fM q) q x0 x1 x2 x3 x4 x5 x6 h
 wM_15:∀ (q:Nat) (x0 x1 x2 x3 x4:TVal) (h:Heap),lim tab.get S fM q 15 [x0,x1,x2,x3,x4] h=gM_15 z fI fM fR fS fT Om (lim tab.get S fM q) q x0 x1 x2 x3 x4 h
 wR_0:∀ (q:Nat) (x0 x1 x2 x3 x4:TVal) (h:Heap),lim tab.get S fR q 0 [x0,x1,x2,x3,x4] h=gR_0 z fI fM fR fS fT Om (lim tab.get S fR q) q x0 x1 x2 x3 x4 h
 wR_1:∀ (q:Nat) (x0 x1 x2 x3 x4:TVal) (h:Heap),lim tab.get S fR q 1 [x0,x1,x2,x3,x4] h=gR_1 z fI fM fR fS fT Om (lim tab.get S fR q) q x0 x1 x2 x3 x4 h
 wR_2:∀ (q:Nat) (x0 x1 x2 x3:TVal) (h:Heap),lim tab.get S fR q 2 [x0,x1,x2,x3] h=gR_2 z fI fM fR fS fT Om (lim tab.get S fR q) q x0 x1 x2 x3 h
 wS_0:∀ (q:Nat) (x0 x1 x2 x3 x4:TVal) (h:Heap),lim tab.get S fS q 0 [x0,x1,x2,x3,x4] h=gS_0 z fI fM fR fS fT Om (lim tab.get S fS q) q x0 x1 x2 x3 x4 h
 wS_1:∀ (q:Nat) (x0 x1 x2 x3 x4:TVal) (h:Heap),lim tab.get S fS q 1 [x0,x1,x2,x3,x4] h=gS_1 z fI fM fR fS fT Om (lim tab.get S fS q) q x0 x1 x2 x3 x4 h
 wT_0:∀ (q:Nat) (x0 x1 x2:TVal) (h:Heap),lim tab.get S fT q 0 [x0,x1,x2] h=gT_0 z fI fM fR fS fT Om (lim tab.get S fT q) q x0 x1 x2 h
 wT_1:∀ (q:Nat) (x0 x1 x2 x3 x4 x5:TVal) (h:Heap),lim tab.get S fT q 1 [x0,x1,x2,x3,x4,x5] h=gT_1 z fI fM fR fS fT Om (lim tab.get S fT q) q x0 x1 x2 x3 x4 x5 h
 wT_2:∀ (q:Nat) (x0 x1 x2 x3 x4:TVal) (h:Heap),lim tab.get S fT q 2 [x0,x1,x2,x3,x4] h=gT_2 z fI fM fR fS fT Om (lim tab.get S fT q) q x0 x1 x2 x3 x4 h
 wT_3:∀ (q:Nat) (x0 x1 x2 x3:TVal) (h:Heap),lim tab.get S fT q 3 [x0,x1,x2,x3] h=gT_3 z fI fM fR fS fT Om (lim tab.get S fT q) q x0 x1 x2 x3 h
 wT_4:∀ (q:Nat) (x0 x1 x2 x3 x4 x5:TVal) (h:Heap),lim tab.get S fT q 4 [x0,x1,x2,x3,x4,x5] h=gT_4 z fI fM fR fS fT Om (lim tab.get S fT q) q x0 x1 x2 x3 x4 x5 h
 wT_5:∀ (q:Nat) (x0 x1 x2 x3 x4:TVal) (h:Heap),lim tab.get S fT q 5 [x0,x1,x2,x3,x4] h=gT_5 z fI fM fR fS fT Om (lim tab.get S fT q) q x0 x1 x2 x3 x4 h
 wT_6:∀ (q:Nat) (x0 x1 x2 x3:TVal) (h:Heap),lim tab.get S fT q 6 [x0,x1,x2,x3] h=gT_6 z fI fM fR fS fT Om (lim tab.get S fT q) q x0 x1 x2 x3 h
 wE_0:∀ (q:Nat) (x0 x1:TVal) (h:Heap),lim tab.get S fE q 0 [x0,x1] h=gE_0 z fI fM fR fS fT Om (lim tab.get S fE q) q x0 x1 h
section
variable {α:Type}
abbrev fF(K:SK α):TVal:=.v (.c (.func K.F []))
abbrev sK(K:SK α)(n:Nat):TVal:=.v (.c (.sref (.im 0) 0 n none K.z))
def rws(K:SK α)(l:List α):List PVal:=l.flatMap K.row
def ltK(K:SK α)(p q:α):Bool:=bless (K.key p) (K.key q)
theorem qUF(K:SK α)(p:α):ltK K p p=false:=qCp _
theorem qT8(K:SK α)(p q:α)(h:ltK K p q=true):ltK K q p=false:=qDt _ _ h
theorem qT6(K:SK α)(p q r:α)(h1:ltK K q p=false)(h2:ltK K r q=false):ltK K r p=false:=qEg (K.key p) (K.key q) (K.key r) h1 h2
end
section
variable {α:Type} [K:SK α]
theorem qT9{β:Type}{k:KO β}{h:Heap}{d:Nat}(p q:α):vcall Om (fF K) [.v (.agg (pcells (K.row p))),.v (.agg (pcells (K.row q)))] h d k=k (kI (cmpM (K.key p) (K.key q))) h:=qAH K.F _ _ (by simp only[exP]) (K.cmp p q) rfl
theorem qUC:∀ l:List α,(rws K l).length=l.length*K.z
 |[]=>by simp[rws]
 |p::l=>by
  have:=qUC l;show(K.row p++rws K l).length=_;rw[List.length_append,K.hrow,this,List.length_cons,Nat.succ_mul,Nat.add_comm]
theorem qUA:∀ (l:List α) (i:Nat),(rws K l).drop (i*K.z)=rws K (l.drop i)
 |l,0=>by simp
 |[],i+1=>by simp[rws]
 |p::l,i+1=>by
  show(K.row p++rws K l).drop ((i+1)*K.z)=_;rw[List.drop_append,List.drop_eq_nil_of_le (by rw[K.hrow,Nat.succ_mul]; omega),K.hrow,List.nil_append,Nat.succ_mul,Nat.add_sub_cancel,qUA l i];rfl
theorem qUD:∀ (l:List α) (i:Nat),(rws K l).take (i*K.z)=rws K (l.take i)
 |l,0=>by simp[rws]
 |[],i+1=>by simp[rws]
 |p::l,i+1=>by
  show(K.row p++rws K l).take ((i+1)*K.z)=_;rw[List.take_append,List.take_of_length_le (by rw[K.hrow,Nat.succ_mul]; omega),K.hrow,Nat.succ_mul,Nat.add_sub_cancel,qUD l i];rfl
theorem qUI(a b:List α):rws K (a++b)=rws K a++rws K b:=by unfold rws; rw[List.flatMap_append]
theorem qUG(n:Nat)(l:List α)(hl:l.length=n)(i:Nat)(hi:i<n):i*K.z+K.z<=(rws K l).length:=by
 rw[qUC,hl];have:=Nat.mul_le_mul_right K.z hi;rw[Nat.succ_mul] at this;exact this
end
section
variable {α:Type}
theorem qUH(K:SK α)(l:List α)(i:Nat)(p:α)(h:l[i]?=some p):((pcells (rws K l)).drop (i*K.z)).take K.z=pcells (K.row p):=by
 have hd:l.drop i=p::l.drop (i+1):=by
  obtain⟨h1,h2⟩:=List.getElem?_eq_some_iff.1 h;rw[List.drop_eq_getElem_cons h1,h2]
 unfold pcells;rw[<- List.map_drop,<- List.map_take,qUA,hd];show((K.row p++rws K (l.drop (i+1))).take K.z).map _=_;rw[List.take_append,List.take_of_length_le (by rw[K.hrow]; omega),K.hrow,Nat.sub_self,List.take_zero,List.append_nil]
theorem qUE(K:SK α)(l:List α)(i:Nat)(p:α)(h:i<l.length):put1 (pcells (rws K l)) (i*K.z) (pcells (K.row p))=pcells (rws K (l.set i p)):=by
 unfold put1 splice pcells;have ll:(List.map Cell.p (K.row p)).length=K.z:=by rw[List.length_map,K.hrow]
 rw[ll,<- List.map_take,<- List.map_drop,qUD,show i*K.z+K.z=(i+1)*K.z by rw[Nat.succ_mul],qUA,<- List.map_append,<- List.map_append]
 congr 1
 have hs:l.set i p=l.take i++p::l.drop (i+1):=by
  rw[List.set_eq_take_append_cons_drop,if_pos h]
 rw[hs,qUI];show _=rws K (l.take i)++(K.row p++rws K (l.drop (i+1)));rw[List.append_assoc]
end
theorem vsh1{β:Type}{h:Heap}{k:KO β}(a:Int):vbin .shr 0 (kN .u64 a) (kN .u64 1) h k=k (kN .u64 (a / 2)) h:=qDc _ _ _ _ _ (by
 show some (Cell.p (.int .u64 (a.fdiv (2 ^ (min ((1:Int).toNat) 64)))))=_
 rw[show(2:Int) ^ (min ((1:Int).toNat) 64)=2 by decide,Int.fdiv_eq_ediv_of_nonneg _ (by decide)])
theorem qBF{β:Type}{h:Heap}{k:KO β}(i j:Nat)(hi:i<=10000)(hj:j<=10000) :
  (vbin .add 0 (kI (i:Int)) (kI (j:Int)) h λx36 h=>vtoInt .u64 x36 h λx37 h=>vbin .shr 0 x37 (.v (.c (.p (.int .u64 1)))) h λx38 h=>vtoInt .i64 x38 h k)=k (kI (((i+j) / 2:Nat):Int)) h:=by
 have e1:IntKind.i64.wrap ((i:Int)+(j:Int))=((i+j:Nat):Int):=by rw[qAL _ (by omega) (by omega)]; omega
 have e2:IntKind.u64.wrap ((i+j:Nat):Int)=((i+j:Nat):Int):=qCc _ (by omega) (by omega);have e3:IntKind.i64.wrap (((i+j:Nat):Int) / 2)=(((i+j) / 2:Nat):Int):=by rw[qAL _ (by omega) (by omega)]; omega
 rw[qAZ,e1,qCA,e2,vsh1,qCA,e3]
abbrev wAdd(i j:Nat):Prop:=IntKind.i64.wrap ((i:Int)+(j:Int))=((i+j:Nat):Int)
theorem qAl(i j:Nat)(hi:i<=100000)(hj:j<=100000):wAdd i j:=by unfold wAdd; rw[qAL _ (by omega) (by omega)]; omega
theorem qAW(i j:Nat)(hi:i<=100000)(hj:j<=i):IntKind.i64.wrap ((i:Int) - (j:Int))=((i - j:Nat):Int):=by rw[qAL _ (by omega) (by omega)]; omega
theorem qAq(i:Nat)(hi:i<=100000):IntKind.i64.wrap ((i:Int)+1)=((i+1:Nat):Int):=by rw[qAL _ (by omega) (by omega)]; omega
theorem qBY(i:Nat)(hi:i<=100000)(h1:1<=i):IntKind.i64.wrap ((i:Int) - 1)=((i - 1:Nat):Int):=by rw[qAL _ (by omega) (by omega)]; omega
theorem qFD(i:Nat)(hi:i<=100000):IntKind.i64.wrap (2*(i:Int))=((2*i:Nat):Int):=by rw[qAL _ (by omega) (by omega)]; omega
theorem qIS(i:Nat)(hi:i<=100000):IntKind.i64.wrap ((i:Int)*2)=((2*i:Nat):Int):=by rw[qAL _ (by omega) (by omega)]; omega
section
variable {α:Type} [K:SK α]
abbrev RDE(K:SK α)(l:List α):AObj:=.cells (pcells (rws K l)) 0
abbrev hpE(K:SK α)(l:List α):Heap:=Heap.mk [RDE K l] .nil
structure AtE (K:SK α) (n:Nat) (l:List α) (i:Nat) (p:α):Prop where
 get:l[i]?=some p
 lt:i<n
 le:(0:Int)<=((i:Nat):Int)
 row:((pcells (rws K l)).drop (i*K.z)).take K.z=pcells (K.row p)
 len:(pcells (K.row p)).length=K.z
 fit:i*K.z+K.z<=(rws K l).length
theorem atE(n:Nat)(l:List α)(hl:l.length=n)(i:Nat)(hi:i<n):∃ p,AtE K n l i p:=by
 have hp:l[i]?=some (l[i]'(by omega)):=List.getElem?_eq_getElem (by omega);exact⟨_,hp,hi,by omega,qUH K l i _ hp,by rw[qAN,K.hrow],qUG n l hl i hi⟩
theorem qCH{n:Nat}{l:List α}(hl:l.length=n){i j:Nat}{p q:α}(A:AtE K n l i p)(B:AtE K n l j q) :
  put1 (pcells (rws K l)) (i*K.z) (pcells (K.row q))=pcells (rws K (l.set i q))/\put1 (pcells (rws K (l.set i q))) (j*K.z) (pcells (K.row p))=pcells (rws K (swp l i j))/\j*K.z+K.z<=(rws K (l.set i q)).length:=by
 have a:=A.lt;have b:=B.lt;refine⟨qUE K l i q (by omega),?_,qUG n _ (by rw[List.length_set]; exact hl) j b⟩;rw[qEq l i j p q A.get B.get];exact qUE K (l.set i q) j p (by rw[List.length_set]; omega)
theorem qIf(n:Nat)(hn:n<=1000)(a b N:Nat)(hab:a+N<=b)(hb:b+N<=n):∀ (m i:Nat) (l:List α) (h:Heap),i+m=N->l.length=n->h.get (.im 0)=some (RDE K l) ->
  lim tab.get S K.fS 1 1 [sK K n,kI (a:Int),kI (b:Int),kI (N:Int),kI (i:Int)] h=some (.tup [],[RDE K (swR m (a+i) (b+i) l)])
 |0,i,l,h,hi,hl,hg=>by
  have t:¬ (i:Int)<(N:Int):=by omega
  have fin:=qAP true [] _ rfl hg (qAB (rws K l) 0);rw[K.wS_1,gS_1];simp (maxSteps:=9^7) +contextual only[exa,rA,rB,rC,rD,rE,rF,rG,rH,rI,t,fin,swR,if_false,oneOf]
 |m+1,i,l,h,hi,hl,hg=>by
  have t:(i:Int)<(N:Int):=by omega
  obtain⟨p,A⟩:=atE n l hl (a+i) (by omega);obtain⟨q,B⟩:=atE n l hl (b+i) (by omega);obtain⟨s1,s2,s3⟩:=qCH hl A B;have hgp:(h.put (.im 0) (RDE K (l.set (a+i) q))).get (.im 0)=some (RDE K (l.set (a+i) q)):=Heap.zput_self hg (λe=>by cases e);have hg2:((h.put (.im 0) (RDE K (l.set (a+i) q))).put (.im 0) (RDE K (swp l (a+i) (b+i)))).get (.im 0)=some (RDE K (swp l (a+i) (b+i))):=Heap.zput_self hgp (λe=>by cases e);have ih:=qIf n hn a b N hab hb m (i+1) _ _ (by omega) (by rw[qG7,hl]) hg2;rw[swR];refine Eq.trans ?_ ih;have e1:IntKind.i64.wrap ((a:Int)+(i:Int))=((a+i:Nat):Int):=qAl a i (by omega) (by omega);have e2:IntKind.i64.wrap ((b:Int)+(i:Int))=((b+i:Nat):Int):=qAl b i (by omega) (by omega);have e3:=qAq i (by omega);rw[K.wS_1,gS_1];simp (maxSteps:=9^7) +contextual only[exa,rA,rB,rC,rD,rE,rF,rG,rH,rI,exW,exY,t,e1,e2,e3,A.lt,A.le,A.row,A.len,A.fit,B.lt,B.le,B.row,B.len,Int.toNat_natCast,hg,s1,s2,s3,hgp,Nat.zero_le,if_false]
theorem qS2(n:Nat)(hn:n<=1000)(a b N:Nat)(hab:a+N<=b)(hb:b+N<=n)(l:List α)(hl:l.length=n):Om K.fS [sK K n,kI (a:Int),kI (b:Int),kI (N:Int),(fF K)] [RDE K l]=some (.tup [],[RDE K (swR N a b l)]):=by
 refine(qAD (K.nS _ _)).trans ?_;show lim tab.get S K.fS 1 0 [sK K n,kI (a:Int),kI (b:Int),kI (N:Int),(fF K)] (hpE K l)=_;rw[K.wS_0,gS_0];exact qIf n hn a b N hab hb N 0 l _ (by omega) hl rfl
theorem qQP{β:Type}{k:KO β}{h:Heap}{d:Nat}(n:Nat)(hn:n<=1000)(a b N:Nat)(hab:a+N<=b)(hb:b+N<=n)(l:List α)(hl:l.length=n)(hg:h.get (.im 0)=some (RDE K l)):vcall Om (.v (.c (.func K.fS []))) [sK K n,kI (a:Int),kI (b:Int),kI (N:Int),(fF K)] h d k=k (.tup []) (h.put (.im 0) (RDE K (swR N a b l))) :=
 qAh K.fS (.im 0) [sK K n,kI (a:Int),kI (b:Int),kI (N:Int),(fF K)] _ _ _ _ rfl rfl rfl hg (qAB _ 0) (qAB _ 0) (λ_=>rfl) (qS2 n hn a b N hab hb l hl)
theorem qFk(n:Nat)(hn:n<=1000):∀ (f:Nat) (P Q A C:List α) (h:Heap),P.length+Q.length<=f->1<=P.length->1<=Q.length->(A++P++Q++C).length=n->h.get (.im 0)=some (RDE K (A++P++Q++C)) ->
  lim tab.get S K.fR 1 1 [sK K n,kI ((A.length+P.length:Nat):Int),(fF K),kI (P.length:Int),kI (Q.length:Int)] h=some (.tup [],[RDE K (A++Q++P++C)])
 |0,P,Q,A,C,h,hf,hP,hQ,hl,hg=>by omega
 |f+1,P,Q,A,C,h,hf,hP,hQ,hl,hg=>by
  have hl':A.length+P.length+Q.length+C.length=n:=by rw[<- hl]; simp only[List.length_append]
  by_cases he:P.length=Q.length
  ·have t:¬ ((P.length:Int)≠(Q.length:Int)):=by omega
   have e1:IntKind.i64.wrap (((A.length+P.length:Nat):Int) - (P.length:Int))=((A.length:Nat):Int):=by rw[qAW _ _ (by omega) (by omega)]; congr 1; omega
   have sw:=qBo P Q A [] C he;simp only[List.append_nil,List.length_nil,Nat.add_zero] at sw;have c:=λ{β:Type} {k:KO β} {d:Nat}=>qQP (k:=k) (d:=d) n hn A.length (A.length+P.length) P.length (Nat.le_refl _) (by omega) _ hl hg
   rw[sw] at c;have fin:=qAP true [] _ rfl (Heap.zput_self (o:=RDE K (A++Q++P++C)) hg (λe=>by cases e)) (qAB _ 0);rw[K.wR_1,gR_1];simp (maxSteps:=9^7) +contextual only[exa,rA,rB,rC,rD,rE,rF,rG,rH,rI,he,if_false];rw[K.wR_2,gR_2];rw[he] at e1 c;simp (maxSteps:=9^7) +contextual only[exa,rA,rB,rC,rD,rE,rF,rG,rH,rI,e1,he,c,fin,if_false,oneOf]
  ·have t:((P.length:Int)≠(Q.length:Int)):=by omega
   have t':¬ ((P.length:Int)=(Q.length:Int)):=by omega
   by_cases hlt:Q.length<P.length
   ·have t2:(Q.length:Int)<(P.length:Int):=by omega
    obtain⟨P1,P2,rfl,h1⟩:∃ P1 P2,P=P1++P2/\P1.length=Q.length:=⟨P.take Q.length,P.drop Q.length,(List.take_append_drop _ _).symm,by simp; omega⟩;rw[List.length_append] at hf hP hl' he t t' hlt t2 ⊢;have hsw:=qBo P1 Q A P2 C h1;have ea:A++(P1++P2)++Q++C=A++P1++P2++Q++C:=by simp
    have eb:A++Q++P2++P1++C=(A++Q)++P2++P1++C:=by simp
    have e1:IntKind.i64.wrap (((A.length+(P1.length+P2.length):Nat):Int) - ((P1.length+P2.length:Nat):Int))=((A.length:Nat):Int):=by rw[qAW _ _ (by omega) (by omega)]; congr 1; omega
    have e2:IntKind.i64.wrap (((P1.length+P2.length:Nat):Int) - (Q.length:Int))=((P2.length:Nat):Int):=by rw[qAW _ _ (by omega) (by omega)]; congr 1; omega
    have c:=λ{β:Type} {k:KO β} {d:Nat}=>qQP (k:=k) (d:=d) n hn A.length (A.length+(P1.length+P2.length)) Q.length (by omega) (by omega) _ hl hg
    rw[ea,show A.length+(P1.length+P2.length)=A.length+P1.length+P2.length by omega,<- h1,hsw] at c;rw[ea] at hg hl;have hg2:(h.put (.im 0) (RDE K (A++Q++P2++P1++C))).get (.im 0)=some (RDE K ((A++Q)++P2++P1++C)):=Heap.zput_self hg (λe=>by cases e);have ih:=qFk n hn f P2 P1 (A++Q) C _ (by omega) (by omega) (by omega) (by simp only[List.length_append]; omega) hg2;have er:A++Q++P1++P2++C=A++Q++(P1++P2)++C:=by simp
    rw[er] at ih;refine Eq.trans ?_ ih;have em:(A++Q).length+P2.length=A.length+(P1.length+P2.length):=by simp; omega
    rw[em,K.wR_1,gR_1];rw[show A.length+P1.length+P2.length=A.length+(P1.length+P2.length) by omega] at c;rw[h1] at *;simp (maxSteps:=9^7) +contextual only[exa,rA,rB,rC,rD,rE,rF,rG,rH,rI,t,t',t2,e1,e2,c,if_false]
   ·have t2:¬ (Q.length:Int)<(P.length:Int):=by omega
    obtain⟨Q1,Q2,rfl,h1⟩:∃ Q1 Q2,Q=Q1++Q2/\Q2.length=P.length:=⟨Q.take (Q.length - P.length),Q.drop (Q.length - P.length),(List.take_append_drop _ _).symm,by simp; omega⟩;rw[List.length_append] at hf hQ hl' he t t' hlt t2 ⊢;have hsw:=qBo P Q2 A Q1 C h1.symm;have ea:A++P++(Q1++Q2)++C=A++P++Q1++Q2++C:=by simp
    have e1:IntKind.i64.wrap (((A.length+P.length:Nat):Int) - (P.length:Int))=((A.length:Nat):Int):=by rw[qAW _ _ (by omega) (by omega)]; congr 1; omega
    have e2:IntKind.i64.wrap (((A.length+P.length:Nat):Int)+((Q1.length+Q2.length:Nat):Int))=((A.length+P.length+(Q1.length+Q2.length):Nat):Int):=qAl _ _ (by omega) (by omega);have e3:IntKind.i64.wrap (((A.length+P.length+(Q1.length+Q2.length):Nat):Int) - (P.length:Int))=((A.length+P.length+Q1.length:Nat):Int):=by rw[qAW _ _ (by omega) (by omega)]; congr 1; omega
    have e4:IntKind.i64.wrap (((Q1.length+Q2.length:Nat):Int) - (P.length:Int))=((Q1.length:Nat):Int):=by rw[qAW _ _ (by omega) (by omega)]; congr 1; omega
    have c:=λ{β:Type} {k:KO β} {d:Nat}=>qQP (k:=k) (d:=d) n hn A.length (A.length+P.length+Q1.length) P.length (by omega) (by omega) _ hl hg
    rw[ea,hsw] at c;rw[ea] at hg hl;have eb:A++Q2++Q1++P++C=A++Q2++Q1++(P++C):=by simp
    have hg2:(h.put (.im 0) (RDE K (A++Q2++Q1++P++C))).get (.im 0)=some (RDE K (A++Q2++Q1++(P++C))):=by rw[<- eb]; exact Heap.zput_self hg (λe=>by cases e)
    have ih:=qFk n hn f Q2 Q1 A (P++C) _ (by omega) (by omega) (by omega) (by simp only[List.length_append]; omega) hg2;have er:A++Q1++Q2++(P++C)=A++(Q1++Q2)++P++C:=by simp
    rw[er,h1] at ih;refine Eq.trans ?_ ih;rw[K.wR_1,gR_1];simp (maxSteps:=9^7) +contextual only[exa,rA,rB,rC,rD,rE,rF,rG,rH,rI,t,t',t2,e1,e2,e3,e4,c,if_false]
theorem qN3(n:Nat)(hn:n<=1000)(P Q A C:List α)(hP:1<=P.length)(hQ:1<=Q.length)(hl:(A++P++Q++C).length=n) :
  Om K.fR [sK K n,kI (A.length:Int),kI ((A.length+P.length:Nat):Int),kI ((A.length+P.length+Q.length:Nat):Int),(fF K)] [RDE K (A++P++Q++C)]=some (.tup [],[RDE K (A++Q++P++C)]):=by
 have hl':A.length+P.length+Q.length+C.length=n:=by rw[<- hl]; simp only[List.length_append]
 refine(qAD (K.nR _ _)).trans ?_;show lim tab.get S K.fR 1 0 _ (hpE K (A++P++Q++C))=_;have e1:IntKind.i64.wrap (((A.length+P.length:Nat):Int) - (A.length:Int))=((P.length:Nat):Int):=by rw[qAW _ _ (by omega) (by omega)]; congr 1; omega
 have e2:IntKind.i64.wrap (((A.length+P.length+Q.length:Nat):Int) - ((A.length+P.length:Nat):Int))=((Q.length:Nat):Int):=by rw[qAW _ _ (by omega) (by omega)]; congr 1; omega
 rw[K.wR_0,gR_0];simp (maxSteps:=9^7) +contextual only[exa,rA,rB,rC,rD,rE,rF,rG,rH,rI,e1,e2];exact qFk n hn (P.length+Q.length) P Q A C _ (Nat.le_refl _) hP hQ hl rfl
theorem v164{β:Type}{k:KO β}{h:Heap}{d:Nat}(n:Nat)(hn:n<=1000)(P Q A C:List α)(hP:1<=P.length)(hQ:1<=Q.length)(hl:(A++P++Q++C).length=n)(hg:h.get (.im 0)=some (RDE K (A++P++Q++C))) :
  vcall Om (.v (.c (.func K.fR []))) [sK K n,kI (A.length:Int),kI ((A.length+P.length:Nat):Int),kI ((A.length+P.length+Q.length:Nat):Int),(fF K)] h d k=k (.tup []) (h.put (.im 0) (RDE K (A++Q++P++C))) :=
 qAh K.fR (.im 0) _ _ _ _ _ rfl rfl rfl hg (qAB _ 0) (qAB _ 0) (λ_=>rfl) (qN3 n hn P Q A C hP hQ hl)
end
end Go.Proofs.YtnlmlcfipbnpgaaDoor.Ab
