/- The rules,the contracts,the plain laws that lead to the statement. Own work. Condition: what each theorem names. -/
import Derived.Test.YtnlmlcfipbnpgaaDoorTabOW
import Derived.Test.YtnlmlcfipbnpgaaDoorV0
set_option linter.all false
set_option linter.unusedVariables false
set_option linter.unusedSimpArgs false
set_option linter.unusedSectionVars false
set_option maxRecDepth 100000
set_option maxHeartbeats 4000000
open Nat renaming reduceAdd->rA,reduceMul->rB,reduceLT->rC,reduceLeDiff->rD,reduceEqDiff->rE
open Int renaming reduceLT->rF,reduceLE->rG,reduceEq->rH,reduceToNat->rI
open Option renaming some.injEq->rJ,bind_eq_some_iff->rK,bind_eq_bind->rL
namespace Go.AI
def outR(ρ:List Ref):Ref->Option Ref
 |.im i=>ρ[i]?
 |.own .. => none
structure At (h:Heap) (ρ:List Ref) (C:List AObj):Prop where
 nodup:ρ.Nodup
 len:ρ.length=C.length
 get:∀ (i:Nat) (r:Ref) (o:AObj),ρ[i]?=some r->C[i]?=some o->h.get r=some (o.ren (outR ρ))
def Closed(C:List AObj):Prop:=∀ o∈C,o ≠ .dead/\∀ r∈o.refs,∃ i,r = .im i/\i<C.length
theorem Cell.ren_ren{σ τ υ:Ref->Option Ref}(c:Cell)(h:∀ r∈c.refs,∃ s t,σ r=some s/\τ s=some t/\υ r=some t):(c.ren σ).ren τ=c.ren υ:=by
 cases c with
 |ptr r off=>obtain⟨s,t,h1,h2,h3⟩:=h r (by simp[Cell.refs]); simp only[Cell.ren,h1,h2,h3]
 |sref r off len cap sz=>obtain⟨s,t,h1,h2,h3⟩:=h r (by simp[Cell.refs]); simp only[Cell.ren,h1,h2,h3]
 |mref r=>obtain⟨s,t,h1,h2,h3⟩:=h r (by simp[Cell.refs]); simp only[Cell.ren,h1,h2,h3]
 |tsl sz rows r=>obtain⟨s,t,h1,h2,h3⟩:=h r (by simp[Cell.refs]); simp only[Cell.ren,h1,h2,h3]
 |func f caps =>
  have:∀ caps:List Ref,(∀ r∈caps,∃ s t,σ r=some s/\τ s=some t/\υ r=some t)->∃ l m,caps.mapM σ=some l/\l.mapM τ=some m/\caps.mapM υ=some m:=by
   intro caps
   induction caps with
   |nil=>intro _; exact⟨[],[],rfl,rfl,rfl⟩
   |cons r rs ih =>
    intro hh;obtain⟨s,t,h1,h2,h3⟩:=hh r (by simp);obtain⟨l,m,j1,j2,j3⟩:=ih λx hx=>hh x (by simp[hx])
    exact⟨s::l,t::m,by simp[h1,j1],by simp[h2,j2],by simp[h3,j3]⟩
  obtain⟨l,m,j1,j2,j3⟩:=this caps (λr hr=>h r (by simpa [Cell.refs] using hr));simp only[Cell.ren,j1,j2,j3]
 |_=>rfl
theorem AObj.ren_ren{σ τ υ:Ref->Option Ref}(o:AObj)(h:∀ r∈o.refs,∃ s t,σ r=some s/\τ s=some t/\υ r=some t):(o.ren σ).ren τ=o.ren υ:=by
 have hc:∀ cs:List Cell,(∀ r∈cs.flatMap Cell.refs,∃ s t,σ r=some s/\τ s=some t/\υ r=some t)->(cs.map (Cell.ren σ)).map (Cell.ren τ)=cs.map (Cell.ren υ):=by
  intro cs hh;rw[List.map_map];refine List.map_congr_left λc hm=>Cell.ren_ren c λr hr=>hh r (List.mem_flatMap.2 ⟨c,hm,hr⟩)
 cases o with
 |cells cs imm=>simp only[AObj.ren]; rw[hc cs (λr hr=>h r (by simpa [AObj.refs] using hr))]
 |map es clock =>
  simp only[AObj.ren,List.map_map]
  congr 1
  refine List.map_congr_left λe hm => ?_
  have he:∀ r∈e.2.1.refs,∃ s t,σ r=some s/\τ s=some t/\υ r=some t:=λr hr=>h r (by simp only[AObj.refs]; exact List.mem_flatMap.2 ⟨e,hm,hr⟩)
  obtain⟨a,b,c⟩:=e;simp only[Function.comp];cases b with
  |c x=>simp only[Comp.ren]; rw[Cell.ren_ren x he]
  |agg cs=>simp only[Comp.ren]; rw[hc cs he]
 |_=>rfl
theorem Cell.ren_id{σ:Ref->Option Ref}(c:Cell)(h:∀ r∈c.refs,σ r=some r):c.ren σ=c:=by
 cases c with
 |ptr r off=>simp only[Cell.ren,h r (by simp[Cell.refs])]
 |sref r off len cap sz=>simp only[Cell.ren,h r (by simp[Cell.refs])]
 |mref r=>simp only[Cell.ren,h r (by simp[Cell.refs])]
 |tsl sz rows r=>simp only[Cell.ren,h r (by simp[Cell.refs])]
 |func f caps =>
  have:∀ caps:List Ref,(∀ r∈caps,σ r=some r)->caps.mapM σ=some caps:=by
   intro caps
   induction caps with
   |nil=>intro _; rfl
   |cons r rs ih=>intro hh; simp[hh r (by simp),ih λx hx=>hh x (by simp[hx])]
  simp only[Cell.ren,this caps (λr hr=>h r (by simpa [Cell.refs] using hr))]
 |_=>rfl
theorem AObj.ren_id{σ:Ref->Option Ref}(o:AObj)(h:∀ r∈o.refs,σ r=some r):o.ren σ=o:=by
 have hc:∀ cs:List Cell,(∀ r∈cs.flatMap Cell.refs,σ r=some r)->cs.map (Cell.ren σ)=cs:=by
  intro cs hh;refine(List.map_congr_left λc hm=>Cell.ren_id c λr hr=>hh r (List.mem_flatMap.2 ⟨c,hm,hr⟩)).trans (List.map_id _)
 cases o with
 |cells cs imm=>simp only[AObj.ren]; rw[hc cs (λr hr=>h r (by simpa [AObj.refs] using hr))]
 |map es clock =>
  simp only[AObj.ren]
  congr 1
  refine(List.map_congr_left λe hm => ?_).trans (List.map_id _);have he:∀ r∈e.2.1.refs,σ r=some r:=λr hr=>h r (by simp only[AObj.refs]; exact List.mem_flatMap.2 ⟨e,hm,hr⟩)
  obtain⟨a,b,c⟩:=e;cases b with
  |c x=>simp only[Comp.ren,id]; rw[Cell.ren_id x he]
  |agg cs=>simp only[Comp.ren,id]; rw[hc cs he]
 |_=>rfl
theorem Cell.refs_ren{σ:Ref->Option Ref}{f:Ref->Ref}(c:Cell)(h:∀ r∈c.refs,σ r=some (f r)):(c.ren σ).refs=c.refs.map f:=by
 cases c with
 |ptr r off=>simp only[Cell.ren,h r (by simp[Cell.refs]),Cell.refs,List.map]
 |sref r off len cap sz=>simp only[Cell.ren,h r (by simp[Cell.refs]),Cell.refs,List.map]
 |mref r=>simp only[Cell.ren,h r (by simp[Cell.refs]),Cell.refs,List.map]
 |tsl sz rows r=>simp only[Cell.ren,h r (by simp[Cell.refs]),Cell.refs,List.map]
 |func g caps =>
  have:∀ caps:List Ref,(∀ r∈caps,σ r=some (f r))->caps.mapM σ=some (caps.map f):=by
   intro caps
   induction caps with
   |nil=>intro _; rfl
   |cons r rs ih=>intro hh; simp[hh r (by simp),ih λx hx=>hh x (by simp[hx])]
  simp only[Cell.ren,this caps (λr hr=>h r (by simpa [Cell.refs] using hr)),Cell.refs]
 |_=>rfl
theorem AObj.refs_ren{σ:Ref->Option Ref}{f:Ref->Ref}(o:AObj)(h:∀ r∈o.refs,σ r=some (f r)):(o.ren σ).refs=o.refs.map f:=by
 have hc:∀ cs:List Cell,(∀ r∈cs.flatMap Cell.refs,σ r=some (f r))->(cs.map (Cell.ren σ)).flatMap Cell.refs=(cs.flatMap Cell.refs).map f:=by
  intro cs
  induction cs with
  |nil=>intro _; rfl
  |cons c cs ih =>
   intro hh;simp only[List.map_cons,List.flatMap_cons,List.map_append];rw[Cell.refs_ren c (λr hr=>hh r (by simp[hr])),ih (λr hr=>hh r (by simp only[List.flatMap_cons,List.mem_append]; exact Or.inr hr))]
 cases o with
 |cells cs imm=>simp only[AObj.ren,AObj.refs]; exact hc cs (λr hr=>h r (by simpa [AObj.refs] using hr))
 |map es clock =>
  simp only[AObj.ren,AObj.refs] at h ⊢
  induction es with
  |nil=>rfl
  |cons e es ih =>
   simp only[List.map_cons,List.flatMap_cons,List.map_append];rw[ih (λr hr=>h r (by simp only[List.flatMap_cons,List.mem_append]; exact Or.inr hr))]
   congr 1
   have he:∀ r∈e.2.1.refs,σ r=some (f r):=λr hr=>h r (by simp only[List.flatMap_cons,List.mem_append]; exact Or.inl hr)
   obtain⟨a,b,c⟩:=e;cases b with
   |c x=>simp only[Comp.ren,Comp.refs]; exact Cell.refs_ren x he
   |agg cs=>simp only[Comp.ren,Comp.refs]; exact hc cs he
 |_=>rfl
theorem qD3:∀ (rs:List Ref) (i k:Nat) (r:Ref),rs.Nodup->rs[i]?=some r->idx r rs k=some (k+i)
 |[],i,k,r,_,e=>by simp at e
 |s::rs,0,k,r,_,e=>by
  simp only[List.getElem?_cons_zero,rJ] at e;subst e;simp[idx]
 |s::rs,i+1,k,r,hn,e=>by
  simp only[List.getElem?_cons_succ] at e;obtain⟨h1,h2⟩:=List.nodup_cons.1 hn;have hne:r≠s:=λe'=>h1 (by rw[<- e']; exact List.mem_of_getElem? e)
  simp only[idx,decide_eq_false hne,cond_false];rw[qD3 rs i (k+1) r h2 e]
  congr 1; omega
theorem qPt{ρ:List Ref}{i:Nat}{r:Ref}(hn:ρ.Nodup)(e:ρ[i]?=some r):inn ρ r=some (.im i):=by
 unfold inn;rw[qD3 ρ i 0 r hn e,Nat.zero_add];rfl
def outF(ρ:List Ref)(r:Ref):Ref:=(outR ρ r).getD r
theorem qCX{ρ:List Ref}{i:Nat}(hi:i<ρ.length):outR ρ (.im i)=some (outF ρ (.im i))/\ρ[i]?=some (outF ρ (.im i)):=by
 have:ρ[i]?=some ρ[i]:=List.getElem?_eq_getElem hi;simp only[outF,outR,this,Option.getD_some,and_self]
theorem qO8{ρ:List Ref}(hn:ρ.Nodup){i j:Nat}(hi:i<ρ.length)(hj:j<ρ.length)(e:outF ρ (.im i)=outF ρ (.im j)):i=j:=by
 have h1:=(qCX hi).2;have h2:=(qCX hj).2;rw[<- e] at h2;exact(List.nodup_iff_injective_getElem?' hn) h1 h2
where
 List.nodup_iff_injective_getElem?' {ρ:List Ref} (hn:ρ.Nodup) {i j:Nat} {r:Ref} (h1:ρ[i]?=some r) (h2:ρ[j]?=some r):i=j:=by
  have:=qD3 ρ i 0 r hn h1;rw[qD3 ρ j 0 r hn h2] at this;simp only[Nat.zero_add,rJ] at this;exact this.symm
theorem qFx{h:Heap}{ρ:List Ref}{C:List AObj}(A:At h ρ C)(K:Closed C):∀ (n:Nat) (todo seen:List Ref),
  (∀ r∈todo,∃ i,r = .im i/\i<C.length)->(∀ r∈seen,∃ i,r = .im i/\i<C.length) ->
  reach h n (todo.map (outF ρ)) (seen.map (outF ρ))=(reach ⟨C,.nil⟩ n todo seen).map (outF ρ)
 |0,todo,seen,_,_=>rfl
 |n+1,[],seen,_,_=>rfl
 |n+1,r::todo,seen,ht,hs=>by
  obtain⟨i,rfl,hi⟩:=ht r (by simp);have hiρ:i<ρ.length:=by rw[A.len]; exact hi
  have hc:(seen.map (outF ρ)).contains (outF ρ (.im i))=seen.contains (.im i):=by
   rw[Bool.eq_iff_iff,List.contains_iff_mem,List.contains_iff_mem];constructor
   ·intro hm;obtain⟨s,h1,h2⟩:=List.mem_map.1 hm;obtain⟨j,rfl,hj⟩:=hs s h1;rw[qO8 A.nodup (by rw[A.len]; exact hj) hiρ h2] at h1;exact h1
   ·intro hm;exact List.mem_map.2 ⟨_,hm,rfl⟩
  rw[List.map_cons]
  conv=>lhs; unfold reach
  conv=>rhs; unfold reach
  rw[hc];cases hb:seen.contains (.im i) with
  |true =>
   rw[cond_true,cond_true];exact qFx A K n todo seen (λr hr=>ht r (by simp[hr])) hs
  |false =>
   rw[cond_false,cond_false];have hCi:C[i]?=some C[i]:=List.getElem?_eq_getElem hi;have hmem:C[i]∈C:=List.getElem_mem hi;obtain⟨hd,hr⟩:=K _ hmem;rw[A.get i _ _ (qCX hiρ).2 hCi,Heap.get_im_of (h:=⟨C,.nil⟩) hCi hd];dsimp only
   rw[AObj.refs_ren (f:=outF ρ) C[i] (λr hr'=>by
    obtain⟨j,rfl,hj⟩:=hr r hr'
    exact(qCX (by rw[A.len]; exact hj)).1)]
   rw[<- List.map_append,show seen.map (outF ρ)++[outF ρ (.im i)]=(seen++[Ref.im i]).map (outF ρ) by simp];refine qFx A K n _ _ (λr hr' => ?_) (λr hr' => ?_)
   ·rcases List.mem_append.1 hr' with hm|hm
    ·exact hr r hm
    ·exact ht r (by simp[hm])
   ·rcases List.mem_append.1 hr' with hm|hm
    ·exact hs r hm
    ·rw[List.mem_singleton.1 hm]; exact⟨i,rfl,hi⟩
def Rooted(C:List AObj):Prop:=Closed C/\reach ⟨C,.nil⟩ fuelReach [.im 0] []=(List.range C.length).map Ref.im
theorem qPG{ρ:List Ref}:((List.range ρ.length).map Ref.im).map (outF ρ)=ρ:=by
 refine List.ext_getElem? λi => ?_
 rw[List.getElem?_map,List.getElem?_map];by_cases hi:i<ρ.length
 ·rw[List.getElem?_range hi,(qCX hi).2]; rfl
 ·rw[List.getElem?_eq_none (by simpa using hi),List.getElem?_eq_none (by simpa using hi)]; rfl
theorem At.mapM{h:Heap}{ρ:List Ref}{C:List AObj}(A:At h ρ C):ρ.mapM h.get=some (C.map (AObj.ren (outR ρ))):=by
 have:∀ (l:List Ref) (D:List AObj),l.length=D.length->(∀ (i:Nat) (r:Ref) (o:AObj),l[i]?=some r->D[i]?=some o->h.get r=some (o.ren (outR ρ)))->l.mapM h.get=some (D.map (AObj.ren (outR ρ))):=by
  intro l
  induction l with
  |nil=>intro D hl _; cases D with
   |nil=>rfl
   |cons _ _=>simp at hl
  |cons r l ih=>intro D hl hg; cases D with
   |nil=>simp at hl
   |cons o D =>
    have h0:=hg 0 r o rfl rfl;have h1:=ih D (by simpa using hl) (λi s q e1 e2=>hg (i+1) s q (by simpa using e1) (by simpa using e2));simp[h0,h1]
 exact this ρ C A.len A.get
def addNew:List Ref->List Ref->List Ref
 |seen,[]=>seen
 |seen,r::todo=>if r∈seen then addNew seen todo else addNew (seen++[r]) todo
theorem qC7{h:Heap}:∀ (todo:List Ref) (n:Nat) (seen:List Ref),todo.length<=n->(∀ r∈todo,r∉seen->∃ o,h.get r=some o/\o.refs=[])->reach h n todo seen=addNew seen todo
 |[],0,seen,_,_=>rfl
 |[],n+1,seen,_,_=>rfl
 |r::todo,0,seen,hl,_=>by simp at hl
 |r::todo,n+1,seen,hl,hg=>by
  have hl':todo.length<=n:=by simpa using hl
  unfold addNew;by_cases hs:r∈seen
  ·rw[if_pos hs,qA1 n r todo seen hs];exact qC7 todo n seen hl' λx hx=>hg x (by simp[hx])
  ·rw[if_neg hs];obtain⟨o,h1,h2⟩:=hg r (by simp) hs;rw[qAK n r todo seen o hs h1,h2,List.nil_append];exact qC7 todo n _ hl' λx hx hn=>hg x (by simp[hx]) λhm=>hn (by simp[hm])
section
variable {β:Type} {O:Oracle} {h:Heap} {d:Nat} {k:TVal->Heap->Option β}
end
structure Star (root:AObj) (leaves:List AObj):Prop where
 refs:root.refs=(List.range leaves.length).map λi=>Ref.im (i+1)
 live:root ≠ .dead
 leaf:∀ o∈leaves,o ≠ .dead/\o.refs=[]
 few:leaves.length<300
theorem Star.closed{root:AObj}{leaves:List AObj}(S:Star root leaves):Closed (root::leaves):=by
 intro o ho
 rcases List.mem_cons.1 ho with rfl|ho
 ·refine⟨S.live,λr hr => ?_⟩;rw[S.refs] at hr;obtain⟨i,hi,rfl⟩:=List.mem_map.1 hr;exact⟨i+1,rfl,by simp at hi ⊢; exact hi⟩
 ·obtain⟨h1,h2⟩:=S.leaf o ho;exact⟨h1,λr hr=>by rw[h2] at hr; cases hr⟩
theorem qE5:∀ (todo seen:List Ref),todo.Nodup->(∀ r∈todo,r∉seen)->addNew seen todo=seen++todo
 |[],seen,_,_=>by simp[addNew]
 |x::todo,seen,hn,hd=>by
  obtain⟨h1,h2⟩:=List.nodup_cons.1 hn;unfold addNew;rw[if_neg (hd x (by simp)),qE5 todo _ h2 (λr hr hm => ?_),List.append_assoc]; rfl
  rcases List.mem_append.1 hm with hm|hm
  ·exact hd r (by simp[hr]) hm
  ·exact h1 (List.mem_singleton.1 hm▸hr)
theorem Star.rooted{root:AObj}{leaves:List AObj}(S:Star root leaves):Rooted (root::leaves):=by
 refine⟨S.closed,?_⟩;have h0:(Heap.mk (root::leaves) .nil).get (.im 0)=some root:=Heap.get_im_of rfl S.live;show reach _ (399+1) [.im 0] []=_;rw[qAK 399 (.im 0) [] [] root (by simp) h0,S.refs,List.append_nil,List.nil_append];rw[qC7 _ 399 _ (by simp; have:=S.few; omega) (λr hr _ => ?_),qE5 _ _ ?_ ?_]
 ·rw[List.length_cons,List.range_succ_eq_map,List.map_cons,List.map_map]; rfl
 ·refine List.pairwise_map.2 (List.nodup_range.imp ?_);intro a b h e;simp at e; exact h e
 ·intro r hr hm;obtain⟨i,_,rfl⟩:=List.mem_map.1 hr;simp at hm
 ·obtain⟨i,hi,rfl⟩:=List.mem_map.1 hr;have hi':i<leaves.length:=by simpa using hi
  have hm:=S.leaf leaves[i] (List.getElem_mem hi');exact⟨leaves[i],Heap.get_im_of (by show(root::leaves)[i+1]?=_; simp[hi']) hm.1,hm.2⟩
theorem At.root{h:Heap}{ρ:List Ref}{root:AObj}{leaves:List AObj}(A:At h ρ (root::leaves)){r:Ref}(e:ρ[0]?=some r):h.get r=some (root.ren (outR ρ)):=A.get 0 r root e rfl
def HI(h:Heap)(C:List AObj):Prop:=∀ (i:Nat) (o:AObj),C[i]?=some o->h.get (.im i)=some o
theorem HI.own{h:Heap}{C:List AObj}(H:HI h C)(d g:Nat)(o:AObj):HI (h.own d g o) C:=λi q e=>H i q e
theorem HI.of{h h':Heap}{C:List AObj}(H:HI h C)(I:∀ i,h'.get (.im i)=h.get (.im i)):HI h' C:=λi q e=>(I i).trans (H i q e)
section
variable {β:Type} {O:Oracle} {h:Heap} {d:Nat}
end
def Leafy(h:Heap)(n:Nat):Prop:=∀ j,0<j->j<n->∀ o,h.get (.im j)=some o->o.refs=[]
where
 mapM_get' {h:Heap} {ρ:List Ref} {C:List AObj} (A:At h ρ C):∀ r∈ρ,∃ x,h.get r=some x:=by
  intro r hr;obtain⟨k,hk,e⟩:=List.getElem_of_mem hr;have hkC:k<C.length:=by rw[<- A.len]; exact hk
  exact⟨_,A.get k r C[k] (by rw[<- e]; exact List.getElem?_eq_getElem hk) (List.getElem?_eq_getElem hkC)⟩
structure StarAt (h:Heap) (r:Nat) (root:AObj) (leaves:List AObj) (n:Nat):Prop where
 at':∃ ρ,At h ρ (root::leaves)/\ρ[0]?=some (.im r)/\∀ x∈ρ,∃ i,x = .im i
 leafy:r=0->Leafy h n
 few:n<=h.ims.length
theorem StarAt.own{h:Heap}{r:Nat}{root:AObj}{leaves:List AObj}{n:Nat}(X:StarAt h r root leaves n)(d g:Nat)(o:AObj):StarAt (h.own d g o) r root leaves n:=by
 obtain⟨ρ,A,e0,him⟩:=X.at';refine⟨⟨ρ,⟨A.nodup,A.len,λi x q e1 e2 => ?_⟩,e0,him⟩,X.leafy,X.few⟩;obtain⟨j,rfl⟩:=him x (List.mem_of_getElem? e1);exact A.get i _ q e1 e2
theorem StarAt.of{h h':Heap}{r:Nat}{root:AObj}{leaves:List AObj}{n:Nat}(X:StarAt h r root leaves n)(I:∀ i,h'.get (.im i)=h.get (.im i))(hl:n<=h'.ims.length):StarAt h' r root leaves n:=by
 obtain⟨ρ,A,e0,him⟩:=X.at';refine⟨⟨ρ,⟨A.nodup,A.len,λi x q e1 e2 => ?_⟩,e0,him⟩,λe j h0 hj o ho=>X.leafy e j h0 hj o (by rw[<- I]; exact ho),hl⟩;obtain⟨j,rfl⟩:=him x (List.mem_of_getElem? e1);rw[I]; exact A.get i _ q e1 e2
section
variable {β:Type} {O:Oracle} {h:Heap} {d:Nat} {k:TVal->Heap->Option β}
end
theorem qQy{h:Heap}{ρ:List Ref}{C:List AObj}(A:At h ρ C)(R:Rooted C){r:Ref}(e0:ρ[0]?=some r)(frz:Bool)(vs:List Comp)(v:TVal)(e1:(if frz then freezeT h (oneOf vs) else some (oneOf vs,[]))=some (v,[]))(hr:v.refs=[r]) :
  vfin frz 0 vs h=some (v.ren (inn ρ),C):=by
 letI:Sym:=⟨λ_=>0⟩
 have h0:0<C.length:=by rw[<- A.len]; exact(List.getElem?_eq_some_iff.1 e0).1
 have er:r=outF ρ (.im 0):=by
  have:=(qCX (ρ:=ρ) (i:=0) (by rw[A.len]; exact h0)).2;rw[e0] at this;exact Option.some.inj this
 have er2:reach h fuelReach [r] []=ρ:=by
  rw[er];have:=qFx A R.1 fuelReach [.im 0] [] (λr hr=>⟨0,List.mem_singleton.1 hr,h0⟩) (λr hr=>by cases hr);simp only[List.map_cons,List.map_nil] at this;rw[this,R.2,<- A.len,qPG]
 rw[qCL];unfold finV;simp only[e1,settle];have e2:reach h fuelReach (((ims 0).flatMap λr=>match h.get r with|some o=>o.refs|none=>[])++v.refs) (ims 0)=ρ:=by
  show reach h fuelReach ([]++v.refs) []=ρ;rw[List.nil_append,hr]; exact er2
 refine(congrArg (λF:List Ref=>some (v.ren (inn F),F.map λr=>match h.get r with|some o=>o.ren (inn F)|none=>AObj.dead)) e2).trans ?_;refine congrArg (λl=>some (v.ren (inn ρ),l)) ?_;refine List.ext_getElem? λi => ?_
 rw[List.getElem?_map];by_cases hi:i<C.length
 ·have hi':i<ρ.length:=by rw[A.len]; exact hi
  rw[List.getElem?_eq_getElem hi',Option.map_some,List.getElem?_eq_getElem hi];have hg:=A.get i ρ[i] C[i] (List.getElem?_eq_getElem hi') (List.getElem?_eq_getElem hi);rw[hg];dsimp only;have hc:=R.1 C[i] (List.getElem_mem hi)
  rw[AObj.ren_ren (υ:=λr=>some r) C[i] (λx hx=>by
   obtain⟨j,rfl,hj⟩:=hc.2 x hx;have hj':=qCX (ρ:=ρ) (i:=j) (by rw[A.len]; exact hj)
   exact⟨_,_,hj'.1,qPt A.nodup hj'.2,rfl⟩),AObj.ren_id _ λr _=>rfl]
 ·rw[List.getElem?_eq_none (by rw[A.len]; exact Nat.le_of_not_lt hi),List.getElem?_eq_none (Nat.le_of_not_lt hi)]; rfl
theorem qIw{O:Oracle}{g:FuncId}{az:List TVal}{v:TVal}{C:List AObj}(ha:allB pT az=true)(hc:O g az []=some (v,C))(K:Closed C)(h:Heap) :
  ∃ h',(∀ {β:Type}(d:Nat)(k:TVal->Heap->Option β),vcall O (.v (.c (.func g []))) az h d k=k (v.ren (back [] C.length (newRef h.ims.length))) h') /\
   At h' ((List.range C.length).map λi=>Ref.im (h.ims.length+i)) C/\(∀ r o,h.get r=some o->h'.get r=some o)/\(∀ d,h'.gen d=h.gen d)/\h'.ims.length=h.ims.length+C.length:=by
 obtain⟨a1,a2,a3⟩:=qI9 ha;obtain⟨h',c1,B⟩:=qBz (h:=h) g az az az [] [] [] C v _ a1 (by rw[a2]; rfl) rfl (a3 _) rfl hc (Nat.zero_le _) List.nodup_nil rfl;refine⟨h',λd k=>c1 d k,⟨?_,by simp,λi r o e1 e2 => ?_⟩,λr o ho=>B.old r o (by simp) ho,B.gen,by rw[B.len]; rfl⟩
 ·refine List.pairwise_map.2 (List.nodup_range.imp ?_);intro a b hab e;simp at e; exact hab e
 ·have hi:i<C.length:=(List.getElem?_eq_some_iff.1 e2).1;rw[List.getElem?_map,List.getElem?_range hi,Option.map_some,rJ] at e1;subst e1;have hd:=(K o (List.mem_of_getElem? e2)).1;have hren:o.ren (back [] C.length (newRef h.ims.length))=o.ren (outR ((List.range C.length).map λi=>Ref.im (h.ims.length+i))):=by
   have hid:o.ren (λr=>some r)=o:=AObj.ren_id o λr _=>rfl
   rw[<- hid];have hk:=(K o (List.mem_of_getElem? e2)).2;rw[AObj.ren_ren (υ:=outR ((List.range C.length).map λi=>Ref.im (h.ims.length+i))),AObj.ren_ren (υ:=outR ((List.range C.length).map λi=>Ref.im (h.ims.length+i)))]
   ·intro r hr;obtain⟨j,rfl,hj⟩:=hk r hr;have:outR ((List.range C.length).map λi=>Ref.im (h.ims.length+i)) (.im j)=some (.im (h.ims.length+j)):=by show _[j]?=_; rw[List.getElem?_map,List.getElem?_range hj]; rfl
    exact⟨_,_,rfl,this,this⟩
   ·intro r hr;obtain⟨j,rfl,hj⟩:=hk r hr;have:outR ((List.range C.length).map λi=>Ref.im (h.ims.length+i)) (.im j)=some (.im (h.ims.length+j)):=by show _[j]?=_; rw[List.getElem?_map,List.getElem?_range hj]; rfl
    refine⟨_,_,rfl,?_,this⟩;have hb:Nat.blt j C.length=true:=by rw[Nat.blt_eq]; exact hj
    simp only[back,List.getElem?_nil,hb,cond_true,newRef,List.length_nil,Nat.sub_zero]
  have:=B.new i (o.ren (back [] C.length (newRef h.ims.length))) (by
   rw[List.length_nil,Nat.zero_add,List.getElem?_map,e2]; rfl) (by cases o <;> simp[AObj.ren] at hd ⊢)
  rw[this,hren]
end Go.AI
namespace Go.Proofs.YtnlmlcfipbnpgaaDoor.Ab
open Go Go.AI
noncomputable def S:Oracle:=orS (SI 98) (SJ 53)
noncomputable abbrev W:Mach:=lim tab.get S
noncomputable abbrev Om:Oracle:=orc S W
abbrev CAL(f:FuncId)(l:List TVal)(v:TVal):Prop:=∀ {β:Type}{k:TVal->Heap->Option β}{h:Heap}{d:Nat},vcall Om (.v (.c (.func f []))) l h d k=k v h
abbrev kA(r:List PVal):TVal := .v (.agg (pcells r))
def withinM(a n:Int):Int:=if a.tmod n<0 then a.tmod n+n else a.tmod n
theorem qCy(a n:Int)(hn:0<n):0<=withinM a n/\withinM a n<n:=by
 have h1:=Int.tmod_lt_of_pos a hn;have h2 : -n<a.tmod n:=by
  have:=Int.tmod_lt_of_pos (-a) hn;rw[Int.neg_tmod] at this; omega
 unfold withinM;split <;> omega
theorem qPZ(a n:Int)(hn:0<n)(hs:n<1000000):Om 19 [kI a,kI n] []=some (kI (withinM a n),[]):=by
 refine(qAD rfl).trans ?_;show lim tab.get S 19 0 0 [kI a,kI n] h0=_;have hb:=qCy a n hn;rw[w19_0,b19_0];unfold withinM at hb ⊢;by_cases h:a.tmod n<0
 ·rw[if_pos h] at hb ⊢;have hw:IntKind.i64.wrap (a.tmod n+n)=a.tmod n+n:=qAL _ (by omega) (by omega);simp (maxSteps:=9999999) +contextual only[exa,rA,rB,rC,rD,rE,rF,rG,rH,rI,qF0 0 .i64 a n (by omega),h,hw,oneOf]
 ·rw[if_neg h];simp (maxSteps:=9999999) +contextual only[exa,rA,rB,rC,rD,rE,rF,rG,rH,rI,qF0 0 .i64 a n (by omega),h,oneOf]
theorem u19{β:Type}{k:TVal->Heap->Option β}{h:Heap}{d:Nat}(a n:Int)(hn:0<n)(hs:n<1000000):vcall Om (.v (.c (.func 19 []))) [kI a,kI n] h d k=k (kI (withinM a n)) h:=qAH 19 _ _ rfl (qPZ a n hn hs) rfl
theorem qQm:Om 10 [] []=some (kB true,[]):=(qAD rfl).trans (qBt blks_ok 3000 10 0 0 _ _ _ (by kernel_rfl))
open Go Go.AI
def isDigit(n:Nat):Bool:=Nat.ble 48 n&&Nat.ble n 57
def isLetter(n:Nat):Bool:=Nat.ble 97 n&&Nat.ble n 122||Nat.ble 65 n&&Nat.ble n 90||Nat.beq n 95
def isWord(n:Nat):Bool:=isLetter n||isDigit n
theorem qFm(b:UInt8):Om 107 [kU b] []=some (kB (isDigit b.toNat),[]):=(qAD rfl).trans (qEZ blks_ok (p:=isDigit) (N:=20) (by kernel_rfl) b)
theorem qNG(b:UInt8):Om 118 [kU b] []=some (kB (isLetter b.toNat),[]):=(qAD rfl).trans (qEZ blks_ok (p:=isLetter) (N:=20) (by kernel_rfl) b)
theorem qRv(b:UInt8):Om 138 [kU b] []=some (kB (isWord b.toNat),[]):=(qAD rfl).trans (qEZ blks_ok (p:=isWord) (N:=20) (by kernel_rfl) b)
def runLen(p:Nat->Bool):List UInt8->Nat
 |[]=>0
 |b::s=>if p b.toNat then runLen p s+1 else 0
theorem qCj(p:Nat->Bool):∀ s,runLen p s<=s.length:=by
 intro s
 induction s with
 |nil=>exact Nat.le_refl _
 |cons b s ih=>unfold runLen; split <;> simp <;> omega
theorem qIT(p:Nat->Bool)(g:FuncId)(hg:∀ b,Om g [kU b] []=some (kB (p b.toNat),[]))(hp:∀ n,p n=true->n<128)(s:List UInt8) :
  Om 137 [kS s,.v (.c (.func g []))] []=some (kI (runLen p s:Nat),[]):=by
 refine(qAD rfl).trans ?_;show lim tab.get S 137 0 0 [kS s,.v (.c (.func g []))] h0=_;rw[w137_0,b137_0,qK1];have loop:∀ (m pos:Nat) (h:Heap),s.length - pos=m->pos<=s.length->h.get (.own 7 1)=some (.siter s pos) ->
   lim tab.get S 137 0 1 [kS s,.v (.c (.func g [])),.v (.c (.ptr (.own 7 1) 0))] h=some (kI ((pos+runLen p (s.drop pos):Nat):Int),[]):=by
  intro m
  induction m with
  |zero =>
   intro pos h hm hl hh;rw[w137_1,b137_1,qGj s pos _ hh (by omega)];rw[qAj _ 0 (.c (.p (.bool false))) rfl,qAM,if_neg (by decide),w137_2,b137_2,qAs,qAI,qAJ _ _ rfl];have:pos=s.length:=by omega
   subst this;simp[runLen,oneOf]
  |succ m ih =>
   intro pos h hm hl hh;obtain⟨b,hb⟩:∃ b,s[pos]?=some b:=⟨s[pos]'(by omega),by simp⟩;have hd:s.drop pos=b::s.drop (pos+1):=by
    obtain⟨h1,h2⟩:=List.getElem?_eq_some_iff.1 hb;rw[List.drop_eq_getElem_cons h1,h2]
   rw[w137_1,b137_1,qFS s pos _ hh (by omega),qAj _ 0 (.c (.p (.bool true))) rfl,qAM,if_pos rfl,qAj _ 1 (.c (.p (.int .i64 (pos:Int)))) rfl,
    qDC s pos b hb,qAH g _ _ rfl (hg b) rfl,qIo,qAM]
   cases hpb:p b.toNat with
   |false =>
    rw[if_pos (show(!false)=true from rfl),qAI,qAJ _ _ rfl,hd];simp[runLen,hpb,oneOf]
   |true =>
    rw[if_neg (show ¬ (!true)=true by decide),qGE s pos b hb (hp _ hpb)];refine(ih (pos+1) _ (by omega) (by omega) (Heap.own_get h 7 1 _ (by decide) (λe=>by cases e))).trans ?_;rw[hd];simp[runLen,hpb];omega
 have:=loop s.length 0 (h0.own 7 1 (.siter s 0)) (by omega) (by omega) (Heap.own_get _ _ _ _ (by decide) (λe=>by cases e));rw[qOK];refine this.trans ?_;simp
open Go Go.AI
structure Tok where
 kind:Int
 text:List UInt8
 n:Int
 pos:Int
def Tok.zero:Tok:=⟨0,[],0,0⟩
def Tok.row(t:Tok):List PVal:=[.int .i64 t.kind,.str t.text,.int .i64 t.n,.int .i64 t.pos]
def Tok.cells(t:Tok):List Cell:=[.p (.int .i64 t.kind),.p (.str t.text),.p (.int .i64 t.n),.p (.int .i64 t.pos)]
structure One where
 t:Tok
 n:Int
 e:Int
def One.val(r:One):TVal := .tup [.agg r.t.cells,.c (.p (.int .i64 r.n)),.c (.p (.int .i64 r.e))]
def bad(e:Int):One:=⟨Tok.zero,0,e⟩
def wrdM(s:List UInt8):One:=if 16<runLen isWord s then bad 4 else ⟨⟨1,s.take (runLen isWord s),0,0⟩,(runLen isWord s:Nat),0⟩
theorem qNm(n:Nat)(h:isWord n=true):n<128:=by
 simp only[isWord,isLetter,isDigit,Bool.or_eq_true,Bool.and_eq_true,Nat.ble_eq,Nat.beq_eq] at h;omega
theorem qGz(n:Nat)(h:isDigit n=true):n<128:=by
 simp only[isDigit,Bool.and_eq_true,Nat.ble_eq] at h;omega
theorem qSJ(s:List UInt8):Om 108 [kS s] []=some (kI (runLen isWord s:Nat),[]):=by
 refine(qAD rfl).trans ?_;show lim tab.get S 108 0 0 [kS s] h0=_;rw[w108_0,b108_0,qFV 137 _ _ rfl rfl (λ_=>rfl) (qIT isWord 138 qRv qNm s) rfl,qAI,qAJ _ _ rfl];rfl
theorem qRT(s:List UInt8):Om 119 [kS s] []=some ((wrdM s).val,[]):=by
 refine(qAD rfl).trans ?_;show lim tab.get S 119 0 0 [kS s] h0=_;rw[w119_0,b119_0,qDD,qAH 108 _ _ rfl (qSJ s) rfl,qBb,qAM];have hl:=qCj isWord s;unfold wrdM;by_cases h:16<runLen isWord s
 ·rw[if_pos (decide_eq_true (by omega)),qBs _ _ Tok.zero.cells rfl,qAt 4 2 _ _ _ _ _ (Heap.own_get _ _ _ _ (by decide) (λe=>by cases e)) (by decide) rfl rfl,qAI,qAI,qAJ _ _ rfl,if_pos h];rfl
 ·rw[if_neg (by rw[decide_eq_true_eq]; omega),qFh _ _ hl,qBs _ _ (Tok.cells ⟨1,s.take (runLen isWord s),0,0⟩) rfl,qAt 4 2 _ _ _ _ _ (Heap.own_get _ _ _ _ (by decide) (λe=>by cases e)) (by decide) rfl rfl,qAI,qAI,qAJ _ _ rfl,if_neg h];rfl
theorem qEn(s p:List UInt8):Om 130 [kS s,kS p] []=some (kB (decide (s.take p.length=p)),[]):=by
 refine(qAD rfl).trans ?_;show lim tab.get S 130 0 0 [kS s,kS p] h0=_;rw[w130_0,b130_0,qAs,qAs,qIX];by_cases hl:p.length<=s.length
 ·have e:(!decide ((s.length:Int)<(p.length:Int)))=true:=by simp; omega
  simp only[e,qBw,qAs,qFh s p.length hl,qHo,qCT,qAI];rw[qAJ _ _ rfl]; rfl
 ·have e:(!decide ((s.length:Int)<(p.length:Int)))=false:=by simp; omega
  have e2:¬ s.take p.length=p:=λhh=>by have:=congrArg List.length hh; simp at this; omega
  simp only[e,qBV,qCC,qAI];rw[qAJ _ _ rfl,decide_eq_false e2]; rfl
theorem qIH(s p:List UInt8):Om 99 [kS s,kS p] []=some (kB (decide (s.take p.length=p)),[]):=by
 refine(qAD rfl).trans ?_;show lim tab.get S 99 0 0 [kS s,kS p] h0=_;rw[w99_0,b99_0,qAH 130 _ _ rfl (qEn s p) rfl,qAI,qAJ _ _ rfl]; rfl
theorem qRO(s p:List UInt8):Om 161 [kS s,kS p] []=some (kS (if s.take p.length=p then s.drop p.length else s),[]):=by
 refine(qAD rfl).trans ?_;show lim tab.get S 161 0 0 [kS s,kS p] h0=_;rw[w161_0,b161_0,qAH 130 _ _ rfl (qEn s p) rfl];by_cases h:s.take p.length=p
 ·have hl:p.length<=s.length:=by have:=congrArg List.length h; simp at this; omega
  rw[decide_eq_true h,qD5,qAs,qF6 _ _ hl,qAI,qAJ _ _ rfl,if_pos h]; rfl
 ·rw[decide_eq_false h,qCR,qAI,qAJ _ _ rfl,if_neg h]; rfl
theorem qOf(s p:List UInt8):Om 145 [kS s,kS p] []=some (kS (if s.take p.length=p then s.drop p.length else s),[]):=by
 refine(qAD rfl).trans ?_;show lim tab.get S 145 0 0 [kS s,kS p] h0=_;rw[w145_0,b145_0,qAH 161 _ _ rfl (qRO s p) rfl,qAI,qAJ _ _ rfl]; rfl
def neg(s:List UInt8):Nat:=if s.take 1=[45] then 1 else 0
def numVal(s:List UInt8):Nat:=s.foldl (λx b=>10*x+(b.toNat - 48)) 0
theorem qFZ(s:List UInt8)(b:UInt8):numVal (s++[b])=10*numVal s+(b.toNat - 48):=by simp[numVal]
theorem qHn(s:List UInt8):(∀ b∈s,isDigit b.toNat=true)->numVal s<10 ^ s.length:=by
 have key:∀ (r:List UInt8),(∀ b∈r,isDigit b.toNat=true)->∀ (x k:Nat),x<10 ^ k->r.foldl (λx b=>10*x+(b.toNat - 48)) x<10 ^ (k+r.length):=by
  intro r
  induction r with
  |nil=>intro _ x k h; exact h
  |cons b r ih =>
   intro hb x k h;have h1:=hb b (by simp);simp only[isDigit,Bool.and_eq_true,Nat.ble_eq] at h1;have:=ih (λc hc=>hb c (by simp[hc])) (10*x+(b.toNat - 48)) (k+1) (by rw[Nat.pow_succ]; omega);rw[show k+(b::r).length=k+1+r.length by simp; omega];exact this
 intro h
 simpa [numVal] using key s h 0 0 (by decide)
theorem qRH(p:Nat->Bool):∀ (s:List UInt8),∀ b∈s.take (runLen p s),p b.toNat=true:=by
 intro s
 induction s with
 |nil=>intro b hb; simp[runLen] at hb
 |cons c s ih =>
  intro b hb;unfold runLen at hb;cases hc:p c.toNat with
  |false=>rw[hc] at hb; simp at hb
  |true =>
   rw[hc] at hb;simp only[if_true,List.take_succ_cons,List.mem_cons] at hb
   rcases hb with rfl|hb
   ·exact hc
   ·exact ih b hb
def numberM(s:List UInt8):One :=
 if 19<runLen isDigit (s.drop (neg s)) then bad 4
 else if 9223372036854775807+neg s<numVal ((s.drop (neg s)).take (runLen isDigit (s.drop (neg s)))) then bad 11
 else ⟨⟨3,[],if 0<neg s then -(numVal ((s.drop (neg s)).take (runLen isDigit (s.drop (neg s)))):Int) else (numVal ((s.drop (neg s)).take (runLen isDigit (s.drop (neg s)))):Int),0⟩,((neg s+runLen isDigit (s.drop (neg s)):Nat):Int),0⟩
theorem qLB(g n x:Nat)(hg:g<=1)(hn:n<=19)(hx:x<18446744073709551616)(h:Heap)(cs:List Cell)(hh:h.get (.own 2 1)=some (.cells cs 0))(hc:cs.length=4) :
  lim tab.get S 120 0 2 [.v (.c (.ptr (.own 2 1) 0)),kI (g:Int),kI (n:Int),kN .u64 (x:Int)] h=some ((if 9223372036854775807+g<x then bad 11 else ⟨⟨3,[],if 0<g then -(x:Int) else x,0⟩,((g+n:Nat):Int),0⟩:One).val,[]):=by
 rw[w120_2,b120_2,qCA,qCc _ (by omega) (by omega),qAZ,qCc _ (by omega) (by omega),qBb,qAM];by_cases h1:9223372036854775807+g<x
 ·rw[if_pos (decide_eq_true (by omega)),qBs _ _ Tok.zero.cells rfl,qAt 4 2 1 _ cs _ _ hh (by decide) hc rfl,qAI,qAI,qAJ _ _ rfl,if_pos h1];rfl
 ·rw[if_neg (by rw[decide_eq_true_eq]; omega),qBb,qAM,if_neg h1];by_cases h2:0<g
  ·have hg1:g=1:=by omega
   subst hg1;rw[if_pos (decide_eq_true (by omega)),qCA,vneg];have e:IntKind.i64.wrap (0 - IntKind.i64.wrap (x:Int)) = -(x:Int):=by
    by_cases h3:x=9223372036854775808
    ·subst h3; decide
    ·rw[qAL (x:Int) (by omega) (by omega),qAL _ (by omega) (by omega)]; omega
   rw[e,qBs _ _ (Tok.cells ⟨3,[],-(x:Int),0⟩) rfl,qAZ,qAL _ (by omega) (by omega),qAt 4 2 1 _ cs _ _ hh (by decide) hc rfl,qAI,qAI,qAJ _ _ rfl];simp[One.val,oneOf]
  ·have hg0:g=0:=by omega
   subst hg0;rw[if_neg (by rw[decide_eq_true_eq]; omega),qCA,qAL (x:Int) (by omega) (by omega),qBs _ _ (Tok.cells ⟨3,[],(x:Int),0⟩) rfl,qAt 4 2 1 _ cs _ _ hh (by decide) hc rfl,qAI,qAI,qAJ _ _ rfl];simp[One.val,oneOf]
theorem qNq(s:List UInt8)(hs:s.length<=4611686018427387904):Om 120 [kS s] []=some ((numberM s).val,[]):=by
 refine(qAD rfl).trans ?_;show lim tab.get S 120 0 0 [kS s] h0=_;rw[w120_0,b120_0,qDD,qAs,qAH 145 _ _ rfl (qOf s [45]) rfl,qAs,qAf];have hg:neg s<=1:=by unfold neg; split <;> omega
 have hgl:neg s<=s.length:=by
  unfold neg; split
  ·rename_i h; have:=congrArg List.length h; simp at this; omega
  ·omega
 have eg:IntKind.i64.wrap ((s.length:Int) - ((if s.take [(45:UInt8)].length=[45] then s.drop [(45:UInt8)].length else s).length:Int))=(neg s:Int):=by
  have e0:[(45:UInt8)].length=1:=rfl;rw[e0];have e1:(s.length:Int) - ((if s.take 1=[45] then s.drop 1 else s).length:Int)=(neg s:Int):=by
   unfold neg;unfold neg at hgl;split
   ·rename_i h; rw[if_pos h] at hgl; simp; omega
   ·simp
  rw[e1]; exact qAL _ (by omega) (by omega)
 rw[eg,qF6 _ _ hgl];generalize hr:s.drop (neg s)=r;have hn:=qCj isDigit r;rw[qFV 137 _ _ rfl rfl (λ_=>rfl) (qIT isDigit 107 qFm qGz r) rfl,qBb,qAM];unfold numberM;rw[hr];by_cases h:19<runLen isDigit r
 ·rw[if_pos (decide_eq_true (by omega)),qBs _ _ Tok.zero.cells rfl,qAt 4 2 _ _ _ _ _ (Heap.own_get _ _ _ _ (by decide) (λe=>by cases e)) (by decide) rfl rfl,qAI,qAI,qAJ _ _ rfl,if_pos h];rfl
 ·have hrl:r.length=s.length - neg s:=by rw[<- hr]; simp
  rw[if_neg (by rw[decide_eq_true_eq]; omega),if_neg h,qAZ,qAL _ (by omega) (by omega),<- Int.natCast_add,qHl s (neg s) (neg s+runLen isDigit r) (by omega) (by omega),qK1];have ed:(s.take (neg s+runLen isDigit r)).drop (neg s)=r.take (runLen isDigit r):=by rw[<- hr,List.drop_take]; simp
  rw[ed];have hall:=qRH isDigit r;generalize hds:r.take (runLen isDigit r)=ds at hall;have hdl:ds.length=runLen isDigit r:=by rw[<- hds]; simp[hn]
  have hv:=qHn ds hall;have hp:(10:Nat) ^ ds.length<=10 ^ 19:=Nat.pow_le_pow_right (by decide) (by omega);have loop:∀ (m pos:Nat) (h:Heap) (cs:List Cell),ds.length - pos=m->pos<=ds.length->h.get (.own 29 1)=some (.siter ds pos)->h.get (.own 2 1)=some (.cells cs 0)->cs.length=4 ->
    lim tab.get S 120 0 1 [.v (.c (.ptr (.own 2 1) 0)),kI (neg s:Int),kI (runLen isDigit r:Nat),kN .u64 (numVal (ds.take pos):Int),.v (.c (.ptr (.own 29 1) 0))] h =
     some ((if 9223372036854775807+neg s<numVal ds then bad 11 else ⟨⟨3,[],if 0<neg s then -(numVal ds:Int) else numVal ds,0⟩,((neg s+runLen isDigit r:Nat):Int),0⟩:One).val,[]):=by
   intro m
   induction m with
   |zero =>
    intro pos h cs hm hl hh1 hh2 hcl;rw[w120_1,b120_1,qGj ds pos _ hh1 (by omega),qAj _ 0 (.c (.p (.bool false))) rfl,qCR];have:ds.take pos=ds:=List.take_of_length_le (by omega);rw[this];exact qLB (neg s) (runLen isDigit r) (numVal ds) hg (by omega) (by omega) _ cs ((Heap.own_get_ne h 29 1 _ 2 1 (by decide)).trans hh2) hcl
   |succ m ih =>
    intro pos h cs hm hl hh1 hh2 hcl;obtain⟨b,hb⟩:∃ b,ds[pos]?=some b:=⟨ds[pos]'(by omega),by simp⟩;have hbd:=hall b (List.mem_of_getElem? hb);have hb2:=hbd;simp only[isDigit,Bool.and_eq_true,Nat.ble_eq] at hb2;have htk:ds.take (pos+1)=ds.take pos++[b]:=by rw[List.take_add_one,hb]; rfl
    have hx1:=qHn (ds.take (pos+1)) (λc hc=>hall c (List.mem_of_mem_take hc));have hx2:(10:Nat) ^ (ds.take (pos+1)).length<=10 ^ 19:=Nat.pow_le_pow_right (by decide) (by simp; omega);rw[htk,qFZ] at hx1;rw[htk] at hx2
    rw[w120_1,b120_1,qFS ds pos _ hh1 (by omega),qAj _ 0 (.c (.p (.bool true))) rfl,qD5,qGE ds pos b hb (qGz _ hbd),qAj _ 2 (.c (.p (.int .i32 (b.toNat:Int)))) rfl,
     qDA,qCc _ (by omega) (by omega),qAf]
    have e1:IntKind.i32.wrap ((b.toNat:Int) - 48)=(b.toNat:Int) - 48:=qDe .i32 _ (by show(-2147483648:Int)<=_; omega) (by show _<=(2147483647:Int); omega);rw[e1,qCA,qCc _ (by omega) (by omega),qAZ,qCc _ (by omega) (by omega)];have e2:(10*(numVal (ds.take pos):Int)+((b.toNat:Int) - 48))=(numVal (ds.take (pos+1)):Int):=by rw[htk,qFZ]; omega
    rw[e2];exact ih (pos+1) _ cs (by omega) (by omega) (Heap.own_get h 29 1 _ (by decide) (λe=>by cases e)) ((Heap.own_get_ne h 29 1 _ 2 1 (by decide)).trans hh2) hcl
  refine(loop ds.length 0 _ _ (by omega) (by omega) (Heap.own_get _ 29 1 _ (by decide) (λe=>by cases e)) ((Heap.own_get_ne _ 29 1 _ 2 1 (by decide)).trans (Heap.own_get _ 2 1 _ (by decide) (λe=>by cases e))) rfl).trans ?_;rfl
def meantM(c:UInt8):Option UInt8:=if c.toNat=110 then some 10 else if c.toNat=116 then some 9 else if c.toNat=34 then some c else if c.toNat=92 then some c else none
def meantV(c:UInt8):TVal:=match meantM c with
 |some x => .tup [.c (.p (.int .u8 (x.toNat:Int))),.c (.p (.bool true))]
 |none => .tup [.c (.p (.int .u8 0)),.c (.p (.bool false))]
theorem qP0(c:UInt8):Om 146 [kU c] []=some (meantV c,[]):=by
 refine(qAD rfl).trans ?_;show lim tab.get S 146 0 0 [kU c] h0=_;rw[w146_0,b146_0,qA6,qAM];unfold meantV meantM;by_cases h1:c.toNat=110
 ·rw[if_pos (decide_eq_true (by omega)),if_pos h1,qAI,qAI,qAJ _ _ rfl]; rfl
 rw[if_neg (by rw[decide_eq_true_eq]; omega),if_neg h1,qA6,qAM];by_cases h2:c.toNat=116
 ·rw[if_pos (decide_eq_true (by omega)),if_pos h2,qAI,qAI,qAJ _ _ rfl]; rfl
 rw[if_neg (by rw[decide_eq_true_eq]; omega),if_neg h2,qA6,qAM];by_cases h3:c.toNat=34
 ·rw[if_pos (decide_eq_true (by omega)),if_pos h3,qAI,qAI,qAJ _ _ rfl]; rfl
 rw[if_neg (by rw[decide_eq_true_eq]; omega),if_neg h3,qA6,qAM];by_cases h4:c.toNat=92
 ·rw[if_pos (decide_eq_true (by omega)),if_pos h4,qAI,qAI,qAJ _ _ rfl]; rfl
 rw[if_neg (by rw[decide_eq_true_eq]; omega),if_neg h4,qAI,qAI,qAJ _ _ rfl]; rfl
def textGo:List UInt8->List UInt8->Nat->One
 |[],_,_=>bad 11
 |[c],acc,i=>if c.toNat<32 then bad 11 else if c.toNat=34 then (if 200<acc.length then bad 4 else ⟨⟨2,acc,0,0⟩,((i+1:Nat):Int),0⟩) else bad 11
 |c::d::s,acc,i =>
  if c.toNat<32 then bad 11
  else if c.toNat=34 then (if 200<acc.length then bad 4 else ⟨⟨2,acc,0,0⟩,((i+1:Nat):Int),0⟩)
  else if c.toNat=92 then (match meantM d with
   |none=>bad 11
   |some x=>textGo s (acc++[x]) (i+2))
  else textGo (d::s) (acc++[c]) (i+1)
theorem qCZ(h:Heap)(cs:List Cell)(e:Int)(hh:h.get (.own 2 1)=some (.cells cs 0))(hc:cs.length=4)(O:Oracle)(n:Nat) :
  (vop O (.build [(.p (.int .i64 0)),(.p (.str [])),(.p (.int .i64 0)),(.p (.int .i64 0))] []) h n λx h=>vstore 4 (.v (.c (.ptr (.own 2 1) 0))) x h λ_ h=>vcell true 4 (.v (.c (.ptr (.own 2 1) 0))) h λc0=>tcomp (kI 0) λc1=>tcomp (kI e) λc2=>vfin true 0 [c0,c1,c2] h)=some ((bad e).val,[]):=by
 rw[qBs _ _ Tok.zero.cells rfl,qAt 4 2 1 _ cs _ _ hh (by decide) hc rfl,qAI,qAI,qAJ _ _ rfl];rfl
theorem qII(s:List UInt8)(b:UInt8):byteRows s++[[.int .u8 (b.toNat:Int)]]=byteRows (s++[b]):=by simp[byteRows]
theorem qNZ(s:List UInt8)(hs:s.length<=1073741824):∀ (m i:Nat) (acc:List UInt8) (v:Cell) (h:Heap) (cs:List Cell),s.length - i<=m->i<=s.length->acc.length<=i->Grow [22,68] 1 v (byteRows acc) h->h.get (.own 2 1)=some (.cells cs 0)->cs.length=4 ->
  lim tab.get S 121 0 1 [kS s,.v (.c (.ptr (.own 2 1) 0)),.v (.c v),kI (i:Int)] h=some ((textGo (s.drop i) acc i).val,[]):=by
 intro m
 induction m with
 |zero =>
  intro i acc v h cs hm hl ha G hh hc;rw[w121_1,b121_1,qAs,qAT,qAM,if_neg (by rw[decide_eq_true_eq]; omega),w121_3,b121_3,qCZ h cs 11 hh hc];rw[List.drop_eq_nil_of_le (by omega)]; rfl
 |succ m ih =>
  intro i acc v h cs hm hl ha G hh hc;by_cases hi:i<s.length
  ·obtain⟨c,hcb⟩:∃ c,s[i]?=some c:=⟨s[i]'hi,by simp⟩;have hd:s.drop i=c::s.drop (i+1):=by
    obtain⟨h1,h2⟩:=List.getElem?_eq_some_iff.1 hcb;rw[List.drop_eq_getElem_cons h1,h2]
   have hcc:cs≠[]:=λe=>by rw[e] at hc; cases hc
   rw[w121_1,b121_1,qAs,qAT,qAM,if_pos (decide_eq_true (by omega)),qDC s i c hcb,qAT,qAM];rw[hd];by_cases h1:c.toNat<32
   ·rw[if_pos (decide_eq_true (by omega)),qCZ h cs 11 hh hc];cases s.drop (i+1) <;> simp[textGo,h1]
   rw[if_neg (by rw[decide_eq_true_eq]; omega),qA6];by_cases h2:c.toNat=34
   ·have e:decide ((c.toNat:Int)=34)=true:=decide_eq_true (by omega);have ea:(byteRows acc).length=acc.length:=by simp[byteRows]
    simp only[e,qBw,qH9 G,ea,qBb,qCT,qAM,qA6];by_cases h3:200<acc.length
    ·rw[if_pos (decide_eq_true (by omega)),qCZ h cs 4 hh hc];cases s.drop (i+1) <;> simp[textGo,h1,h2,h3]
    ·rw[if_neg (by rw[decide_eq_true_eq]; omega),if_pos trivial,qJ3 G,qBs _ _ (Tok.cells ⟨2,acc,0,0⟩) rfl,qAZ,qAL _ (by omega) (by omega),qAt 4 2 1 _ cs _ _ hh (by decide) hc rfl,qAI,qAI,qAJ _ _ rfl];cases s.drop (i+1) <;> simp[textGo,h1,h2,h3,One.val,oneOf]
   ·have e:decide ((c.toNat:Int)=34)=false:=decide_eq_false (by omega);simp only[e,qBV,qCC,qCR,qA6];have plain:∀ (hn:¬ (c.toNat=92/\i+1<s.length)),textGo (c::s.drop (i+1)) acc i=textGo (s.drop (i+1)) (acc++[c]) (i+1):=by
     intro hn;cases hr:s.drop (i+1) with
     |nil=>simp[textGo,h1,h2]
     |cons d t =>
      have:i+1<s.length:=by
       have:=congrArg List.length hr; simp at this; omega
      have:¬ c.toNat=92:=λe=>hn ⟨e,this⟩
      simp[textGo,h1,h2,this]
    have go:∀ (x:UInt8) (j:Nat) (hj:i<=j) (hjl:j+1<=s.length) (dd:Nat) (hd0:dd∈[22,68]) (hd1:dd≠2) (hd2:dd+1<1048576) (t':Nat), 
      (vop (orc S (lim tab.get S)) (.bslice 1 1 [(.p (.int .u8 0))] [(0,(.k (kU x)))] false) h t' λx67 h=>vop (orc S (lim tab.get S)) (.append 1 1 false (.k (.v (.c v))) (.k x67)) h dd λx68 h=>lim tab.get S 121 0 2 [kS s,.v (.c (.ptr (.own 2 1) 0)),x68,kI (j:Int)] h)=some ((textGo (s.drop (j+1)) (acc++[x]) (j+1)).val,[]):=by
     intro x j hj hjl dd hd0 hd1 hd2 t';rw[qAx (.bslice 1 1 [(.p (.int .u8 0))] [(0,(.k (kU x)))] false) (kSl 1 true [[.int .u8 (x.toNat:Int)]]) rfl];obtain⟨v',h',G',e',keep⟩:=qEv (by':=1) (new:=[[.int .u8 (x.toNat:Int)]]) true G hd0 (by simp) (by simp) (by simp[byteRows]; omega) hd2;rw[e',w121_2,b121_2,qAZ,qAL _ (by omega) (by omega)];rw[qII] at G';have:=ih (j+1) (acc++[x]) v' h' cs (by omega) hjl (by simp; omega) G' (keep 2 1 _ (Ne.symm hd1) hh (λe=>hcc (by cases e; rfl))) hc;rw[show((j:Int)+1)=((j+1:Nat):Int) by omega];exact this
    by_cases h4:c.toNat=92
    ·have e4:decide ((c.toNat:Int)=92)=true:=decide_eq_true (by omega);have ew:IntKind.i64.wrap ((i:Int)+1)=((i+1:Nat):Int):=by rw[qAL _ (by omega) (by omega)]; omega
     simp only[e4,qBw,qAZ,qAs,qAT,qCT,qAM,ew];by_cases h5:i+1<s.length
     ·obtain⟨d,hdb⟩:∃ d,s[i+1]?=some d:=⟨s[i+1]'h5,by simp⟩;have hd':s.drop (i+1)=d::s.drop (i+1+1):=by
       obtain⟨q1,q2⟩:=List.getElem?_eq_some_iff.1 hdb;rw[List.drop_eq_getElem_cons q1,q2]
      have key:textGo (c::s.drop (i+1)) acc i=match meantM d with|none=>bad 11|some x=>textGo (s.drop (i+1+1)) (acc++[x]) (i+2):=by
       rw[hd']; simp[textGo,h1,h2,h4]
      rw[if_pos (decide_eq_true (by omega)),qDC s (i+1) d hdb,qAH 146 _ _ rfl (qP0 d) (by unfold meantV; split <;> rfl),key];unfold meantV;cases hmd:meantM d with
      |none =>
       dsimp only;rw[qAj _ 0 _ rfl,qAj _ 1 _ rfl,qIo];exact qCZ h cs 11 hh hc (orc S (lim tab.get S)) 64
      |some x =>
       dsimp only;rw[qAj _ 0 _ rfl,qAj _ 1 _ rfl,qIo,qAM,if_neg (by decide)];exact go x (i+1) (by omega) (by omega) 68 (by decide) (by decide) (by decide) 67
     ·rw[if_neg (by rw[decide_eq_true_eq]; omega),plain (λq=>h5 q.2)];exact go c i (by omega) (by omega) 22 (by decide) (by decide) (by decide) 21
    ·have e4:decide ((c.toNat:Int)=92)=false:=decide_eq_false (by omega);simp only[e4,qBV,qCC,qCR];rw[plain (λq=>h4 q.1)];exact go c i (by omega) (by omega) 22 (by decide) (by decide) (by decide) 21
  ·rw[w121_1,b121_1,qAs,qAT,qAM,if_neg (by rw[decide_eq_true_eq]; omega),w121_3,b121_3,qCZ h cs 11 hh hc];rw[List.drop_eq_nil_of_le (by omega)]; rfl
def textM(s:List UInt8):One:=textGo (s.drop 1) [] 1
theorem qPq(s:List UInt8)(hs:s.length<=1073741824)(h1:1<=s.length):Om 121 [kS s] []=some ((textM s).val,[]):=by
 refine(qAD rfl).trans ?_;show lim tab.get S 121 0 0 [kS s] h0=_;rw[w121_0,b121_0,qDD];exact qNZ s hs s.length 1 [] _ _ _ (by omega) h1 (by simp) (Grow.nil _ 1 _) (Heap.own_get _ _ _ _ (by decide) (λe=>by cases e)) rfl
open Go Go.AI
def isSingle(n:Nat):Bool:=Nat.beq n 123||Nat.beq n 125||Nat.beq n 60||Nat.beq n 62||Nat.beq n 44||Nat.beq n 58||Nat.beq n 40||Nat.beq n 41||Nat.beq n 46||Nat.beq n 36||Nat.beq n 124||Nat.beq n 61||Nat.beq n 59
def isBlank(n:Nat):Bool:=Nat.beq n 32||Nat.beq n 9||Nat.beq n 10||Nat.beq n 13
theorem qM0(b:UInt8):Om 84 [kS [123,125,60,62,44,58,40,41,46,36,124,61,59],kS [b]] []=some (kB (isSingle b.toNat),[]):=by
 refine(qAD rfl).trans ?_;have:=qGR (T:=tab.get) (S:=S) blks_ok (f:=84) (p:=isSingle) (N:=60) (av:=λn=>[kS [123,125,60,62,44,58,40,41,46,36,124,61,59],kS [UInt8.ofNat n]]) (by kernel_rfl) b;rw[UInt8.ofNat_toNat] at this;exact this
theorem qP4(b:UInt8):Om 84 [kS [32,9,10,13],kS [b]] []=some (kB (isBlank b.toNat),[]):=by
 refine(qAD rfl).trans ?_;have:=qGR (T:=tab.get) (S:=S) blks_ok (f:=84) (p:=isBlank) (N:=60) (av:=λn=>[kS [32,9,10,13],kS [UInt8.ofNat n]]) (by kernel_rfl) b;rw[UInt8.ofNat_toNat] at this;exact this
theorem qMs:Om 147 [kS [45,62,32,58,61]] []=some (.v (.c (.p (.slice 1 true [[.str [45,62]],[.str [58,61]]]))),[]) :=
 (qAD rfl).trans (qBt blks_ok 200 147 0 0 _ _ _ (by kernel_rfl))
def two1:List UInt8:=[45,62]
def two2:List UInt8:=[58,61]
def signM(s:List UInt8):One :=
 if s.take 2=two1 then ⟨⟨4,two1,0,0⟩,2,0⟩ else if s.take 2=two2 then ⟨⟨4,two2,0,0⟩,2,0⟩
 else match s with
  |[]=>bad 11
  |c::_=>if isSingle c.toNat then ⟨⟨4,[c],0,0⟩,1,0⟩ else bad 11
theorem qPz(s:List UInt8)(c:UInt8)(t:List UInt8)(hs:s=c::t)(h:Heap)(cs:List Cell)(hh:h.get (.own 2 1)=some (.cells cs 0))(hc:cs.length=4) :
  lim tab.get S 122 0 2 [kS s,.v (.c (.ptr (.own 2 1) 0))] h=some ((if isSingle c.toNat then ⟨⟨4,[c],0,0⟩,1,0⟩ else bad 11:One).val,[]):=by
 have hl:1<=s.length:=by rw[hs]; simp
 have e1:s.take 1=[c]:=by rw[hs]; rfl
 have e2:kI 1=kI ((1:Nat):Int):=rfl;have sl:=λ(O:Oracle) (h:Heap) (d:Nat) (k:TVal->Heap->Res1)=>qFh (O:=O) (h:=h) (d:=d) (k:=k) s 1 hl
 rw[w122_2,b122_2];rw[show(∀ (O:Oracle) (h:Heap) (d:Nat) (k:TVal->Heap->Res1),vop O (.slice 0 true (.k (kS s)) none (some (.k (kI 1))) none) h d k=k (kS (s.take 1)) h) from sl];rw[e1,qAH 84 _ _ rfl (qM0 c) rfl,qIo,qAM];cases hp:isSingle c.toNat with
 |false=>rw[if_pos (show(!false)=true from rfl)]; exact qCZ h cs 11 hh hc (orc S (lim tab.get S)) 25
 |true =>
  rw[if_neg (show ¬ (!true)=true by decide)];rw[show(∀ (O:Oracle) (h:Heap) (d:Nat) (k:TVal->Heap->Res1),vop O (.slice 0 true (.k (kS s)) none (some (.k (kI 1))) none) h d k=k (kS (s.take 1)) h) from sl];rw[e1,qBs _ _ (Tok.cells ⟨4,[c],0,0⟩) rfl,qAt 4 2 1 _ cs _ _ hh (by decide) hc rfl,qAI,qAI,qAJ _ _ rfl];rfl
theorem qQr(s:List UInt8)(hs:1<=s.length):Om 122 [kS s] []=some ((signM s).val,[]):=by
 obtain⟨c,t,hct⟩:∃ c t,s=c::t:=by cases s with
  |nil=>simp at hs
  |cons c t=>exact⟨c,t,rfl⟩
 refine(qAD rfl).trans ?_;show lim tab.get S 122 0 0 [kS s] h0=_;rw[w122_0,b122_0,qDD,qAH 147 _ _ rfl qMs rfl,qHJ];have hh:=Heap.own_get h0 2 (h0.gen 2+1) (.cells [.p (.int .i64 0),.p (.str []),.p (.int .i64 0),.p (.int .i64 0)] 0) (by decide) (λe=>by cases e);generalize (h0.own 2 (h0.gen 2+1) (.cells [.p (.int .i64 0),.p (.str []),.p (.int .i64 0),.p (.int .i64 0)] 0))=h at hh;have step:∀ (i:Nat) (two:List UInt8),[[PVal.str [45,62]],[PVal.str [58,61]]][i]?=some [.str two]->two.length=2->i<=1 ->
   lim tab.get S 122 0 1 [kS s,.v (.c (.ptr (.own 2 (h0.gen 2+1)) 0)),.v (.c (.p (.slice 1 true [[.str [45,62]],[.str [58,61]]]))),kI (2:Nat),kI (i:Int)] h =
    if s.take 2=two then some ((⟨⟨4,two,0,0⟩,2,0⟩:One).val,[]) else lim tab.get S 122 0 1 [kS s,.v (.c (.ptr (.own 2 (h0.gen 2+1)) 0)),.v (.c (.p (.slice 1 true [[.str [45,62]],[.str [58,61]]]))),kI (2:Nat),kI ((i+1:Nat):Int)] h:=by
  intro i two hi htl hi1;rw[w122_1,b122_1,qAT,qAM,if_pos (decide_eq_true (by omega)),qNz 1 _ _ i _ hi,qLu 1 0 _ (.str two) rfl,qAH 99 _ _ rfl (qIH s two) rfl,qAM,htl];by_cases he:s.take 2=two
  ·rw[if_pos (decide_eq_true he),if_pos he,qBs _ _ (Tok.cells ⟨4,two,0,0⟩) rfl,qAs,htl,qAt 4 2 _ _ _ _ _ hh (by decide) rfl rfl,qAI,qAI,qAJ _ _ rfl];rfl
  ·rw[if_neg (by rw[decide_eq_true_eq]; exact he),if_neg he,qAZ,qAL _ (by omega) (by omega)];rfl
 have s0:=step 0 [45,62] rfl rfl (by omega);have s1:=step 1 [58,61] rfl rfl (by omega);show lim tab.get S 122 0 1 [_,_,_,kI (2:Nat),kI ((0:Nat):Int)] h=_;rw[s0,s1];unfold signM two1 two2;split
 ·rfl
 split
 ·rfl
 rw[w122_1,b122_1,qAT,qAM,if_neg (by rw[decide_eq_true_eq]; omega)];refine(qPz s c t hct h _ hh rfl).trans ?_;rw[hct]
open Go Go.AI
def numHead:List UInt8->Bool
 |[]=>false
 |c::t=>isDigit c.toNat||(decide (c.toNat=45)&&match t with|[]=>false|d::_=>isDigit d.toNat)
def oneM(s:List UInt8):One :=
 match s with
 |[]=>bad 11
 |c::_=>if isLetter c.toNat then wrdM s else if numHead s then numberM s else if c.toNat=34 then textM s else signM s
theorem qFC(r:One)(h:Heap)(cs:List Cell)(hh:h.get (.own 2 1)=some (.cells cs 0))(hc:cs.length=4) :
  (vext r.val 0 h λx13 h=>vext r.val 1 h λx14 h=>vext r.val 2 h λx15 h=>vstore 4 (.v (.c (.ptr (.own 2 1) 0))) x13 h λ_ h=>vcell true 4 (.v (.c (.ptr (.own 2 1) 0))) h λc0=>tcomp x14 λc1=>tcomp x15 λc2=>vfin true 0 [c0,c1,c2] h)=some (r.val,[]):=by
 rw[show r.val = .tup [.agg r.t.cells,.c (.p (.int .i64 r.n)),.c (.p (.int .i64 r.e))] from rfl,qAj _ 0 _ rfl,qAj _ 1 _ rfl,qAj _ 2 _ rfl,qAt 4 2 1 _ cs _ _ hh (by decide) hc rfl,qAI,qAI,qAJ _ _ rfl];rfl
theorem qFA(s:List UInt8)(c:UInt8)(t:List UInt8)(hct:s=c::t)(hs:s.length<=1073741824)(b:Bool)(h:Heap)(cs:List Cell)(hh:h.get (.own 2 1)=some (.cells cs 0))(hc:cs.length=4) :
  lim tab.get S 85 0 1 [kS s,.v (.c (.ptr (.own 2 1) 0)),kU c,kB b] h=some ((if b then numberM s else if c.toNat=34 then textM s else signM s).val,[]):=by
 have hl:1<=s.length:=by rw[hct]; simp
 rw[w85_1,b85_1,qAM];cases b with
 |true =>
  rw[if_pos rfl,qAH 120 _ _ rfl (qNq s (by omega)) rfl];exact qFC _ h cs hh hc
 |false =>
  rw[if_neg (by decide),qA6,qAM];by_cases h1:c.toNat=34
  ·rw[if_pos (decide_eq_true (by omega)),qAH 121 _ _ rfl (qPq s hs hl) rfl];simp only[h1,if_true];exact qFC _ h cs hh hc
  ·rw[if_neg (by rw[decide_eq_true_eq]; omega),qAH 122 _ _ rfl (qQr s hl) rfl];simp only[h1,if_false];exact qFC _ h cs hh hc
theorem qSK(s:List UInt8)(hs:s.length<=1073741824)(hl:1<=s.length):Om 85 [kS s] []=some ((oneM s).val,[]):=by
 obtain⟨c,t,hct⟩:∃ c t,s=c::t:=by cases s with
  |nil=>simp at hl
  |cons c t=>exact⟨c,t,rfl⟩
 have hc0:s[0]?=some c:=by rw[hct]; rfl
 refine(qAD rfl).trans ?_;show lim tab.get S 85 0 0 [kS s] h0=_;rw[w85_0,b85_0,qDD];have hh:(h0.own 2 (h0.gen 2+1) (.cells [.p (.int .i64 0),.p (.str []),.p (.int .i64 0),.p (.int .i64 0)] 0)).get (.own 2 1)=_:=Heap.own_get h0 2 (h0.gen 2+1) (.cells [.p (.int .i64 0),.p (.str []),.p (.int .i64 0),.p (.int .i64 0)] 0) (by decide) (λe=>by cases e);generalize (h0.own 2 (h0.gen 2+1) (.cells [.p (.int .i64 0),.p (.str []),.p (.int .i64 0),.p (.int .i64 0)] 0))=h at hh;rw[show h0.gen 2+1=1 from rfl];have ei:∀ (k:TVal->Heap->Res1),vindex (kS s) (kI 0) h k=k (kU c) h:=λk=>qDC s 0 c hc0
 rw[ei,qAH 118 _ _ rfl (qNG c) rfl,qAM];have hO:oneM s=if isLetter c.toNat then wrdM s else if numHead s then numberM s else if c.toNat=34 then textM s else signM s:=by rw[hct]; rfl
 rw[hO];cases hL:isLetter c.toNat with
 |true =>
  rw[if_pos rfl,qAH 119 _ _ rfl (qRT s) rfl];exact qFC _ h _ hh rfl
 |false =>
  rw[if_neg (by decide),qAH 107 _ _ rfl (qFm c) rfl,qAM];simp only[Bool.false_eq_true,if_false];cases hD:isDigit c.toNat with
  |true =>
   have hN:numHead s=true:=by rw[hct]; simp[numHead,hD]
   rw[if_pos rfl,hN];exact qFA s c t hct hs true h _ hh rfl
  |false =>
   rw[if_neg (by decide),qA6];by_cases h45:c.toNat=45
   ·have e:decide ((c.toNat:Int)=45)=true:=decide_eq_true (by omega);simp only[e,qBw,qAs,qBb,qCT];cases t with
    |nil =>
     have e1:decide ((1:Int)<(s.length:Int))=false:=decide_eq_false (by rw[hct]; simp);have hN:numHead s=false:=by rw[hct]; simp[numHead,hD]
     simp only[e1,qBV,qCC];rw[hN];exact qFA s c [] hct hs false h _ hh rfl
    |cons d u =>
     have e1:decide ((1:Int)<(s.length:Int))=true:=decide_eq_true (by rw[hct]; simp; omega);have hN:numHead s=isDigit d.toNat:=by rw[hct]; show(isDigit c.toNat||(decide (c.toNat=45)&&isDigit d.toNat))=_; rw[hD,decide_eq_true h45]; rfl
     have ei1:∀ (k:TVal->Heap->Res1),vindex (kS s) (kI 1) h k=k (kU d) h:=λk=>qDC s 1 d (by rw[hct]; rfl)
     simp only[e1,qBw,ei1,qCT];rw[qAH 107 _ _ rfl (qFm d) rfl,hN];exact qFA s c (d::u) hct hs _ h _ hh rfl
   ·have e:decide ((c.toNat:Int)=45)=false:=decide_eq_false (by omega);have hN:numHead s=false:=by rw[hct]; simp[numHead,hD,h45]
    simp only[e,qBV,qCC];rw[hN];exact qFA s c t hct hs false h _ hh rfl
open Go Go.AI
theorem qIG:∀ (k:Nat) (s acc:List UInt8) (i:Nat),s.length<=k->(textGo s acc i).e=0->∃ n:Nat,(textGo s acc i).n=n/\i+1<=n/\n<=i+s.length:=by
 intro k
 induction k with
 |zero =>
  intro s acc i hk he;cases s with
  |nil=>simp[textGo,bad] at he
  |cons _ _=>simp at hk
 |succ k ih =>
  intro s acc i hk he
  match s,hk,he with
  |[],_,he=>simp[textGo,bad] at he
  |[c],_,he =>
   unfold textGo at he ⊢;by_cases h1:c.toNat<32
   ·rw[if_pos h1] at he; simp[bad] at he
   rw[if_neg h1] at he ⊢;by_cases h2:c.toNat=34
   ·rw[if_pos h2] at he ⊢;by_cases h3:200<acc.length
    ·rw[if_pos h3] at he; simp[bad] at he
    ·rw[if_neg h3]; exact⟨i+1,rfl,by omega,by simp⟩
   ·rw[if_neg h2] at he; simp[bad] at he
  |c::d::s,hk,he =>
   unfold textGo at he ⊢;by_cases h1:c.toNat<32
   ·rw[if_pos h1] at he; simp[bad] at he
   rw[if_neg h1] at he ⊢;by_cases h2:c.toNat=34
   ·rw[if_pos h2] at he ⊢;by_cases h3:200<acc.length
    ·rw[if_pos h3] at he; simp[bad] at he
    ·rw[if_neg h3]; exact⟨i+1,rfl,by omega,by simp⟩
   rw[if_neg h2] at he ⊢;by_cases h4:c.toNat=92
   ·rw[if_pos h4] at he ⊢;cases hm:meantM d with
    |none=>rw[hm] at he; simp[bad] at he
    |some x =>
     rw[hm] at he;obtain⟨n,e1,e2,e3⟩:=ih s (acc++[x]) (i+2) (by simp at hk; omega) he;exact⟨n,e1,by omega,by simp; omega⟩
   ·rw[if_neg h4] at he ⊢;obtain⟨n,e1,e2,e3⟩:=ih (d::s) (acc++[c]) (i+1) (by simp at hk ⊢; omega) he;exact⟨n,e1,by omega,by simp at e3 ⊢; omega⟩
theorem qLC(s:List UInt8)(hl:1<=s.length)(he:(oneM s).e=0):∃ n:Nat,(oneM s).n=n/\1<=n/\n<=s.length:=by
 obtain⟨c,t,hct⟩:∃ c t,s=c::t:=by cases s with
  |nil=>simp at hl
  |cons c t=>exact⟨c,t,rfl⟩
 have hO:oneM s=if isLetter c.toNat then wrdM s else if numHead s then numberM s else if c.toNat=34 then textM s else signM s:=by rw[hct]; rfl
 rw[hO] at he ⊢;by_cases h1:isLetter c.toNat=true
 ·rw[if_pos h1] at he ⊢;unfold wrdM at he ⊢;by_cases h2:16<runLen isWord s
  ·rw[if_pos h2] at he; simp[bad] at he
  ·rw[if_neg h2];refine⟨runLen isWord s,rfl,?_,qCj _ _⟩;rw[hct]; simp[runLen,isWord,h1]
 rw[if_neg h1] at he ⊢;by_cases h2:numHead s=true
 ·rw[if_pos h2] at he ⊢;unfold numberM at he ⊢;by_cases h3:19<runLen isDigit (s.drop (neg s))
  ·rw[if_pos h3] at he; simp[bad] at he
  rw[if_neg h3] at he ⊢;by_cases h4:9223372036854775807+neg s<numVal ((s.drop (neg s)).take (runLen isDigit (s.drop (neg s))))
  ·rw[if_pos h4] at he; simp[bad] at he
  rw[if_neg h4];refine⟨neg s+runLen isDigit (s.drop (neg s)),rfl,?_,?_⟩
  ·by_cases h45:c=45
   ·have:neg s=1:=by unfold neg; rw[hct,h45]; rfl
    omega
   ·have hn:neg s=0:=by unfold neg; rw[hct]; rw[if_neg (by simp[h45])]
    have hc45:¬ c.toNat=45:=λe=>h45 (UInt8.toNat_inj.1 e)
    have hd:isDigit c.toNat=true:=by
     rw[hct] at h2;have h2':(isDigit c.toNat||(decide (c.toNat=45)&&_))=true:=h2;rw[decide_eq_false hc45] at h2'
     simpa using h2'
    rw[hn,hct];simp[runLen,hd]
  ·have:=qCj isDigit (s.drop (neg s));simp at this;unfold neg at this ⊢;split
   ·rename_i h; rw[if_pos h] at this; have:=congrArg List.length h; simp at this; omega
   ·rename_i h; rw[if_neg h] at this; omega
 rw[if_neg h2] at he ⊢;by_cases h3:c.toNat=34
 ·rw[if_pos h3] at he ⊢;obtain⟨n,e1,e2,e3⟩:=qIG _ (s.drop 1) [] 1 (Nat.le_refl _) he;exact⟨n,e1,by omega,by simp at e3; omega⟩
 rw[if_neg h3] at he ⊢;unfold signM at he ⊢;by_cases h4:s.take 2=two1
 ·rw[if_pos h4];have:=congrArg List.length h4;simp[two1] at this;exact⟨2,rfl,by omega,by omega⟩
 rw[if_neg h4] at he ⊢;by_cases h5:s.take 2=two2
 ·rw[if_pos h5];have:=congrArg List.length h5;simp[two2] at this;exact⟨2,rfl,by omega,by omega⟩
 rw[if_neg h5] at he ⊢;rw[hct] at he ⊢;dsimp only at he ⊢;by_cases h6:isSingle c.toNat=true
 ·rw[if_pos h6]; exact⟨1,rfl,by omega,by simp⟩
 ·rw[if_neg h6] at he; simp[bad] at he
def toksGo:Nat->List UInt8->Nat->List Tok->Except Int (List Tok)
 |0,_,_,acc => .ok acc
 |f+1,s,i,acc =>
  let k:=runLen isBlank s
  match s.drop k with
  |[] => .ok acc
  |c::r =>
   let o:=oneM (c::r)
   if o.e=0 then toksGo f ((c::r).drop o.n.toNat) (i+k+o.n.toNat) (acc++[{ o.t with pos:=((i+k:Nat):Int) }]) else .error o.e
def toksFin:Except Int (List Tok)->Except Int (List Tok)
 |.error e => .error e
 |.ok l=>if 400<l.length then .error 3 else .ok l
def tokensM(s:List UInt8):Except Int (List Tok):=if 1500<s.length then .error 4 else toksFin (toksGo (s.length+1) s 0 [])
def toksVal:Except Int (List Tok)->TVal
 |.error e => .tup [.c (.p .nilslice),.c (.p (.int .i64 e))]
 |.ok l => .tup [.c (.p (growP 4 (l.map Tok.row))),.c (.p (.int .i64 0))]
theorem qL6(s:List UInt8)(hs:s.length<=1500)(v:Cell)(h:Heap):∀ (m i:Nat),s.length - i<=m->i<=s.length ->
  lim tab.get S 54 0 2 [kS s,.v (.c v),kI (i:Int)] h=lim tab.get S 54 0 3 [kS s,.v (.c v),kI ((i+runLen isBlank (s.drop i):Nat):Int)] h:=by
 intro m
 induction m with
 |zero =>
  intro i hm hl;have e:decide ((i:Int)<(s.length:Int))=false:=decide_eq_false (by omega);rw[w54_2,b54_2,qAs,qAT,e];simp only[qBV,qCC,qCR];rw[List.drop_eq_nil_of_le (by omega)]; rfl
 |succ m ih =>
  intro i hm hl;by_cases hi:i<s.length
  ·obtain⟨b,hb⟩:∃ b,s[i]?=some b:=⟨s[i]'hi,by simp⟩;have hd:s.drop i=b::s.drop (i+1):=by
    obtain⟨h1,h2⟩:=List.getElem?_eq_some_iff.1 hb;rw[List.drop_eq_getElem_cons h1,h2]
   have e:decide ((i:Int)<(s.length:Int))=true:=decide_eq_true (by omega);have ew:IntKind.i64.wrap ((i:Int)+1)=((i+1:Nat):Int):=by rw[qAL _ (by omega) (by omega)]; omega
   have e1:(s.take (i+1)).drop i=[b]:=by rw[List.drop_take,hd]; simp
   rw[w54_2,b54_2,qAs,qAT,e];simp only[qBw,qAZ,ew,qHl s i (i+1) (by omega) (by omega),e1,qCT];rw[qAH 84 _ _ rfl (qP4 b) rfl,qAM,hd];cases hp:isBlank b.toNat with
   |true =>
    rw[if_pos rfl,ih (i+1) (by omega) (by omega)];simp only[runLen,hp,if_true];rw[show i+1+runLen isBlank (s.drop (i+1))=i+(runLen isBlank (s.drop (i+1))+1) by omega]
   |false =>
    rw[if_neg (by decide)];simp only[runLen,hp,Bool.false_eq_true,if_false];rfl
  ·have e:decide ((i:Int)<(s.length:Int))=false:=decide_eq_false (by omega);rw[w54_2,b54_2,qAs,qAT,e];simp only[qBV,qCC,qCR];rw[List.drop_eq_nil_of_le (by omega)]; rfl
theorem qMP(acc:List Tok)(v:Cell)(h:Heap)(G:Grow [46] 4 v (acc.map Tok.row) h):lim tab.get S 54 0 4 [.v (.c v)] h=some (toksVal (toksFin (.ok acc)),[]):=by
 rw[w54_4,b54_4,qH9 G,qBb,qAM];show _=some (toksVal (if 400<acc.length then .error 3 else .ok acc),[]);by_cases h1:400<acc.length
 ·rw[if_pos (decide_eq_true (by simp; omega)),if_pos h1,qAI,qAI,qAJ _ _ rfl]; rfl
 ·rw[if_neg (by rw[decide_eq_true_eq]; simp; omega),if_neg h1,qAI,qAI,qNk _ G]; rfl
theorem qJp(s:List UInt8)(hs:s.length<=1500):∀ (f i:Nat) (acc:List Tok) (v:Cell) (h:Heap),s.length - i<f->i<=s.length->acc.length<=i->Grow [46] 4 v (acc.map Tok.row) h ->
  lim tab.get S 54 0 1 [kS s,.v (.c v),kI (i:Int)] h=some (toksVal (toksFin (toksGo f (s.drop i) i acc)),[]):=by
 intro f
 induction f with
 |zero=>intro i acc v h hm; omega
 |succ f ih =>
  intro i acc v h hm hl ha G;rw[w54_1,b54_1,qL6 s hs v h _ i (Nat.le_refl _) hl];unfold toksGo;dsimp only;have hk:=qCj isBlank (s.drop i);simp only[List.length_drop] at hk;generalize hkk:runLen isBlank (s.drop i)=k at hk;rw[w54_3,b54_3,qAs,qA6,qAM,List.drop_drop];by_cases he:i+k=s.length
  ·rw[if_pos (decide_eq_true (by omega)),List.drop_eq_nil_of_le (by omega)];exact qMP acc v h G
  ·rw[if_neg (by rw[decide_eq_true_eq]; omega),qF6 s (i+k) (by omega)];generalize hr:s.drop (i+k)=r;have hrl:r.length=s.length - (i+k):=by rw[<- hr]; simp
   obtain⟨c,t,hct⟩:∃ c t,r=c::t:=by cases r with
    |nil=>simp at hrl; omega
    |cons c t=>exact⟨c,t,rfl⟩
   rw[qAH 85 _ _ rfl (qSK r (by omega) (by omega)) rfl];have hb:=qLC r (by omega);rw[hct];dsimp only;rw[<- hct];generalize hom:oneM r=o at hb;rw[show o.val = .tup [.agg o.t.cells,.c (.p (.int .i64 o.n)),.c (.p (.int .i64 o.e))] from rfl,qAj _ 0 _ rfl,qAj _ 1 _ rfl,qAj _ 2 _ rfl,qDD];rw[qDo 4 (.own 6 (h.gen 6+1)) 0 0 _ (.agg o.t.cells) (Heap.own_get _ _ _ _ (by decide) (λe=>by cases e)) (by decide) rfl (by decide),Heap.put_own,qIj,qAM];by_cases hoe:o.e=0
   ·obtain⟨n,e1,e2,e3⟩:=hb hoe;clear hb;have q1:s.length - (i+k+n)<f:=by omega
    have q2:i+k+n<=s.length:=by omega
    have q3:acc.length+1<=i+k+n:=by omega
    have q4:(acc.length+1)*40<=1099511627776:=by omega
    have q5:(-9223372036854775808:Int)<=((i+k:Nat):Int)+(n:Int):=by omega
    have q6:((i+k:Nat):Int)+(n:Int)<=9223372036854775807:=by omega
    have q7:(((i+k:Nat):Int)+(n:Int))=((i+k+n:Nat):Int):=by omega
    rw[if_neg (by simp[hoe]),if_pos hoe,qGP];rw[qDo 1 (.own 6 (h.gen 6+1)) (0+3) 0 _ (.c (.p (.int .i64 ((i+k:Nat):Int)))) (Heap.own_get _ _ _ _ (by decide) (λe=>by cases e)) (by decide) rfl (by exact Nat.le_refl 4),Heap.put_own];rw[qNV 4 (.own 6 (h.gen 6+1)) 0 0 _ (Heap.own_get _ _ _ _ (by decide) (λe=>by cases e)) rfl];rw[qAx (.bslice 4 1 _ _ false) (kSl 4 true [Tok.row { o.t with pos:=((i+k:Nat):Int) }]) rfl];have G1:=((G.own (d:=6) (h.gen 6+1) (.cells [.p (.int .i64 0),.p (.str []),.p (.int .i64 0),.p (.int .i64 0)] 0) (by decide)).own (d:=6) (h.gen 6+1) (.cells (splice [.p (.int .i64 0),.p (.str []),.p (.int .i64 0),.p (.int .i64 0)] 0 (Comp.agg o.t.cells).cells) 0) (by decide)).own (d:=6) (h.gen 6+1) (.cells (splice (splice [.p (.int .i64 0),.p (.str []),.p (.int .i64 0),.p (.int .i64 0)] 0 (Comp.agg o.t.cells).cells) (0+3) (Comp.c (.p (.int .i64 ((i+k:Nat):Int)))).cells) 0) (by decide);obtain⟨v',h',G',e',_⟩:=qEv (d:=46) (by':=40) (new:=[Tok.row { o.t with pos:=((i+k:Nat):Int) }]) true G1 (by decide) (by simp) (by simp[Tok.row]) (by simpa using q4) (by decide);refine(e' _ _ _).trans ?_;rw[e1,qAZ,qAL _ q5 q6,q7,Int.toNat_natCast];have:=ih (i+k+n) (acc++[{ o.t with pos:=((i+k:Nat):Int) }]) v' h' q1 q2 (by simpa using q3) (by simpa using G');rw[this,<- hr,List.drop_drop]
   ·rw[if_pos (by simp[hoe]),if_neg hoe,qAI,qAI,qAJ _ _ rfl];rfl
theorem qOC(s:List UInt8):Om 54 [kS s] []=some (toksVal (tokensM s),[]):=by
 refine(qAD rfl).trans ?_;show lim tab.get S 54 0 0 [kS s] h0=_;rw[w54_0,b54_0,qAs,qBb,qAM];unfold tokensM;by_cases h1:1500<s.length
 ·rw[if_pos (decide_eq_true (by omega)),if_pos h1,qAI,qAI,qAJ _ _ rfl]; rfl
 ·rw[if_neg (by rw[decide_eq_true_eq]; omega),if_neg h1];exact qJp s (by omega) (s.length+1) 0 [] (.p .nilslice) h0 (by omega) (by omega) (by simp) (Grow.nil _ 4 _)
open Go Go.AI
def leadM(key:List UInt8):List (List UInt8)->Nat
 |[]=>0
 |a::l=>if bless a key then leadM key l+1 else 0
theorem qJe(key:List UInt8):∀ l:List (List UInt8),leadM key l<=l.length
 |[]=>Nat.le_refl _
 |a::l=>by
  unfold leadM;split
  ·have:=qJe key l; simp; omega
  ·exact Nat.zero_le _
def putM(v:TT)(key:List UInt8)(x:TT):TT :=
 if v.names.list[leadM key v.names.list]?=some key then v else
  .mk v.kind v.name (.mk false (v.names.list.take (leadM key v.names.list)++[key]++v.names.list.drop (leadM key v.names.list))) (.mk false (v.kids.list.take (leadM key v.names.list)++[x]++v.kids.list.drop (leadM key v.names.list)))
abbrev p3:TVal := .v (.c (.ptr (.own 3 1) 0))
abbrev p5:TVal := .v (.c (.ptr (.own 5 1) 0))
abbrev p6:TVal := .v (.c (.ptr (.own 6 1) 0))
open Go Go.AI
def nameL:List (List UInt8):=[[97],[98],[99],[110,97,109,101],[110],[73,110,116],[116,121,112,101]]
def nameM(n:Int):List UInt8:=nameL.getD (withinM n 7).toNat []
theorem qJX(n:Int):nameL[(withinM n 7).toNat]?=some (nameM n):=by
 have h:=qCy n 7 (by decide);have h1:(withinM n 7).toNat<nameL.length:=by show _<7; omega
 unfold nameM;rw[List.getD_eq_getElem?_getD,List.getElem?_eq_getElem h1]; rfl
theorem qNB(n:Int):Om 21 [kI n] []=some (kS (nameM n),[]):=by
 have hw:=qCy n 7 (by decide);have e:(nameL.map sRow)[(withinM n 7).toNat]?=some (sRow (nameM n)):=by rw[List.getElem?_map,qJX]; rfl
 have w0:decide (0<=withinM n 7)=true:=decide_eq_true hw.1;have B:∀ {β:Type}{O:Oracle}{h:Heap}{d:Nat}{k:TVal->Heap->Option β},vop O (.bslice 1 7 [.p (.str [])] [(0,.k (kS [97])),(1,.k (kS [98])),(2,.k (kS [99])),(3,.k (kS [110,97,109,101])),(4,.k (kS [110])),(5,.k (kS [73,110,116])),(6,.k (kS [116,121,112,101]))] false) h d k=k (kSl 1 true (nameL.map sRow)) h:=λ{β O h d k}=>qAx _ _ rfl
 refine(qAD rfl).trans ?_;show lim tab.get S 21 0 0 [kI n] h0=_;rw[w21_0,b21_0];simp (maxSteps:=9999999) +contextual only[exa,rA,rB,rC,rD,rE,rF,rG,rH,rI,B,u19 n 7 (by decide) (by decide),e,w0,oneOf]
theorem u21{β:Type}{k:TVal->Heap->Option β}{h:Heap}{d:Nat}(n:Int):vcall Om (.v (.c (.func 21 []))) [kI n] h d k=k (kS (nameM n)) h:=qAH 21 _ _ rfl (qNB n) rfl
open Go Go.AI
abbrev z4:List Cell:=[.p (.int .i64 0),.p (.str []),.p .nilslice,.p .nilslice]
abbrev t3:TVal := .v (.c (.ptr (.own 3 1) 0))
abbrev t6:TVal := .v (.c (.ptr (.own 6 1) 0))
abbrev t8:TVal := .v (.c (.ptr (.own 8 1) 0))
structure TreeH (r:RW) (t:TT) (h:Heap):Prop where
 a3:h.get (.own 3 1)=some (.cells (pcells r.row) 0)
 a6:h.get (.own 6 1)=some (.cells z4 0)
 a8:h.get (.own 8 1)=some (.cells (pcells t.row) 0)
theorem TreeH.put{r:RW}{t:TT}{h:Heap}(H:TreeH r t h)(t':TT):TreeH r t' (h.own 8 1 (.cells (pcells t'.row) 0)) :=
 ⟨(Heap.own_get_ne h 8 1 _ 3 1 (by decide)).trans H.a3,(Heap.own_get_ne h 8 1 _ 6 1 (by decide)).trans H.a6,qJI h 8 1 _ 0 (by decide)⟩
theorem qR2(row:List PVal)(h:row.length=4):put1 z4 0 (pcells row)=pcells row:=qBA _ _ (by simp[pcells,h])
open Go Go.AI
mutual
def smT:TT->Prop
 |.mk k n ns l=>ns.len<=1000/\l.len<=1000/\smTS l
def smTS:Sl TT->Prop
 |.nil=>True
 |.mk _ l=>smTL l
def smTL:List TT->Prop
 |[]=>True
 |r::rs=>smT r/\smTL rs
end
theorem qKp:∀ l:List TT,smTL l↔∀ x∈l,smT x
 |[]=>by simp[smTL]
 |r::l=>by simp[smTL,qKp l]
theorem qGM(t:TT):smT t↔t.names.len<=1000/\t.kids.len<=1000/\∀ x∈t.kids.list,smT x:=by
 cases t with
 |mk k n ns l =>
  rw[smT,<- qKp];cases l <;> simp[smTS,smTL,Sl.list,TT.kids,TT.names]
mutual
def sameT:TT->TT->Bool
 |.mk k n ns l,b=>((decide (k=b.kind)&&decide (n=b.name))&&decide (ns.list=b.names.list))&&sameS l b.kids.list
def sameS:Sl TT->List TT->Bool
 |.nil,m=>m.isEmpty
 |.mk _ l,m=>sameL l m
def sameL:List TT->List TT->Bool
 |[],[]=>true
 |a::l,b::m=>sameT a b&&sameL l m
 |_,_=>false
end
theorem qQL(l:Sl TT)(m:List TT):sameS l m=sameL l.list m:=by
 cases l with
 |nil=>cases m <;> simp[sameS,sameL,Sl.list]
 |mk t l=>simp[sameS,Sl.list]
theorem qIk(a b:TT):sameT a b=(((decide (a.kind=b.kind)&&decide (a.name=b.name))&&decide (a.names.list=b.names.list))&&sameL a.kids.list b.kids.list):=by
 cases a with
 |mk k n ns l=>rw[sameT,qQL]; rfl
theorem qEs:∀ (l m:List TT),l.length≠m.length->sameL l m=false
 |[],[],h=>absurd rfl h
 |[],_::_,_=>by simp[sameL]
 |_::_,[],_=>by simp[sameL]
 |a::l,b::m,h=>by
  rw[sameL,qEs l m (λe=>h (by simp[e])),Bool.and_false]
open Go Go.AI
def wordM(k:Int):List UInt8:=if k=1 then [66,111,111,108] else if k=2 then [73,110,116] else if k=3 then [84,101,120,116] else if k=4 then [76,105,115,116] else if k=5 then [77,97,112] else if k=6 then [79,112,116] else if k=8 then [85,110,105,111,110] else []
theorem qN0(k:Int)(hk:k≠7/\k≠9\/True):Om 32 [kI k] []=some (kS (wordM k),[]):=by
 refine(qAD rfl).trans ?_;show lim tab.get S 32 0 0 [kI k] h0=_;rw[w32_0,b32_0];unfold wordM;by_cases h1:k=1
 ·rw[if_pos h1]; simp (maxSteps:=9999999) +contextual only[exa,rA,rB,rC,rD,rE,rF,rG,rH,rI,h1,oneOf]
 rw[if_neg h1];by_cases h2:k=2
 ·rw[if_pos h2]; simp (maxSteps:=9999999) +contextual only[exa,rA,rB,rC,rD,rE,rF,rG,rH,rI,h2,oneOf]
 rw[if_neg h2];by_cases h3:k=3
 ·rw[if_pos h3]; simp (maxSteps:=9999999) +contextual only[exa,rA,rB,rC,rD,rE,rF,rG,rH,rI,h3,oneOf]
 rw[if_neg h3];by_cases h4:k=4
 ·rw[if_pos h4]; simp (maxSteps:=9999999) +contextual only[exa,rA,rB,rC,rD,rE,rF,rG,rH,rI,h4,oneOf]
 rw[if_neg h4];by_cases h5:k=5
 ·rw[if_pos h5]; simp (maxSteps:=9999999) +contextual only[exa,rA,rB,rC,rD,rE,rF,rG,rH,rI,h5,oneOf]
 rw[if_neg h5];by_cases h6:k=6
 ·rw[if_pos h6]; simp (maxSteps:=9999999) +contextual only[exa,rA,rB,rC,rD,rE,rF,rG,rH,rI,h6,oneOf]
 rw[if_neg h6];by_cases h8:k=8
 ·rw[if_pos h8]; simp (maxSteps:=9999999) +contextual only[exa,rA,rB,rC,rD,rE,rF,rG,rH,rI,h8,oneOf]
 rw[if_neg h8];simp (maxSteps:=9999999) +contextual only[exa,rA,rB,rC,rD,rE,rF,rG,rH,rI,h1,h2,h3,h4,h5,h6,h8,oneOf]
theorem u32{β:Type}{k:TVal->Heap->Option β}{h:Heap}{d:Nat}(a:Int):vcall Om (.v (.c (.func 32 []))) [kI a] h d k=k (kS (wordM a)) h:=qAH 32 _ _ rfl (qN0 a (.inr trivial)) rfl
theorem y32{β:Type}{kt:TVal->Heap->AI.Touch->Option β}{h:Heap}{d:Nat}(a:Int):vtouch Om (.call (.k (.v (.c (.func 32 [])))) [.k (kI a)]) h d kt=kt (kS (wordM a)) h noTouch:=qKo 32 [kI a] _ rfl (qN0 a (.inr trivial)) rfl
abbrev q1:TVal := .v (.c (.ptr (.own 1 1) 0))
structure RS where
 p:Nat
 e:Int
 tw:Bool
def tksP(L:List Tok):PVal:=growP 4 (L.map Tok.row)
abbrev rO(L:List Tok)(s:RS):AObj := .cells [.p (tksP L),.p (.int .i64 (s.p:Int)),.p (.int .i64 s.e),.p (.bool s.tw)] 0
abbrev P0:TVal := .v (.c (.ptr (.im 0) 0))
theorem qAC(L:List Tok)(s:RS):plainO (rO L s):=qAB [tksP L,.int .i64 (s.p:Int),.int .i64 s.e,.bool s.tw] 0
theorem qBT{β:Type}{O:Oracle}{h:Heap}{d:Nat}{k:TVal->Heap->Option β}(L:List Tok):vlen O 2 (.v (.c (.p (tksP L)))) h d k=k (kI (L.length:Int)) h:=by
 cases L with
 |nil=>rfl
 |cons t L =>
  show vlen O 2 (.v (.c (.p (.slice 4 false ((t::L).map Tok.row))))) h d k=_;simp (maxSteps:=9999999) +contextual only[exa,rA,rB,rC,rD,rE,rF,rG,rH,rI,List.length_map]
theorem qSa{β:Type}{h:Heap}{k:TVal->Heap->Option β}(L:List Tok)(i:Nat)(t:Tok)(ht:L[i]?=some t):viaddr 4 (.v (.c (.p (tksP L)))) (kI (i:Int)) h k=k (.v (.c (.p (.pptr t.row 0)))) h:=by
 cases L with
 |nil=>cases ht
 |cons a L =>
  have:((a::L).map Tok.row)[i]?=some t.row:=by rw[List.getElem?_map,ht]; rfl
  show viaddr 4 (.v (.c (.p (.slice 4 false ((a::L).map Tok.row))))) (kI (i:Int)) h k=_;simp (maxSteps:=9999999) +contextual only[exa,rA,rB,rC,rD,rE,rF,rG,rH,rI,this,Int.toNat_natCast]
def peekM(L:List Tok)(s:RS):Tok:=if s.e=0 then (L[s.p]?).getD Tok.zero else Tok.zero
abbrev zT:List Cell:=[.p (.int .i64 0),.p (.str []),.p (.int .i64 0),.p (.int .i64 0)]
theorem qSb(L:List Tok)(s:RS):Om 55 [P0] [rO L s]=some (.v (.agg (peekM L s).cells),[rO L s]):=by
 refine(qAD rfl).trans ?_;show lim tab.get S 55 1 0 [P0] { ims:=[rO L s],owns := .nil }=_;have g0:∀ x:AObj,((Heap.mk [rO L s] .nil).own 2 1 x).get (.im 0)=some (rO L s):=λ_=>rfl
 have gn:(Heap.mk [rO L s] .nil).gen 2=0:=rfl;have fin:∀ (t:Tok) (x y:AObj),vfin true 1 [.agg t.cells] (((Heap.mk [rO L s] .nil).own 2 1 x).own 2 1 y)=some (.v (.agg t.cells),[rO L s]):=λt x y=>qAP true [.agg t.cells] _ rfl rfl (qAC L s)
 have PT:∀ t:Tok,put1 zT 0 t.cells=t.cells:=λ_=>rfl
 have tl:∀ t:Tok,t.cells.length=4:=λ_=>rfl
 have tt:∀ t:Tok,t.cells.take 4=t.cells:=λ_=>rfl
 have BZ:∀ (β:Type) (k:TVal->Heap->Option β) (h:Heap),vop Om (.build zT []) h 20 k=k (.v (.agg Tok.zero.cells)) h:=λ_ _ _=>rfl
 rw[w55_0,b55_0];unfold peekM;by_cases he:s.e=0
 ·rw[if_pos he];by_cases hp:s.p<L.length
  ·have ht:L[s.p]?=some L[s.p]:=List.getElem?_eq_getElem hp;have AT:=λ(β:Type) (k:TVal->Heap->Option β) (h:Heap)=>qSa (h:=h) (k:=k) L s.p L[s.p] ht
   have q1:(s.p:Int)<(L.length:Int):=by omega
   have LD:∀ (β:Type) (k:TVal->Heap->Option β) (h:Heap),vload true 4 (.v (.c (.p (.pptr L[s.p].row 0)))) h k=k (.v (.agg L[s.p].cells)) h:=λ_ _ _=>rfl
   rw[ht,Option.getD_some];generalize L[s.p]=t at *;simp (maxSteps:=9999999) +contextual only[exa,rA,rB,rC,rD,rE,rF,rG,rH,rI,exW,gn,g0,he,q1,qBT,AT,LD,PT,tl,tt];exact fin t _ _
  ·have ht:L[s.p]?=none:=List.getElem?_eq_none (by omega);have q1:¬ (s.p:Int)<(L.length:Int):=by omega
   rw[ht,Option.getD_none];simp (maxSteps:=9999999) +contextual only[exa,rA,rB,rC,rD,rE,rF,rG,rH,rI,exW,gn,g0,he,q1,qBT,PT,tl,tt,BZ];exact fin _ _ _
 ·rw[if_neg he];simp (maxSteps:=9999999) +contextual only[exa,rA,rB,rC,rD,rE,rF,rG,rH,rI,exW,gn,g0,he,qBT,PT,tl,tt,BZ];exact fin _ _ _
theorem u55{β:Type}{k:TVal->Heap->Option β}{h:Heap}{d:Nat}{L:List Tok}{s:RS}(hg:h.get (.im 0)=some (rO L s)):vcall Om (.v (.c (.func 55 []))) [P0] h d k=k (.v (.agg (peekM L s).cells)) h :=
 (qAU 55 (.im 0) 0 [] [] _ _ _ rfl rfl hg (qAC L s) (qAC L s) rfl (qSb L s)).trans (by show k _ (h.put (.im 0) (rO L s))=k _ h; rw[qM7 0 _ hg])
def failM(s:RS)(e:Int):RS:=if s.e=0 then { s with e:=e } else s
theorem qTA(L:List Tok)(s:RS)(e:Int):Om 56 [P0,kI e] [rO L s]=some (.tup [],[rO L (failM s e)]):=by
 refine(qAD rfl).trans ?_;show lim tab.get S 56 1 0 [P0,kI e] { ims:=[rO L s],owns := .nil }=_;have g0:(Heap.mk [rO L s] .nil).get (.im 0)=some (rO L s):=rfl;have P:∀ (a b c d x:Cell),put1 [a,b,c,d] 2 [x]=[a,b,x,d]:=λ_ _ _ _ _=>rfl
 rw[w56_0,b56_0];unfold failM;by_cases he:s.e=0
 ·rw[if_pos he];have fin:vfin true 1 [] ((Heap.mk [rO L s] .nil).put (.im 0) (rO L { s with e:=e }))=some (.tup [],[rO L { s with e:=e }]):=qAP true [] _ rfl rfl (qAC L _);simp (maxSteps:=9999999) +contextual only[exa,rA,rB,rC,rD,rE,rF,rG,rH,rI,exW,g0,he,P]
 ·rw[if_neg he];have fin:vfin true 1 [] (Heap.mk [rO L s] .nil)=some (.tup [],[rO L s]):=qAP true [] _ rfl rfl (qAC L _);simp (maxSteps:=9999999) +contextual only[exa,rA,rB,rC,rD,rE,rF,rG,rH,rI,exW,g0,he,P]
theorem u56{β:Type}{k:TVal->Heap->Option β}{h:Heap}{d:Nat}{L:List Tok}{s:RS}(e:Int)(hg:h.get (.im 0)=some (rO L s)):vcall Om (.v (.c (.func 56 []))) [P0,kI e] h d k=k (.tup []) (h.put (.im 0) (rO L (failM s e))) :=
 qAU 56 (.im 0) 0 [] [kI e] _ _ _ rfl rfl hg (qAC L s) (qAC L _) rfl (qTA L s e)
def mustM(s:RS)(b:Bool):RS:=if b=true then s else failM s 12
theorem qB5(L:List Tok)(s:RS)(b:Bool):Om 39 [P0,kB b] [rO L s]=some (.tup [],[rO L (mustM s b)]):=by
 refine(qAD rfl).trans ?_;show lim tab.get S 39 1 0 [P0,kB b] { ims:=[rO L s],owns := .nil }=_;have g0:(Heap.mk [rO L s] .nil).get (.im 0)=some (rO L s):=rfl;have U:=λ(β:Type) (k:TVal->Heap->Option β) (d:Nat)=>u56 (k:=k) (d:=d) 12 g0
 rw[w39_0,b39_0];unfold mustM;cases b with
 |true =>
  have fin:vfin true 1 [] (Heap.mk [rO L s] .nil)=some (.tup [],[rO L s]):=qAP true [] _ rfl rfl (qAC L _);simp (maxSteps:=9999999) +contextual only[exa,rA,rB,rC,rD,rE,rF,rG,rH,rI,exW];exact fin
 |false =>
  have fin:vfin true 1 [] ((Heap.mk [rO L s] .nil).put (.im 0) (rO L (failM s 12)))=some (.tup [],[rO L (failM s 12)]):=qAP true [] _ rfl rfl (qAC L _);simp (maxSteps:=9999999) +contextual only[exa,rA,rB,rC,rD,rE,rF,rG,rH,rI,exW,U];exact fin
theorem u39{β:Type}{k:TVal->Heap->Option β}{h:Heap}{d:Nat}{L:List Tok}{s:RS}(b:Bool)(hg:h.get (.im 0)=some (rO L s)):vcall Om (.v (.c (.func 39 []))) [P0,kB b] h d k=k (.tup []) (h.put (.im 0) (rO L (mustM s b))) :=
 qAU 39 (.im 0) 0 [] [kB b] _ _ _ rfl rfl hg (qAC L s) (qAC L _) rfl (qB5 L s b)
def nextM(s:RS):RS:={ s with p:=s.p+1 }
def isM(k:Int)(L:List Tok)(s:RS)(x:List UInt8):Bool:=decide ((peekM L s).kind=k)&&decide ((peekM L s).text=x)
def takeM(k:Int)(L:List Tok)(s:RS)(x:List UInt8):RS:=if isM k L s x=true then nextM s else s
theorem qIL(t:Tok):t.cells=[.p (.int .i64 t.kind),.p (.str t.text),.p (.int .i64 t.n),.p (.int .i64 t.pos)]:=rfl
theorem qDE(L:List Tok)(s:RS)(hp:s.p<=1000000)(x:List UInt8):Om 41 [P0,kS x] [rO L s]=some (kB (isM 4 L s x),[rO L (takeM 4 L s x)]):=by
 refine(qAD rfl).trans ?_;show lim tab.get S 41 1 0 [P0,kS x] { ims:=[rO L s],owns := .nil }=_;have g0:(Heap.mk [rO L s] .nil).get (.im 0)=some (rO L s):=rfl;have U:=λ(β:Type) (k:TVal->Heap->Option β) (d:Nat)=>u55 (k:=k) (d:=d) g0
 have gn:(Heap.mk [rO L s] .nil).gen 5=0:=rfl;have g1:∀ a b:AObj,(((Heap.mk [rO L s] .nil).own 5 1 a).own 5 1 b).get (.im 0)=some (rO L s):=λ_ _=>rfl
 have P4:∀ a b c d:Cell,put1 zT 0 [a,b,c,d]=[a,b,c,d]:=λ_ _ _ _=>rfl
 have P1:∀ (a b c d y:Cell),put1 [a,b,c,d] 1 [y]=[a,y,c,d]:=λ_ _ _ _ _=>rfl
 have w1:IntKind.i64.wrap ((s.p:Int)+1)=((s.p+1:Nat):Int):=by rw[qAL _ (by omega) (by omega)]; omega
 unfold takeM isM;rw[w41_0,b41_0];rw[qIL] at U;generalize peekM L s=t at *;by_cases h1:t.kind=4
 ·by_cases h2:t.text=x
  ·simp (maxSteps:=9999999) +contextual only[exa,rA,rB,rC,rD,rE,rF,rG,rH,rI,exW,U,gn,g1,P4,P1,h1,h2,w1,Bool.and_true,decide_true];rfl
  ·simp (maxSteps:=9999999) +contextual only[exa,rA,rB,rC,rD,rE,rF,rG,rH,rI,exW,U,gn,g1,P4,P1,h1,h2,w1,Bool.and_false,decide_false,decide_true];rfl
 ·simp (maxSteps:=9999999) +contextual only[exa,rA,rB,rC,rD,rE,rF,rG,rH,rI,exW,U,gn,g1,P4,P1,h1,w1,Bool.false_and,decide_false];rfl
theorem qD6(L:List Tok)(s:RS)(hp:s.p<=1000000)(x:List UInt8):Om 40 [P0,kS x] [rO L s]=some (kB (isM 1 L s x),[rO L (takeM 1 L s x)]):=by
 refine(qAD rfl).trans ?_;show lim tab.get S 40 1 0 [P0,kS x] { ims:=[rO L s],owns := .nil }=_;have g0:(Heap.mk [rO L s] .nil).get (.im 0)=some (rO L s):=rfl;have U:=λ(β:Type) (k:TVal->Heap->Option β) (d:Nat)=>u55 (k:=k) (d:=d) g0
 have gn:(Heap.mk [rO L s] .nil).gen 5=0:=rfl;have g1:∀ a b:AObj,(((Heap.mk [rO L s] .nil).own 5 1 a).own 5 1 b).get (.im 0)=some (rO L s):=λ_ _=>rfl
 have P4:∀ a b c d:Cell,put1 zT 0 [a,b,c,d]=[a,b,c,d]:=λ_ _ _ _=>rfl
 have P1:∀ (a b c d y:Cell),put1 [a,b,c,d] 1 [y]=[a,y,c,d]:=λ_ _ _ _ _=>rfl
 have w1:IntKind.i64.wrap ((s.p:Int)+1)=((s.p+1:Nat):Int):=by rw[qAL _ (by omega) (by omega)]; omega
 unfold takeM isM;rw[w40_0,b40_0];rw[qIL] at U;generalize peekM L s=t at *;by_cases h1:t.kind=1
 ·by_cases h2:t.text=x
  ·simp (maxSteps:=9999999) +contextual only[exa,rA,rB,rC,rD,rE,rF,rG,rH,rI,exW,U,gn,g1,P4,P1,h1,h2,w1,Bool.and_true,decide_true];rfl
  ·simp (maxSteps:=9999999) +contextual only[exa,rA,rB,rC,rD,rE,rF,rG,rH,rI,exW,U,gn,g1,P4,P1,h1,h2,w1,Bool.and_false,decide_false,decide_true];rfl
 ·simp (maxSteps:=9999999) +contextual only[exa,rA,rB,rC,rD,rE,rF,rG,rH,rI,exW,U,gn,g1,P4,P1,h1,w1,Bool.false_and,decide_false];rfl
theorem u41{β:Type}{k:TVal->Heap->Option β}{h:Heap}{d:Nat}{L:List Tok}{s:RS}(hp:s.p<=1000000)(x:List UInt8)(hg:h.get (.im 0)=some (rO L s)):vcall Om (.v (.c (.func 41 []))) [P0,kS x] h d k=k (kB (isM 4 L s x)) (h.put (.im 0) (rO L (takeM 4 L s x))) :=
 qAU 41 (.im 0) 0 [] [kS x] _ _ _ rfl rfl hg (qAC L s) (qAC L _) rfl (qDE L s hp x)
theorem qBS(s:RS)(b:Bool):(mustM s b).p=s.p:=by
 unfold mustM failM;split
 ·rfl
 ·split <;> rfl
theorem qJU(L:List Tok)(s:RS)(hp:s.p<=1000000):Om 65 [P0] [rO L s]=some (kS (peekM L s).text,[rO L (nextM (mustM s (decide ((peekM L s).kind=1))))]):=by
 refine(qAD rfl).trans ?_;show lim tab.get S 65 1 0 [P0] { ims:=[rO L s],owns := .nil }=_;have g0:(Heap.mk [rO L s] .nil).get (.im 0)=some (rO L s):=rfl;have U:=λ(β:Type) (k:TVal->Heap->Option β) (d:Nat)=>u55 (k:=k) (d:=d) g0
 have gn:(Heap.mk [rO L s] .nil).gen 3=0:=rfl;have g1:∀ a b:AObj,(((Heap.mk [rO L s] .nil).own 3 1 a).own 3 1 b).get (.im 0)=some (rO L s):=λ_ _=>rfl
 have P4:∀ a b c d:Cell,put1 zT 0 [a,b,c,d]=[a,b,c,d]:=λ_ _ _ _=>rfl
 have P1:∀ (a b c d y:Cell),put1 [a,b,c,d] 1 [y]=[a,y,c,d]:=λ_ _ _ _ _=>rfl
 have U39:=λ(a b:AObj) (c:Bool) (β:Type) (k:TVal->Heap->Option β) (d:Nat)=>u39 (k:=k) (d:=d) c (g1 a b)
 rw[qIL] at U;rw[w65_0,b65_0];generalize peekM L s=t at *;generalize hs:mustM s (decide (t.kind=1))=s';have hp':s'.p<=1000000:=by rw[<- hs,qBS]; exact hp
 have w1:IntKind.i64.wrap ((s'.p:Int)+1)=((s'.p+1:Nat):Int):=by rw[qAL _ (by omega) (by omega)]; omega
 have G2:∀ a b:AObj,((((Heap.mk [rO L s] .nil).own 3 1 a).own 3 1 b).put (.im 0) (rO L s')).get (.im 0)=some (rO L s'):=λ_ _=>rfl
 simp (maxSteps:=9999999) +contextual only[exa,rA,rB,rC,rD,rE,rF,rG,rH,rI,exW,U,U39,gn,P4,P1,hs,G2,w1];rfl
theorem u65{β:Type}{k:TVal->Heap->Option β}{h:Heap}{d:Nat}{L:List Tok}{s:RS}(hp:s.p<=1000000)(hg:h.get (.im 0)=some (rO L s)):vcall Om (.v (.c (.func 65 []))) [P0] h d k=k (kS (peekM L s).text) (h.put (.im 0) (rO L (nextM (mustM s (decide ((peekM L s).kind=1)))))) :=
 qAU 65 (.im 0) 0 [] [] _ _ _ rfl rfl hg (qAC L s) (qAC L _) rfl (qJU L s hp)
def endM(L:List Tok)(s:RS):RS:=mustM s (decide (L.length<=s.p))
def errM(s:RS):Int:=if s.e≠0 then s.e else if s.tw=true then 6 else 0
theorem qQf(L:List Tok)(s:RS):Om 35 [P0] [rO L s]=some (kI (errM (endM L s)),[rO L (endM L s)]):=by
 refine(qAD rfl).trans ?_;show lim tab.get S 35 1 0 [P0] { ims:=[rO L s],owns := .nil }=_;have g0:(Heap.mk [rO L s] .nil).get (.im 0)=some (rO L s):=rfl;have U39:=λ(c:Bool) (β:Type) (k:TVal->Heap->Option β) (d:Nat)=>u39 (k:=k) (d:=d) c g0
 have ed:(!decide ((s.p:Int)<(L.length:Int)))=decide (L.length<=s.p):=by
  by_cases h:L.length<=s.p
  ·rw[decide_eq_true h,decide_eq_false (by omega)]; rfl
  ·rw[decide_eq_false h,decide_eq_true (by omega)]; rfl
 rw[w35_0,b35_0];unfold endM;generalize hs:mustM s (decide (L.length<=s.p))=s';have G2:((Heap.mk [rO L s] .nil).put (.im 0) (rO L s')).get (.im 0)=some (rO L s'):=rfl;unfold errM;by_cases h1:s'.e=0
 ·cases h2:s'.tw with
  |true =>
   simp (maxSteps:=9999999) +contextual only[exa,rA,rB,rC,rD,rE,rF,rG,rH,rI,exW,g0,qBT,ed,U39,hs,G2,h1,h2];rfl
  |false =>
   simp (maxSteps:=9999999) +contextual only[exa,rA,rB,rC,rD,rE,rF,rG,rH,rI,exW,g0,qBT,ed,U39,hs,G2,h1,h2];rfl
 ·simp (maxSteps:=9999999) +contextual only[exa,rA,rB,rC,rD,rE,rF,rG,rH,rI,exW,g0,qBT,ed,U39,hs,G2,h1];rfl
theorem u35{β:Type}{k:TVal->Heap->Option β}{h:Heap}{d:Nat}{L:List Tok}{s:RS}(hg:h.get (.im 0)=some (rO L s)):vcall Om (.v (.c (.func 35 []))) [P0] h d k=k (kI (errM (endM L s))) (h.put (.im 0) (rO L (endM L s))) :=
 qAU 35 (.im 0) 0 [] [] _ _ _ rfl rfl hg (qAC L s) (qAC L _) rfl (qQf L s)
end Go.Proofs.YtnlmlcfipbnpgaaDoor.Ab
namespace Go.AI
section
variable {β:Type} {O:Oracle} {h:Heap} {d:Nat} {k:TVal->Heap->Option β} {kt:TVal->Heap->Touch->Option β}
theorem qL9{sz by':Nat}{j lb:Nat}{capb:Option Nat}{ys:List Cell}{ib:Nat}(hb:lb≠0)(hm:lb*by'<=1099511627776)(gb:h.get (.im j)=some (.cells ys ib))(ly:ys.length=lb*sz) :
  vop O (.append sz by' true (.k (.v (.c (.p .nilslice)))) (.k (.v (.c (.sref (.im j) 0 lb capb sz))))) h d k=k (.v (.c (.sref (.im h.ims.length) 0 lb none sz))) (h.push (.cells ys 0)):=by
 have ea:appendTo sz by' true (.v (.c (.p .nilslice))) none ys lb=some ⟨λr => .v (.c (.sref r 0 lb none sz)),[],some (.cells ys 0),true⟩:=by
  unfold appendTo;rw[if_neg hb];dsimp only;unfold freshRow;rw[if_pos rfl,if_pos (by omega)]
 show opK O _ .nil h d k=_;rw[qA9];have:slow O (.append sz by' true (.k (.v (.c (.p .nilslice)))) (.k (.v (.c (.sref (.im j) 0 lb capb sz))))) .nil h d=some (.v (.c (.sref (.im h.ims.length) 0 lb none sz)),h.push (.cells ys 0)):=by
  unfold slow;show((Plan.go [.im j] _).exec O d h).map _=_;simp only[Plan.exec,goOp,List.mapM_cons,List.mapM_nil,gb,Option.pure_def,rL,Option.bind_some,dstRef,srcRef,splitNeeds,qEL sz j lb capb ys ib ly,ea];rfl
 rw[this]; rfl
theorem qCl(q:Nat)(h:Heap)(fr:List Ref)(e:reach h fuelReach ((ims (q+1)).flatMap λr=>match h.get r with|some o=>o.refs|none=>[]) (ims (q+1))=fr):vfin true (q+1) [] h=some (.tup [],fr.map λr=>match h.get r with|some o=>o.ren (inn fr)|none => .dead):=by
 letI:Sym:=⟨λ_=>0⟩
 rw[qCL];unfold finV;simp only[oneOf,freezeT,List.mapM_nil,Option.pure_def,Option.map_some,List.flatMap_nil,settle,TVal.refs,List.append_nil,List.map_nil,TVal.ren,if_true,ite_self];subst e;rfl
theorem qBE(g:FuncId)(r:Ref)(x v:TVal)(o o':AObj)(hx:pT x=true)(hv:pT v=true)(hg:h.get r=some o)(ho:plainO o)(ho':plainO o')(hc:O g [.v (.c (.ptr (.im 0) 0)),x] [o]=some (v,[o'])) :
  vtouch O (.call (.k (.v (.c (.func g [])))) [.k (.v (.c (.ptr r 0))),.k x]) h d kt=kt v (h.put r o') ⟨[r.site,r.site],[r.site],false⟩:=by
 obtain⟨q1,q2,q3,q4⟩:=qAk hx;obtain⟨p1,p2,p3,p4⟩:=qAk hv;have e2:reach h fuelReach ([TVal.v (.c (.ptr r 0)),x].flatMap TVal.refs) []=[r]:=by
  rw[List.flatMap_cons,List.flatMap_cons,List.flatMap_nil,q1];show reach h (398+1+1) [r] []=_;rw[qAK _ r [] [] o (by simp) hg,ho.1];exact qAc _ _
 have e3:([r]:List Ref).mapM h.get=some [o]:=by simp only[List.mapM_cons,List.mapM_nil,hg,Option.pure_def,rL,Option.bind_some]
 have ir:inn [r] r=some (.im 0):=by simp[inn,idx]
 have e4:([TVal.v (.c (.ptr r 0)),x]).map (TVal.ren (inn [r]))=[.v (.c (.ptr (.im 0) 0)),x]:=by
  show [TVal.v (.c (match inn [r] r with|some s => .ptr s 0|none => .junk)),x.ren (inn [r])]=_;rw[ir,q3]
 have co:=qF2 (d:=d) (h:=h) (O:=O) g [.v (.c (.ptr r 0)),x] [.v (.c (.ptr r 0)),x] _ [r] [o] [o] [o'] v (by show [_,x.strip]=_; rw[q2]; rfl) e2 e3 e4 (by rw[List.map_cons,ho.2]; rfl) hc (Nat.le_refl _);have hp:plan .nil (.call (.k (.v (.c (.func g [])))) [.k (.v (.c (.ptr r 0))),.k x])=some (.call g [.v (.c (.ptr r 0)),x]):=rfl;show bnd (plan2 (.call (.k (.v (.c (.func g [])))) [.k (.v (.c (.ptr r 0))),.k x]) .nil) (λp=>bnd (p.exec O d h) λx=>kt x.1 x.2.1 x.2.2)=_;rw[qAr,hp];show bnd (callOp O g [.v (.c (.ptr r 0)),x] d h) _=_;rw[co,bnd_some];have h1:hAfter h [r] [o']=h.put r o':=by show h.put r (o'.ren _)=_; rw[ho'.2]
 have h2:gTouch h [.v (.c (.ptr r 0)),x] [o] [r] [o']=⟨[r.site,r.site],[r.site],false⟩:=by
  unfold gTouch;rw[List.flatMap_cons,List.flatMap_cons,List.flatMap_nil,q1,List.flatMap_cons,List.flatMap_nil,ho.1];rfl
 dsimp only;rw[h1,h2,p3]
theorem qEE(cs:List Cell):vop O (.alloc cs true) h d k=k (.v (.c (.ptr (.im h.ims.length) 0))) (h.push (.cells cs 0)):=by rw[qEx]; rfl
end
theorem qHN(h:Heap)(d g:Nat)(o x:AObj)(i:Nat):(h.own d g o).put (.im i) x=(h.put (.im i) x).own d g o:=id rfl
theorem qKv(h:Heap)(d g:Nat)(o:AObj):(h.own d g o).ims.length=h.ims.length:=id rfl
theorem push_len(h:Heap)(o:AObj):(h.push o).ims.length=h.ims.length+1:=by show(h.ims++[o]).length=_; simp
theorem qFu(h:Heap)(cs:List Cell)(i n:Nat)(hn:h.ims.length=n):(h.push (.cells cs i)).get (.im n)=some (.cells cs i):=by rw[<- hn]; exact qAu h _ (λe=>by cases e)
theorem qAQ(h:Heap)(o:AObj)(i:Nat)(hi:i<h.ims.length):(h.push o).get (.im i)=h.get (.im i):=by
 unfold Heap.push Heap.get;simp only[List.getElem?_append_left hi]
theorem put_len(h:Heap)(x:AObj)(i:Nat):(h.put (.im i) x).ims.length=h.ims.length:=by show(h.ims.set i x).length=_; simp
theorem qIq(h:Heap)(o x:AObj)(i:Nat)(hi:i<h.ims.length):(h.push o).put (.im i) x=(h.put (.im i) x).push o:=by
 show Heap.mk ((h.ims++[o]).set i x) h.owns=Heap.mk (h.ims.set i x++[o]) h.owns;rw[List.set_append_left _ _ hi]
theorem qHX(h:Heap)(o x:AObj)(n:Nat)(hn:h.ims.length=n):(h.push o).put (.im n) x=h.push x:=by
 show Heap.mk ((h.ims++[o]).set n x) h.owns=Heap.mk (h.ims++[x]) h.owns;rw[<- hn,List.set_append_right _ _ (Nat.le_refl _),Nat.sub_self]; rfl
end Go.AI
namespace Go.Proofs.YtnlmlcfipbnpgaaDoor.Ab
open Go Go.AI
def nmS1(L:List Tok)(s:RS):RS:=nextM (mustM s (decide ((peekM L s).kind=1)))
def colM(L:List Tok)(s:RS):RS:=mustM (takeM 4 L (nmS1 L s) [58]) (isM 4 L (nmS1 L s) [58])
structure Ent (d:Int) (L:List Tok) (s:RS) (v:TT) (s':RS):Prop where
 one:Om 34 [P0,kI (d+1)] [rO L (colM L s)]=some (kA v.row,[rO L s'])
 hd:0<=d/\d<=100
 hp:s.p<=900000
abbrev boxO(i:Nat):AObj := .cells [.ptr (.im i) 0] 0
abbrev intO(d:Int):AObj := .cells [.p (.int .i64 d)] 0
def eRow(key:List UInt8)(v:TT):List PVal := .str key::v.row
def H4(L:List Tok)(a:RS)(d:Int)(E:AObj):Heap := .mk [boxO 1,rO L a,intO d,E] .nil
section
variable (L:List Tok) (a b:RS) (d:Int) (E E':AObj) (i:Nat) (cs:List Cell)
theorem H4_0:(H4 L a d E).get (.im 0)=some (boxO 1):=id rfl
theorem H4_1:(H4 L a d E).get (.im 1)=some (rO L a):=id rfl
theorem H4_2:(H4 L a d E).get (.im 2)=some (intO d):=id rfl
theorem H4_3:(H4 L a d (.cells cs i)).get (.im 3)=some (.cells cs i):=id rfl
theorem qT0:(H4 L a d E).put (.im 1) (rO L b)=H4 L b d E:=id rfl
theorem qTs:(H4 L a d E).put (.im 3) E'=H4 L a d E':=id rfl
theorem H4_l:(H4 L a d E).ims.length=4:=id rfl
theorem qS7:(H4 L a d E).gen i=0:=id rfl
end
abbrev z5:List Cell:=[.p (.str []),.p (.int .i64 0),.p (.str []),.p .nilslice,.p .nilslice]
theorem qQb{β:Type}{k:TVal->Heap->Option β}{h:Heap}{d:Nat}(c0 c1 c2 c3 c4:Cell):vop Om (.bslice 5 1 z5 [(0,.k (.v (.agg [c0,c1,c2,c3,c4])))] true) h d k=k (.v (.c (.sref (.im h.ims.length) 0 1 (some 1) 5))) (h.push (.cells [c0,c1,c2,c3,c4] 0)):=by
 show opK Om _ .nil h d k=_;rw[qA9]; rfl
theorem qB6(L:List Tok)(s:RS):(nmS1 L s).p=s.p+1:=by
 unfold nmS1 nextM;show(mustM s _).p+1=_;rw[qBS]
theorem qRQ(d:Int)(L:List Tok)(s:RS)(v:TT)(s':RS)(E:Ent d L s v s') :
  Om 86 [P0,.v (.c (.ptr (.im 2) 0)),.v (.c (.ptr (.im 3) 0))] [boxO 1,rO L s,intO d,.cells [.p .nilslice] 0] =
   some (.tup [],[boxO 1,rO L s',intO d,.cells [.sref (.im 4) 0 1 none 5] 0,.cells (pcells (eRow (peekM L s).text v)) 0]):=by
 obtain⟨e1,hd,hp⟩:=E;refine(qAD rfl).trans ?_;show lim tab.get S 86 4 0 [P0,.v (.c (.ptr (.im 2) 0)),.v (.c (.ptr (.im 3) 0))] (H4 L s d (.cells [.p .nilslice] 0))=_;have c65:∀ {β:Type}{k:TVal->Heap->Option β}{h:Heap}{e:Nat},h.get (.im 1)=some (rO L s)->vcall Om (.v (.c (.func 65 []))) [.v (.c (.ptr (.im 1) 0))] h e k=k (kS (peekM L s).text) (h.put (.im 1) (rO L (nmS1 L s))):=λ{β k h e} hg =>
  qAU 65 (.im 1) 0 [] [] _ _ _ rfl rfl hg (qAC L s) (qAC L _) rfl (qJU L s (by omega))
 have hp1:(nmS1 L s).p<=1000000:=by rw[qB6]; omega
 have c41:∀ {β:Type}{h:Heap}{e:Nat}{kt:TVal->Heap->AI.Touch->Option β},h.get (.im 1)=some (rO L (nmS1 L s))->vtouch Om (.call (.k (.v (.c (.func 41 [])))) [.k (.v (.c (.ptr (.im 1) 0))),.k (kS [58])]) h e kt=kt (kB (isM 4 L (nmS1 L s) [58])) (h.put (.im 1) (rO L (takeM 4 L (nmS1 L s) [58]))) ⟨[(Ref.im 1).site,(Ref.im 1).site],[(Ref.im 1).site],false⟩:=λ{β h e kt} hg =>
  qBE 41 (.im 1) (kS [58]) _ _ _ rfl rfl hg (qAC L _) (qAC L _) (qDE L _ hp1 [58])
 have c39:∀ {β:Type}{h:Heap}{e:Nat}{kt:TVal->Heap->AI.Touch->Option β},h.get (.im 1)=some (rO L (takeM 4 L (nmS1 L s) [58]))->vtouch Om (.call (.k (.v (.c (.func 39 [])))) [.k (.v (.c (.ptr (.im 1) 0))),.k (kB (isM 4 L (nmS1 L s) [58]))]) h e kt=kt (.tup []) (h.put (.im 1) (rO L (colM L s))) ⟨[(Ref.im 1).site,(Ref.im 1).site],[(Ref.im 1).site],false⟩:=λ{β h e kt} hg =>
  qBE 39 (.im 1) (kB (isM 4 L (nmS1 L s) [58])) _ _ _ rfl rfl hg (qAC L _) (qAC L _) (qB5 L _ _)
 have c34:∀ {β:Type}{k:TVal->Heap->Option β}{h:Heap}{e:Nat},h.get (.im 1)=some (rO L (colM L s))->vcall Om (.v (.c (.func 34 []))) [.v (.c (.ptr (.im 1) 0)),kI (d+1)] h e k=k (kA v.row) (h.put (.im 1) (rO L s')):=λ{β k h e} hg =>
  qAU 34 (.im 1) 0 [] [kI (d+1)] _ _ _ rfl rfl hg (qAC L _) (qAC L _) (by simp only[exP]) e1
 have ed:IntKind.i64.wrap (d+1)=d+1:=qAL _ (by omega) (by omega);obtain⟨a1,a2,a3,a4,hrow⟩:∃ a1 a2 a3 a4,v.row=[a1,a2,a3,a4]:=by cases v; exact⟨_,_,_,_,rfl⟩
 unfold eRow;rw[hrow] at c34 ⊢;have pr:pcells [a1,a2,a3,a4]=[.p a1,.p a2,.p a3,.p a4]:=rfl;generalize isM 4 L (nmS1 L s) [58]=bc at *;generalize hs2:takeM 4 L (nmS1 L s) [58]=s2 at *;generalize hs3:colM L s=s3 at *;generalize nmS1 L s=s1 at *;generalize (peekM L s).text=key at *;have ap:=λ{β:Type} {k:TVal->Heap->Option β} {h:Heap} {e:Nat} (gb:h.get (.im 5)=some (.cells [.p (.str key),.p a1,.p a2,.p a3,.p a4] 0))=>qL9 (O:=Om) (k:=k) (d:=e) (sz:=5) (by':=88) (lb:=1) (capb:=some 1) (by omega) (by omega) gb rfl
 have P5:∀ a b c d e:Cell,put1 z5 0 [a,b,c,d,e]=[a,b,c,d,e]:=λ_ _ _ _ _=>rfl
 have P4:∀ a b c d e x y z w:Cell,put1 [a,b,c,d,e] 1 [x,y,z,w]=[a,x,y,z,w]:=λ_ _ _ _ _ _ _ _ _=>rfl
 rw[w86_0,b86_0];simp (maxSteps:=9999999) +contextual only[exa,rA,rB,rC,rD,rE,rF,rG,rH,rI,exW,exY,H4_0,H4_1,H4_2,H4_3,qT0,qTs,H4_l,qHN,c65,c41,c39,c34,ed,if_false,pr,qQb,qEE,qS7,qKv,push_len,qFu,qIq,qHX,qAQ,ap,oneOf,P5,P4];exact(qCl 3 _ [.im 0,.im 1,.im 2,.im 3,.im 6] rfl).trans rfl
def H5(L:List Tok)(a:RS)(d:Int)(E F:AObj):Heap := .mk [boxO 1,rO L a,intO d,E,F] .nil
section
variable (L:List Tok) (a b:RS) (d:Int) (E E' F F':AObj) (i:Nat) (cs:List Cell)
theorem H5_0:(H5 L a d E F).get (.im 0)=some (boxO 1):=id rfl
theorem H5_1:(H5 L a d E F).get (.im 1)=some (rO L a):=id rfl
theorem H5_2:(H5 L a d E F).get (.im 2)=some (intO d):=id rfl
theorem H5_3:(H5 L a d (.cells cs i) F).get (.im 3)=some (.cells cs i):=id rfl
theorem H5_4:(H5 L a d E (.cells cs i)).get (.im 4)=some (.cells cs i):=id rfl
theorem qTl:(H5 L a d E F).put (.im 1) (rO L b)=H5 L b d E F:=id rfl
theorem qTS:(H5 L a d E F).put (.im 3) E'=H5 L a d E' F:=id rfl
theorem qTf:(H5 L a d E F).put (.im 4) F'=H5 L a d E F':=id rfl
theorem H5_l:(H5 L a d E F).ims.length=5:=id rfl
theorem qST:(H5 L a d E F).gen i=0:=id rfl
end
theorem qO0(n:Nat)(xs:List PVal)(hx:xs.length=n*5)(hn:n<=100000)(d:Int)(L:List Tok)(s:RS)(v:TT)(s':RS)(E:Ent d L s v s') :
  Om 86 [P0,.v (.c (.ptr (.im 2) 0)),.v (.c (.ptr (.im 3) 0))] [boxO 1,rO L s,intO d,.cells [.sref (.im 4) 0 n none 5] 0,.cells (pcells xs) 0] =
   some (.tup [],[boxO 1,rO L s',intO d,.cells [.sref (.im 5) 0 (n+1) none 5] 0,.dead,.cells (pcells (xs++eRow (peekM L s).text v)) 0]):=by
 obtain⟨e1,hd,hp⟩:=E;refine(qAD rfl).trans ?_;show lim tab.get S 86 5 0 [P0,.v (.c (.ptr (.im 2) 0)),.v (.c (.ptr (.im 3) 0))] (H5 L s d (.cells [.sref (.im 4) 0 n none 5] 0) (.cells (pcells xs) 0))=_;have c65:∀ {β:Type}{k:TVal->Heap->Option β}{h:Heap}{e:Nat},h.get (.im 1)=some (rO L s)->vcall Om (.v (.c (.func 65 []))) [.v (.c (.ptr (.im 1) 0))] h e k=k (kS (peekM L s).text) (h.put (.im 1) (rO L (nmS1 L s))):=λ{β k h e} hg =>
  qAU 65 (.im 1) 0 [] [] _ _ _ rfl rfl hg (qAC L s) (qAC L _) rfl (qJU L s (by omega))
 have hp1:(nmS1 L s).p<=1000000:=by rw[qB6]; omega
 have c41:∀ {β:Type}{h:Heap}{e:Nat}{kt:TVal->Heap->AI.Touch->Option β},h.get (.im 1)=some (rO L (nmS1 L s))->vtouch Om (.call (.k (.v (.c (.func 41 [])))) [.k (.v (.c (.ptr (.im 1) 0))),.k (kS [58])]) h e kt=kt (kB (isM 4 L (nmS1 L s) [58])) (h.put (.im 1) (rO L (takeM 4 L (nmS1 L s) [58]))) ⟨[(Ref.im 1).site,(Ref.im 1).site],[(Ref.im 1).site],false⟩:=λ{β h e kt} hg =>
  qBE 41 (.im 1) (kS [58]) _ _ _ rfl rfl hg (qAC L _) (qAC L _) (qDE L _ hp1 [58])
 have c39:∀ {β:Type}{h:Heap}{e:Nat}{kt:TVal->Heap->AI.Touch->Option β},h.get (.im 1)=some (rO L (takeM 4 L (nmS1 L s) [58]))->vtouch Om (.call (.k (.v (.c (.func 39 [])))) [.k (.v (.c (.ptr (.im 1) 0))),.k (kB (isM 4 L (nmS1 L s) [58]))]) h e kt=kt (.tup []) (h.put (.im 1) (rO L (colM L s))) ⟨[(Ref.im 1).site,(Ref.im 1).site],[(Ref.im 1).site],false⟩:=λ{β h e kt} hg =>
  qBE 39 (.im 1) (kB (isM 4 L (nmS1 L s) [58])) _ _ _ rfl rfl hg (qAC L _) (qAC L _) (qB5 L _ _)
 have c34:∀ {β:Type}{k:TVal->Heap->Option β}{h:Heap}{e:Nat},h.get (.im 1)=some (rO L (colM L s))->vcall Om (.v (.c (.func 34 []))) [.v (.c (.ptr (.im 1) 0)),kI (d+1)] h e k=k (kA v.row) (h.put (.im 1) (rO L s')):=λ{β k h e} hg =>
  qAU 34 (.im 1) 0 [] [kI (d+1)] _ _ _ rfl rfl hg (qAC L _) (qAC L _) (by simp only[exP]) e1
 have ed:IntKind.i64.wrap (d+1)=d+1:=qAL _ (by omega) (by omega);obtain⟨a1,a2,a3,a4,hrow⟩:∃ a1 a2 a3 a4,v.row=[a1,a2,a3,a4]:=by cases v; exact⟨_,_,_,_,rfl⟩
 unfold eRow;rw[hrow] at c34 ⊢;have pr:pcells [a1,a2,a3,a4]=[.p a1,.p a2,.p a3,.p a4]:=rfl;generalize isM 4 L (nmS1 L s) [58]=bc at *;generalize hs2:takeM 4 L (nmS1 L s) [58]=s2 at *;generalize hs3:colM L s=s3 at *;generalize nmS1 L s=s1 at *;generalize (peekM L s).text=key at *;have ap:=λ{β:Type} {k:TVal->Heap->Option β} {h:Heap} {e:Nat} (ga:h.get (.im 4)=some (.cells (pcells xs) 0)) (gb:h.get (.im 6)=some (.cells [.p (.str key),.p a1,.p a2,.p a3,.p a4] 0))=>qMA (O:=Om) (k:=k) (d:=e) (sz:=5) (by':=88) (la:=n) (lb:=1) (capb:=some 1) (by omega) (by omega) ga gb (by rw[qAN,hx]) rfl
 have P5:∀ a b c d e:Cell,put1 z5 0 [a,b,c,d,e]=[a,b,c,d,e]:=λ_ _ _ _ _=>rfl
 have P4:∀ a b c d e x y z w:Cell,put1 [a,b,c,d,e] 1 [x,y,z,w]=[a,x,y,z,w]:=λ_ _ _ _ _ _ _ _ _=>rfl
 rw[w86_0,b86_0];simp (maxSteps:=9999999) +contextual only[exa,rA,rB,rC,rD,rE,rF,rG,rH,rI,exW,exY,H5_0,H5_1,H5_2,H5_3,H5_4,qTl,qTS,qTf,H5_l,qHN,c65,c41,c39,c34,ed,if_false,pr,qQb,qEE,qST,qKv,push_len,qFu,qIq,qHX,qAQ,ap,oneOf,P5,P4];have T:AI.Touch.apart ⟨[(Ref.im 0).site],[],false⟩ ⟨[(Ref.im 1).site,(Ref.im 1).site],[(Ref.im 1).site],false⟩=true:=rfl;rw[T,cond_true];have pa:pcells xs++[.p (.str key),.p a1,.p a2,.p a3,.p a4]=pcells (xs++[.str key,a1,a2,a3,a4]):=by unfold pcells; simp
 rw[pa];have pl:=qAB (xs++[.str key,a1,a2,a3,a4]) 0;generalize pcells (xs++[.str key,a1,a2,a3,a4])=Y at pl;refine(qCl 4 _ [.im 0,.im 1,.im 2,.im 3,.im 4,.im 7] ?_).trans ?_
 ·show reach _ (397+1+1+1) [.im 1,.im 7] (ims 5)=_;rw[qA1 _ _ _ _ (by decide),qAK _ (.im 7) [] (ims 5) (.cells Y 0) (by decide) rfl,pl.1];rfl
 ·show some (TVal.tup [],[boxO 1,rO L s',intO d,AObj.cells [Cell.sref (Ref.im 5) 0 (n+1) none 5] 0,AObj.dead,(AObj.cells Y 0).ren (inn [.im 0,.im 1,.im 2,.im 3,.im 4,.im 7])])=_;rw[pl.2]
theorem qMo{β:Type}{O:Oracle}{k:TVal->Heap->Option β}{h:Heap}{d:Nat}(g:FuncId)(a b c:Ref):vcall O (.v (.c (.func g [a,b,c]))) [] h d k=vcall O (.v (.c (.func g []))) [.v (.c (.ptr a 0)),.v (.c (.ptr b 0)),.v (.c (.ptr c 0))] h d k:=rfl
structure St0 (h:Heap) (L:List Tok) (s:RS) (d:Int):Prop where
 g0:h.get (.im 0)=some (rO L s)
 g1:h.get (.im 1)=some (boxO 0)
 g2:h.get (.im 2)=some (intO d)
 g3:h.get (.im 3)=some (.cells [.p .nilslice] 0)
structure St1 (h:Heap) (L:List Tok) (s:RS) (d:Int) (n:Nat) (xs:List PVal) (j:Nat):Prop where
 g0:h.get (.im 0)=some (rO L s)
 g1:h.get (.im 1)=some (boxO 0)
 g2:h.get (.im 2)=some (intO d)
 hj:4<=j
 g3:h.get (.im 3)=some (.cells [.sref (.im j) 0 n none 5] 0)
 gj:h.get (.im j)=some (.cells (pcells xs) 0)
 hx:xs.length=n*5
 hn:n<=90000
theorem St0.put{h:Heap}{L:List Tok}{s t:RS}{d:Int}(A:St0 h L s d):St0 (h.put (.im 0) (rO L t)) L t d :=
 ⟨Heap.zput_self A.g0 (λe=>by cases e),(Heap.zput_ne A.g0 (by decide)).trans A.g1,(Heap.zput_ne A.g0 (by decide)).trans A.g2,(Heap.zput_ne A.g0 (by decide)).trans A.g3⟩
theorem St1.put{h:Heap}{L:List Tok}{s t:RS}{d:Int}{n:Nat}{xs:List PVal}{j:Nat}(A:St1 h L s d n xs j):St1 (h.put (.im 0) (rO L t)) L t d n xs j :=
 ⟨Heap.zput_self A.g0 (λe=>by cases e),(Heap.zput_ne A.g0 (by decide)).trans A.g1,(Heap.zput_ne A.g0 (by decide)).trans A.g2,A.hj,(Heap.zput_ne A.g0 (by decide)).trans A.g3,(Heap.zput_ne A.g0 (λe=>by cases e; have:=A.hj; omega)).trans A.gj,A.hx,A.hn⟩
theorem qR9{h:Heap}{L:List Tok}{s t:RS}{v:TT}{d:Int}(A:St0 h L s d)(E:Ent d L s v t) :
  ∃ h' j,(∀ {β:Type}(e:Nat)(k:TVal->Heap->Option β),vcall Om (.v (.c (.func 86 [.im 1,.im 2,.im 3]))) [] h e k=k (.tup []) h')/\St1 h' L t d 1 (eRow (peekM L s).text v) j:=by
 have n0:(Ref.im 0)∉([.im 1]:List Ref):=by decide
 have hr:reach h fuelReach ([.v (.c (.ptr (.im 1) 0)),.v (.c (.ptr (.im 2) 0)),.v (.c (.ptr (.im 3) 0))].flatMap TVal.refs) []=[.im 1,.im 0,.im 2,.im 3]:=by
  show reach h (395+1+1+1+1+1) [.im 1,.im 2,.im 3] []=_;rw[qAK _ (.im 1) _ _ _ (by decide) A.g1];show reach h (395+1+1+1+1) [.im 0,.im 2,.im 3] [.im 1]=_;rw[qAK _ (.im 0) _ _ _ (by decide) A.g0];show reach h (395+1+1+1) [.im 2,.im 3] [.im 1,.im 0]=_;rw[qAK _ (.im 2) _ _ _ (by decide) A.g2];show reach h (395+1+1) [.im 3] [.im 1,.im 0,.im 2]=_;rw[qAK _ (.im 3) _ _ _ (by decide) A.g3];exact qAc _ _
 have hm:([.im 1,.im 0,.im 2,.im 3]:List Ref).mapM h.get=some [boxO 0,rO L s,intO d,.cells [.p .nilslice] 0]:=by
  simp only[List.mapM_cons,List.mapM_nil,A.g0,A.g1,A.g2,A.g3,Option.pure_def,rL,Option.bind_some]
 have pl:=qAB (eRow (peekM L s).text v) 0;obtain⟨h',hc,B⟩:=qBz (O:=Om) (h:=h) 86 [.v (.c (.ptr (.im 1) 0)),.v (.c (.ptr (.im 2) 0)),.v (.c (.ptr (.im 3) 0))] _ [P0,.v (.c (.ptr (.im 2) 0)),.v (.c (.ptr (.im 3) 0))] _ _ _ _ _ (.tup []) rfl hr hm rfl rfl (qRQ d L s v t E) (show(4:Nat)<=5 by decide) (by decide) rfl;refine⟨h',h.ims.length+0,λe k=>(qMo 86 _ _ _).trans (hc e k),?_⟩;have hl:4<=h.ims.length:=by
  have:=(Heap.get_im_some A.g3).1;have:=(List.getElem?_eq_some_iff.1 this).1;omega
 exact⟨B.own 1 (.im 0) _ rfl rfl (λe=>by cases e),B.own 0 (.im 1) _ rfl rfl (λe=>by cases e),B.own 2 (.im 2) _ rfl rfl (λe=>by cases e),by omega,B.own 3 (.im 3) _ rfl rfl (λe=>by cases e),
  B.new 0 (.cells (pcells (eRow (peekM L s).text v)) 0) (congrArg some (pl.2 _)) (λe=>by cases e),by unfold eRow; simp[TT.row_len],by omega⟩
theorem qTz{j:Nat}(hj:4<=j):inn [.im 1,.im 0,.im 2,.im 3,.im j] (.im j)=some (.im 4):=by
 have ne:∀ i:Nat,i<4->decide (Ref.im j=Ref.im i)=false:=λi hi=>decide_eq_false (λe=>by cases e; omega)
 unfold inn;simp only[idx,ne 1 (by decide),ne 0 (by decide),ne 2 (by decide),ne 3 (by decide),cond_false,decide_true,cond_true];rfl
theorem qQK{h:Heap}{L:List Tok}{s t:RS}{v:TT}{d:Int}{n j:Nat}{xs:List PVal}(A:St1 h L s d n xs j)(hn:n<=80000)(E:Ent d L s v t) :
  ∃ h' j,(∀ {β:Type}(e:Nat)(k:TVal->Heap->Option β),vcall Om (.v (.c (.func 86 [.im 1,.im 2,.im 3]))) [] h e k=k (.tup []) h')/\St1 h' L t d (n+1) (xs++eRow (peekM L s).text v) j:=by
 have hj:=A.hj;have nj:∀ i:Nat,i<4->Ref.im j≠Ref.im i:=λi hi e=>by cases e; omega
 have nm:Ref.im j∉([.im 1,.im 0,.im 2,.im 3]:List Ref):=by
  simp only[List.mem_cons,List.not_mem_nil,or_false,not_or];exact⟨nj 1 (by decide),nj 0 (by decide),nj 2 (by decide),nj 3 (by decide)⟩
 have pl:=qAB (xs++eRow (peekM L s).text v) 0;have px:=qAB xs 0;have hr:reach h fuelReach ([.v (.c (.ptr (.im 1) 0)),.v (.c (.ptr (.im 2) 0)),.v (.c (.ptr (.im 3) 0))].flatMap TVal.refs) []=[.im 1,.im 0,.im 2,.im 3,.im j]:=by
  show reach h (394+1+1+1+1+1+1) [.im 1,.im 2,.im 3] []=_;rw[qAK _ (.im 1) _ _ _ (by decide) A.g1];show reach h (394+1+1+1+1+1) [.im 0,.im 2,.im 3] [.im 1]=_;rw[qAK _ (.im 0) _ _ _ (by decide) A.g0];show reach h (394+1+1+1+1) [.im 2,.im 3] [.im 1,.im 0]=_;rw[qAK _ (.im 2) _ _ _ (by decide) A.g2];show reach h (394+1+1+1) [.im 3] [.im 1,.im 0,.im 2]=_;rw[qAK _ (.im 3) _ _ _ (by decide) A.g3];show reach h (394+1+1) [.im j] [.im 1,.im 0,.im 2,.im 3]=_;rw[qAK _ (.im j) _ _ _ nm A.gj,px.1];exact qAc _ _
 have hm:([.im 1,.im 0,.im 2,.im 3,.im j]:List Ref).mapM h.get=some [boxO 0,rO L s,intO d,.cells [.sref (.im j) 0 n none 5] 0,.cells (pcells xs) 0]:=by
  simp only[List.mapM_cons,List.mapM_nil,A.g0,A.g1,A.g2,A.g3,A.gj,Option.pure_def,rL,Option.bind_some]
 have e5:([boxO 0,rO L s,intO d,.cells [.sref (.im j) 0 n none 5] 0,.cells (pcells xs) 0]:List AObj).map (AObj.ren (inn [.im 1,.im 0,.im 2,.im 3,.im j]))=[boxO 1,rO L s,intO d,.cells [.sref (.im 4) 0 n none 5] 0,.cells (pcells xs) 0]:=by
  show [boxO 1,rO L s,intO d,AObj.cells [match inn [.im 1,.im 0,.im 2,.im 3,.im j] (.im j) with|some s => .sref s 0 n none 5|none => .junk] 0,(AObj.cells (pcells xs) 0).ren _]=_;rw[qTz hj,px.2]
 have hnd:([.im 1,.im 0,.im 2,.im 3,.im j]:List Ref).Nodup:=by
  have:([.im 1,.im 0,.im 2,.im 3]:List Ref).Nodup:=by decide
  rw[show([.im 1,.im 0,.im 2,.im 3,.im j]:List Ref)=[.im 1,.im 0,.im 2,.im 3]++[.im j] from rfl,List.nodup_append];refine⟨this,by simp,?_⟩;intro a ha b hb e;rw[List.mem_singleton.1 hb] at e;exact nm (e▸ha)
 obtain⟨h',hc,B⟩:=qBz (O:=Om) (h:=h) 86 [.v (.c (.ptr (.im 1) 0)),.v (.c (.ptr (.im 2) 0)),.v (.c (.ptr (.im 3) 0))] _ [P0,.v (.c (.ptr (.im 2) 0)),.v (.c (.ptr (.im 3) 0))] _ _ _ _ _ (.tup []) rfl hr hm rfl e5 (qO0 n xs A.hx (by have:=A.hn; omega) d L s v t E) (show(5:Nat)<=6 by decide) hnd rfl;refine⟨h',h.ims.length+0,λe k=>(qMo 86 _ _ _).trans (hc e k),?_⟩;have hl:4<=h.ims.length:=by
  have:=(Heap.get_im_some A.g3).1;have:=(List.getElem?_eq_some_iff.1 this).1;omega
 exact⟨B.own 1 (.im 0) _ rfl rfl (λe=>by cases e),B.own 0 (.im 1) _ rfl rfl (λe=>by cases e),B.own 2 (.im 2) _ rfl rfl (λe=>by cases e),by omega,B.own 3 (.im 3) _ rfl rfl (λe=>by cases e),
  B.new 0 (.cells (pcells (xs++eRow (peekM L s).text v)) 0) (congrArg some (pl.2 _)) (λe=>by cases e),by have:=A.hx; unfold eRow; simp[TT.row_len]; omega,by omega⟩
abbrev Es:=List (List UInt8×TT)
def eRows(es:Es):List PVal:=es.flatMap λp=>eRow p.1 p.2
abbrev F86:TVal := .v (.c (.func 86 [.im 1,.im 2,.im 3]))
def fieldM(sub:RS->TT×RS)(L:List Tok)(s:RS):(List UInt8×TT)×RS:=(((peekM L s).text,(sub (colM L s)).1),(sub (colM L s)).2)
def loopM(sub:RS->TT×RS)(L:List Tok)(x:List UInt8):Nat->RS->Es->Es×RS
 |0,s,acc=>(acc,s)
 |f+1,s,acc=>if isM 4 L s [44]=true then loopM sub L x f (fieldM sub L (nextM s)).2 (acc++[(fieldM sub L (nextM s)).1]) else (acc,mustM (takeM 4 L s x) (isM 4 L s x))
def rowM(sub:RS->TT×RS)(L:List Tok)(x:List UInt8)(s:RS):Es×RS:=if isM 4 L s x=true then ([],nextM s) else loopM sub L x (L.length+2) (fieldM sub L s).2 [(fieldM sub L s).1]
def I1(L:List Tok)(s:RS):Prop:=(s.e=0->s.p<=L.length)/\s.p<=L.length+1
structure SubOK (d:Int) (L:List Tok) (sub:RS->TT×RS) (ok:RS->Prop):Prop where
 one:∀ s,I1 L s->ok s->Om 34 [P0,kI (d+1)] [rO L s]=some (kA (sub s).1.row,[rO L (sub s).2])
 inv:∀ s,I1 L s->I1 L (sub s).2/\s.p<=(sub s).2.p
def loopOK(sub:RS->TT×RS)(ok:RS->Prop)(L:List Tok):Nat->RS->Prop
 |0,_=>True
 |f+1,s=>isM 4 L s [44]=true->ok (colM L (nextM s))/\loopOK sub ok L f (fieldM sub L (nextM s)).2
def rowOK(sub:RS->TT×RS)(ok:RS->Prop)(L:List Tok)(x:List UInt8)(s:RS):Prop:=isM 4 L s x=false->ok (colM L s)/\loopOK sub ok L (L.length+2) (fieldM sub L s).2
theorem qBC{k:Int}{L:List Tok}{s:RS}{x:List UInt8}(hk:k≠0)(h:isM k L s x=true):s.e=0/\s.p<L.length:=by
 unfold isM peekM at h;rw[Bool.and_eq_true,decide_eq_true_eq] at h;by_cases he:s.e=0
 ·rw[if_pos he] at h;refine⟨he,?_⟩
  rcases Nat.lt_or_ge s.p L.length with h1|h1
  ·exact h1
  ·rw[List.getElem?_eq_none h1] at h;exact absurd h.1 (λe=>hk e.symm)
 ·rw[if_neg he] at h;exact absurd h.1 (λe=>hk e.symm)
theorem qCo{L:List Tok}{s:RS}(h:(peekM L s).kind≠0):s.e=0/\s.p<L.length:=by
 unfold peekM at h;by_cases he:s.e=0
 ·rw[if_pos he] at h;refine⟨he,?_⟩
  rcases Nat.lt_or_ge s.p L.length with h1|h1
  ·exact h1
  ·rw[List.getElem?_eq_none h1] at h;exact absurd rfl h
 ·rw[if_neg he] at h;exact absurd rfl h
theorem qGU(s:RS)(e:Int)(he:e≠0):(failM s e).e≠0:=by
 unfold failM;split
 ·exact he
 ·assumption
theorem qEa{L:List Tok}{s:RS}(b:Bool)(h:I1 L s):I1 L (mustM s b):=by
 refine⟨λe => ?_,by rw[qBS]; exact h.2⟩;rw[qBS];unfold mustM at e;split at e
 ·exact h.1 e
 ·exact absurd e (qGU _ _ (by decide))
theorem qEj{k:Int}{L:List Tok}{s:RS}{x:List UInt8}(hk:k≠0)(h:I1 L s):I1 L (takeM k L s x)/\s.p<=(takeM k L s x).p:=by
 unfold takeM;split
 ·rename_i hi;obtain⟨h1,h2⟩:=qBC hk hi;refine⟨⟨λ_ => ?_,?_⟩,?_⟩
  ·show s.p+1<=_; omega
  ·show s.p+1<=_; omega
  ·show s.p<=s.p+1; omega
 ·exact⟨h,Nat.le_refl _⟩
theorem nm_I{L:List Tok}{s:RS}(h:s.p<=L.length):I1 L (nmS1 L s):=by
 refine⟨λe => ?_,by rw[qB6]; omega⟩;rw[qB6];by_cases h1:(peekM L s).kind=1
 ·have:=(qCo (L:=L) (s:=s) (by rw[h1]; decide)).2;omega
 ·exfalso;have:(mustM s (decide ((peekM L s).kind=1))).e=0:=e;rw[decide_eq_false h1] at this;unfold mustM at this;rw[if_neg (by decide)] at this;exact qGU _ _ (by decide) this
theorem qGS{L:List Tok}{s:RS}(h:s.p<=L.length):I1 L (colM L s)/\s.p+1<=(colM L s).p:=by
 have h1:=nm_I h;obtain⟨h2,h3⟩:=qEj (k:=4) (x:=[58]) (by decide) h1;refine⟨qEa _ h2,?_⟩;unfold colM;rw[qBS];rw[qB6] at h3;omega
theorem qOP{d:Int}{L:List Tok}{sub:RS->TT×RS}{okP:RS->Prop}(ok:SubOK d L sub okP)(hd:0<=d/\d<=100)(hL:L.length<=1000){s:RS}(h:s.p<=L.length)(hc:okP (colM L s)):Ent d L s (fieldM sub L s).1.2 (fieldM sub L s).2/\I1 L (fieldM sub L s).2/\s.p+1<=(fieldM sub L s).2.p:=by
 obtain⟨h1,h2⟩:=qGS h;obtain⟨h4,h5⟩:=ok.inv _ h1;exact⟨⟨ok.one _ h1 hc,hd,by omega⟩,h4,by show s.p+1<=(sub (colM L s)).2.p; omega⟩
theorem qRb{h:Heap}{L:List Tok}{s:RS}{d:Int}{n j:Nat}{xs:List PVal}(hp:s.p<=1000000)(x:List UInt8)(A:St1 h L s d n xs j) :
  lim tab.get S 66 4 2 [P0,kS x] h=some (.tup [],[rO L (mustM (takeM 4 L s x) (isM 4 L s x)),boxO 0,intO d,.cells [.sref (.im 4) 0 n none 5] 0,.cells (pcells xs) 0]):=by
 have hj:=A.hj;have A1:=A.put (t:=takeM 4 L s x);rw[w66_2,b66_2,u41 hp x A.g0,u39 _ A1.g0];have B:=A1.put (t:=mustM (takeM 4 L s x) (isM 4 L s x));generalize mustM (takeM 4 L s x) (isM 4 L s x)=t at B ⊢;have px:=qAB xs 0;have nm:Ref.im j∉(ims 4:List Ref):=by
  show Ref.im j∉[.im 0,.im 1,.im 2,.im 3];simp only[List.mem_cons,List.not_mem_nil,or_false,not_or,Ref.im.injEq];omega
 generalize (h.put (.im 0) (rO L (takeM 4 L s x))).put (.im 0) (rO L t)=h at B;have e:(ims (3+1)).flatMap (λr=>match h.get r with|some o=>o.refs|none=>[])=[.im 0,.im j]:=by
  show([.im 0,.im 1,.im 2,.im 3]:List Ref).flatMap _=_;simp only[List.flatMap_cons,List.flatMap_nil,B.g0,B.g1,B.g2,B.g3];rw[(qAC L t).1];rfl
 refine(qCl 3 h [.im 0,.im 1,.im 2,.im 3,.im j] ?_).trans ?_
 ·refine(congrArg (λl=>reach h fuelReach l (ims 4)) e).trans ?_;show reach h (397+1+1+1) [.im 0,.im j] (ims 4)=_;rw[qA1 _ _ _ _ (by decide),qAK _ (.im j) [] (ims 4) _ nm B.gj,px.1];exact qAc _ _
 ·have ij:inn [.im 0,.im 1,.im 2,.im 3,.im j] (.im j)=some (.im 4):=by
   have ne:∀ i:Nat,i<4->decide (Ref.im j=Ref.im i)=false:=λi hi=>decide_eq_false (λe=>by cases e; omega)
   unfold inn;simp only[idx,ne 1 (by decide),ne 0 (by decide),ne 2 (by decide),ne 3 (by decide),cond_false,decide_true,cond_true];rfl
  simp only[List.map_cons,List.map_nil,B.g0,B.g1,B.g2,B.g3,B.gj,px.2,(qAC L t).2];show some (TVal.tup [],[rO L t,boxO 0,intO d,AObj.cells [match inn [.im 0,.im 1,.im 2,.im 3,.im j] (.im j) with|some s => .sref s 0 n none 5|none => .junk] 0,AObj.cells (pcells xs) 0])=_;rw[ij]
theorem qGL(l:Es)(p:List UInt8×TT):eRows (l++[p])=eRows l++eRow p.1 p.2:=by unfold eRows; simp
theorem qIV{d:Int}{L:List Tok}{sub:RS->TT×RS}{okP:RS->Prop}(ok:SubOK d L sub okP)(hd:0<=d/\d<=100)(hL:L.length<=1000)(x:List UInt8):∀ (f:Nat) (s:RS) (acc:Es) (h:Heap) (j:Nat),I1 L s->loopOK sub okP L f s->L.length - s.p<f->acc.length+(L.length - s.p)<=L.length+2->St1 h L s d acc.length (eRows acc) j ->
  lim tab.get S 66 4 1 [P0,kS x,F86] h=some (.tup [],[rO L (loopM sub L x f s acc).2,boxO 0,intO d,.cells [.sref (.im 4) 0 (loopM sub L x f s acc).1.length none 5] 0,.cells (pcells (eRows (loopM sub L x f s acc).1)) 0])
 |0,s,acc,h,j,I,lo,hf,ha,A=>by omega
 |f+1,s,acc,h,j,I,lo,hf,ha,A=>by
  have hp:s.p<=1000000:=by have:=I.2; omega
  unfold loopM;rw[w66_1,b66_1,u41 hp [44] A.g0];cases hi:isM 4 L s [44] with
  |false =>
   have ht:takeM 4 L s [44]=s:=by unfold takeM; rw[hi]; rfl
   rw[qCR,if_neg (by decide),ht];exact qRb hp x (A.put (t:=s))
  |true =>
   obtain⟨h1,h2⟩:=qBC (by decide) hi;have ht:takeM 4 L s [44]=nextM s:=by unfold takeM; rw[hi]; rfl
   rw[qD5,if_pos rfl,ht];have hn:(nextM s).p<=L.length:=by show s.p+1<=_; omega
   obtain⟨lo1,lo2⟩:=lo hi;obtain⟨E,I',q⟩:=qOP ok hd hL hn lo1;obtain⟨h1',j1,hc,B⟩:=qQK (A.put (t:=nextM s)) (by omega) E;show vcall Om F86 [] (h.put (.im 0) (rO L (nextM s))) 14 _=_;rw[hc];have q':s.p+2<=(fieldM sub L (nextM s)).2.p:=q;refine qIV ok hd hL x f _ (acc++[(fieldM sub L (nextM s)).1]) h1' j1 I' lo2 (by omega) (by rw[List.length_append]; show acc.length+1+_<=_; omega) ?_;rw[List.length_append,qGL];exact B
theorem qO6{d:Int}{L:List Tok}{sub:RS->TT×RS}{okP:RS->Prop}(ok:SubOK d L sub okP)(hd:0<=d/\d<=100)(hL:L.length<=1000)(x:List UInt8)(s:RS)(h:s.p<=L.length)(ro:rowOK sub okP L x s)(hx:isM 4 L s x=false) :
  Om 66 [P0,kS x,F86] [rO L s,boxO 0,intO d,.cells [.p .nilslice] 0]=some (.tup [],[rO L (rowM sub L x s).2,boxO 0,intO d,.cells [.sref (.im 4) 0 (rowM sub L x s).1.length none 5] 0,.cells (pcells (eRows (rowM sub L x s).1)) 0]):=by
 refine(qAD rfl).trans ?_;show lim tab.get S 66 4 0 [P0,kS x,F86] (Heap.mk [rO L s,boxO 0,intO d,.cells [.p .nilslice] 0] .nil)=_;have A:St0 (Heap.mk [rO L s,boxO 0,intO d,.cells [.p .nilslice] 0] .nil) L s d:=⟨rfl,rfl,rfl,rfl⟩;generalize Heap.mk [rO L s,boxO 0,intO d,.cells [.p .nilslice] 0] .nil=H at A;have ht:takeM 4 L s x=s:=by unfold takeM; rw[hx]; rfl
 obtain⟨ro1,ro2⟩:=ro hx;obtain⟨E,I',q⟩:=qOP ok hd hL h ro1;rw[w66_0,b66_0,u41 (by omega) x A.g0,hx,qCR,ht];obtain⟨h1,j1,hc,B⟩:=qR9 (A.put (t:=s)) E;show vcall Om F86 [] (H.put (.im 0) (rO L s)) 10 _=_;rw[hc];unfold rowM;rw[if_neg (by rw[hx]; decide)];refine qIV ok hd hL x (L.length+2) _ [(fieldM sub L s).1] h1 j1 I' ro2 (by omega) (by show 1+_<=_; omega) ?_;show St1 h1 L _ d 1 (eRow (fieldM sub L s).1.1 (fieldM sub L s).1.2++[]) j1;rw[List.append_nil];exact B
theorem qOg{d:Int}{L:List Tok}{sub:RS->TT×RS}(hL:L.length<=1000)(x:List UInt8)(s:RS)(h:s.p<=L.length)(hx:isM 4 L s x=true) :
  Om 66 [P0,kS x,F86] [rO L s,boxO 0,intO d,.cells [.p .nilslice] 0]=some (.tup [],[rO L (rowM sub L x s).2,boxO 0,intO d,.cells [.p .nilslice] 0]):=by
 refine(qAD rfl).trans ?_;show lim tab.get S 66 4 0 [P0,kS x,F86] (Heap.mk [rO L s,boxO 0,intO d,.cells [.p .nilslice] 0] .nil)=_;have A:St0 (Heap.mk [rO L s,boxO 0,intO d,.cells [.p .nilslice] 0] .nil) L s d:=⟨rfl,rfl,rfl,rfl⟩;generalize Heap.mk [rO L s,boxO 0,intO d,.cells [.p .nilslice] 0] .nil=H at A;have ht:takeM 4 L s x=nextM s:=by unfold takeM; rw[hx]; rfl
 rw[w66_0,b66_0,u41 (by omega) x A.g0,hx,qD5,ht];unfold rowM;rw[if_pos hx];have A2:=A.put (t:=nextM s);generalize H.put (.im 0) (rO L (nextM s))=h at A2;generalize nextM s=t at *;have e:(ims (3+1)).flatMap (λr=>match h.get r with|some o=>o.refs|none=>[])=[.im 0]:=by
  show([.im 0,.im 1,.im 2,.im 3]:List Ref).flatMap _=_;simp only[List.flatMap_cons,List.flatMap_nil,A2.g0,A2.g1,A2.g2,A2.g3];rw[(qAC L t).1];rfl
 refine(qCl 3 h [.im 0,.im 1,.im 2,.im 3] ?_).trans ?_
 ·refine(congrArg (λl=>reach h fuelReach l (ims 4)) e).trans ?_;show reach h (398+1+1) [.im 0] (ims 4)=_;rw[qA1 _ _ _ _ (by decide)];exact qAc _ _
 ·simp only[List.map_cons,List.map_nil,A2.g0,A2.g1,A2.g2,A2.g3,(qAC L t).2];rfl
def cmpM(x y:List UInt8):Int:=if bless x y=true then -1 else if (!(bless x y||x==y))=true then 1 else 0
theorem qAX(x y:List UInt8):decide (cmpM x y<0)=bless x y:=by
 unfold cmpM;cases bless x y
 ·rw[if_neg (by decide)];split <;> rfl
 ·rfl
theorem qTi(x:List UInt8):Om 69 [kS x] []=some (kB false,[]):=by
 refine(qAD rfl).trans ?_;show lim tab.get S 69 0 0 [kS x] h0=_;rw[w69_0,b69_0];simp (maxSteps:=9999999) +contextual only[exa,rA,rB,rC,rD,rE,rF,rG,rH,rI,oneOf]
theorem qIt(x y:List UInt8):Om 46 [kS x,kS y] []=some (kI (cmpM x y),[]):=by
 refine(qAD rfl).trans ?_;show lim tab.get S 46 0 0 [kS x,kS y] h0=_;have c:=λ{β:Type} {k:TVal->Heap->Option β} {h:Heap} {d:Nat} (x:List UInt8)=>qAH (O:=Om) (k:=k) (h:=h) (d:=d) 69 [kS x] _ rfl (qTi x) rfl
 rw[w46_0,b46_0];unfold cmpM;cases h1:bless x y
 ·cases h2:(x==y)
  ·simp (maxSteps:=9999999) +contextual only[exa,rA,rB,rC,rD,rE,rF,rG,rH,rI,c,h1,h2,oneOf,if_true,if_false,Bool.false_eq_true]
  ·simp (maxSteps:=9999999) +contextual only[exa,rA,rB,rC,rD,rE,rF,rG,rH,rI,c,h1,h2,oneOf,if_true,if_false,Bool.false_eq_true]
 ·simp (maxSteps:=9999999) +contextual only[exa,rA,rB,rC,rD,rE,rF,rG,rH,rI,c,h1,oneOf,if_true]
theorem qAY(v:TT):∃ a1 a2 a3 a4,v.row=[a1,a2,a3,a4]:=by cases v; exact⟨_,_,_,_,rfl⟩
theorem qSu(p q:List UInt8×TT):Om 88 [kA (eRow p.1 p.2),kA (eRow q.1 q.2)] []=some (kI (cmpM p.1 q.1),[]):=by
 refine(qAD rfl).trans ?_;obtain⟨a1,a2,a3,a4,ha⟩:=qAY p.2;obtain⟨b1,b2,b3,b4,hb⟩:=qAY q.2;unfold eRow;rw[ha,hb];show lim tab.get S 88 0 0 [.v (.agg [.p (.str p.1),.p a1,.p a2,.p a3,.p a4]),.v (.agg [.p (.str q.1),.p b1,.p b2,.p b3,.p b4])] h0=_;have c:=λ{β:Type} {k:TVal->Heap->Option β} {h:Heap} {d:Nat}=>qAH (O:=Om) (k:=k) (h:=h) (d:=d) 46 [kS p.1,kS q.1] _ rfl (qIt p.1 q.1) rfl
 rw[w88_0,b88_0];simp (maxSteps:=9999999) +contextual only[exa,rA,rB,rC,rD,rE,rF,rG,rH,rI,c,oneOf]
theorem qA0(k:List UInt8)(v:TT):(eRow k v).length=5:=by unfold eRow; simp[TT.row_len]
theorem qDP:∀ l:Es,(eRows l).length=l.length*5
 |[]=>rfl
 |p::l=>by
  have:=qDP l;show(eRow p.1 p.2++eRows l).length=_;rw[List.length_append,qA0,this,List.length_cons]; omega
theorem qDz:∀ (l:Es) (i:Nat),(eRows l).drop (i*5)=eRows (l.drop i)
 |l,0=>by simp
 |[],i+1=>by simp[eRows]
 |p::l,i+1=>by
  show(eRow p.1 p.2++eRows l).drop ((i+1)*5)=_;rw[List.drop_append,List.drop_eq_nil_of_le (by rw[qA0]; omega),qA0,List.nil_append,show(i+1)*5 - 5=i*5 by omega,qDz l i];rfl
theorem qDV(l:Es)(i:Nat)(p:List UInt8×TT)(h:l[i]?=some p):((pcells (eRows l)).drop (i*5)).take 5=pcells (eRow p.1 p.2):=by
 have hd:l.drop i=p::l.drop (i+1):=by
  obtain⟨h1,h2⟩:=List.getElem?_eq_some_iff.1 h;rw[List.drop_eq_getElem_cons h1,h2]
 unfold pcells;rw[<- List.map_drop,<- List.map_take,qDz,hd];show((eRow p.1 p.2++eRows (l.drop (i+1))).take 5).map _=_;rw[List.take_append,List.take_of_length_le (by rw[qA0]; omega),qA0,Nat.sub_self,List.take_zero,List.append_nil]
abbrev sE0(n:Nat):TVal := .v (.c (.sref (.im 0) 0 n none 5))
abbrev F88:TVal := .v (.c (.func 88 []))
theorem qAh{β:Type}{O:Oracle}{k:TVal->Heap->Option β}{h:Heap}{d:Nat}(g:FuncId)(r:Ref)(args as':List TVal)(o o':AObj)(v:TVal)(s1:args.map TVal.strip=args)(s2:args.flatMap TVal.refs=[r])(s3:args.map (TVal.ren (inn [r]))=as')(hg:h.get r=some o)(ho:plainO o)(ho':plainO o')(hv:∀ σ,v.ren σ=v)
  (hc:O g as' [o]=some (v,[o'])):vcall O (.v (.c (.func g []))) args h d k=k v (h.put r o'):=by
 have e2:reach h fuelReach (args.flatMap TVal.refs) []=[r]:=by
  rw[s2];show reach h (398+1+1) [r] []=_;rw[qAK _ r [] [] o (by simp) hg,ho.1];exact qAc _ _
 have e3:([r]:List Ref).mapM h.get=some [o]:=by simp only[List.mapM_cons,List.mapM_nil,hg,Option.pure_def,rL,Option.bind_some]
 rw[qDb g args args as' [r] [o] [o] [o'] v s1 e2 e3 s3 (by rw[List.map_cons,ho.2]; rfl) hc (Nat.le_refl _),hv];show k v (h.put r (o'.ren _))=_;rw[ho'.2]
open Go Go.AI
theorem qCp:∀ x:List UInt8,bless x x=false
 |[]=>rfl
 |a::x=>by
  have:=qCp x;simp only[bless] at this ⊢;simp[this]
theorem qDt:∀ x y:List UInt8,bless x y=true->bless y x=false
 |[],[],h=>by simp[bless] at h
 |[],b::y,_=>by simp[bless]
 |a::x,[],h=>by simp[bless] at h
 |a::x,b::y,h=>by
  have ih:=qDt x y;simp only[bless,Bool.or_eq_true,Bool.and_eq_true,decide_eq_true_eq,beq_iff_eq] at h;have e:bless (b::y) (a::x)=(decide (b<a)||(b==a&&bless y x)):=rfl;rw[e]
  rcases h with h|⟨h1,h2⟩
  ·have n1:¬ b<a:=λh'=>by have:=UInt8.lt_iff_toNat_lt.1 h; have:=UInt8.lt_iff_toNat_lt.1 h'; omega
   have n2:¬ b=a:=λh'=>by subst h'; have:=UInt8.lt_iff_toNat_lt.1 h; omega
   simp[n1,n2]
  ·subst h1;have n1:¬ a<a:=λh'=>by have:=UInt8.lt_iff_toNat_lt.1 h'; omega
   simp[n1,ih h2]
theorem qDS:∀ x y:List UInt8,bless x y=false->bless y x=false->x=y
 |[],[],_,_=>rfl
 |[],b::y,h,_=>by simp[bless] at h
 |a::x,[],_,h=>by simp[bless] at h
 |a::x,b::y,h1,h2=>by
  have e1:bless (a::x) (b::y)=(decide (a<b)||(a==b&&bless x y)):=rfl;have e2:bless (b::y) (a::x)=(decide (b<a)||(b==a&&bless y x)):=rfl;rw[e1,Bool.or_eq_false_iff,decide_eq_false_iff_not] at h1;rw[e2,Bool.or_eq_false_iff,decide_eq_false_iff_not] at h2
  have hab:a=b:=UInt8.toNat_inj.1 (by
   have q1:¬ a.toNat<b.toNat:=λh=>h1.1 (UInt8.lt_iff_toNat_lt.2 h)
   have q2:¬ b.toNat<a.toNat:=λh=>h2.1 (UInt8.lt_iff_toNat_lt.2 h)
   omega)
  subst hab;have r1:bless x y=false:=by simpa using h1.2
  have r2:bless y x=false:=by simpa using h2.2
  rw[qDS x y r1 r2]
theorem qEg:∀ x y z:List UInt8,bless y x=false->bless z y=false->bless z x=false
 |[],_,[],_,_=>rfl
 |[],[],c::z,_,h2=>by simp[bless]
 |[],b::y,c::z,_,h2=>by simp[bless]
 |a::x,[],_,h1,_=>by simp[bless] at h1
 |a::x,b::y,[],_,h2=>by simp[bless] at h2
 |a::x,b::y,c::z,h1,h2=>by
  have e1:bless (b::y) (a::x)=(decide (b<a)||(b==a&&bless y x)):=rfl;have e2:bless (c::z) (b::y)=(decide (c<b)||(c==b&&bless z y)):=rfl;have e3:bless (c::z) (a::x)=(decide (c<a)||(c==a&&bless z x)):=rfl;rw[e1,Bool.or_eq_false_iff,decide_eq_false_iff_not] at h1;rw[e2,Bool.or_eq_false_iff,decide_eq_false_iff_not] at h2;rw[e3,Bool.or_eq_false_iff,decide_eq_false_iff_not];have q1:¬ b.toNat<a.toNat:=λh=>h1.1 (UInt8.lt_iff_toNat_lt.2 h)
  have q2:¬ c.toNat<b.toNat:=λh=>h2.1 (UInt8.lt_iff_toNat_lt.2 h)
  refine⟨λh=>by have:=UInt8.lt_iff_toNat_lt.1 h; omega,?_⟩;cases hc:(c==a) with
  |false=>rfl
  |true =>
   have hca:c=a:=by simpa using hc
   subst hca;have hbc:b=c:=UInt8.toNat_inj.1 (by omega);subst hbc;have r1:bless y x=false:=by simpa using h1.2
   have r2:bless z y=false:=by simpa using h2.2
   rw[qEg x y z r1 r2]; rfl
section
variable {α:Type}
def swp(l:List α)(i j:Nat):List α:=match l[i]?,l[j]? with
 |some p,some q=>(l.set i q).set j p
 |_,_=>l
theorem qG7(l:List α)(i j:Nat):(swp l i j).length=l.length:=by
 unfold swp;split <;> simp
theorem qEq(l:List α)(i j:Nat)(p q:α)(hp:l[i]?=some p)(hq:l[j]?=some q):swp l i j=(l.set i q).set j p:=by
 unfold swp; rw[hp,hq]
theorem qBn(A B C:List α)(x y:α):swp (A++x::(B++y::C)) A.length (A.length+1+B.length)=A++y::(B++x::C):=by
 have e1:(A++x::(B++y::C))[A.length]?=some x:=by simp
 have e2:(A++x::(B++y::C))[A.length+1+B.length]?=some y:=by
  rw[List.getElem?_append_right (by omega),show A.length+1+B.length - A.length=B.length+1 by omega,List.getElem?_cons_succ];simp
 rw[qEq _ _ _ x y e1 e2,List.set_append_right _ _ (Nat.le_refl _),Nat.sub_self,List.set_cons_zero,List.set_append_right _ _ (by omega),show A.length+1+B.length - A.length=B.length+1 by omega,List.set_cons_succ,List.set_append_right _ _ (Nat.le_refl _),Nat.sub_self,List.set_cons_zero]
theorem qCd(A B C:List α)(x y:α)(h:swp (A++x::(B++y::C)) A.length (A.length+1+B.length)=A++y::(B++x::C)):swp (A++x::(B++y::C)) (A.length+1+B.length) A.length=A++y::(B++x::C):=by
 have e1:(A++x::(B++y::C))[A.length]?=some x:=by simp
 have e2:(A++x::(B++y::C))[A.length+1+B.length]?=some y:=by
  rw[List.getElem?_append_right (by omega),show A.length+1+B.length - A.length=B.length+1 by omega,List.getElem?_cons_succ];simp
 rw[qEq _ _ _ x y e1 e2] at h;rw[qEq _ _ _ y x e2 e1,<- h];exact List.set_comm _ _ (by omega)
def swR:Nat->Nat->Nat->List α->List α
 |0,_,_,l=>l
 |n+1,a,b,l=>swR n (a+1) (b+1) (swp l a b)
theorem qBo:∀ (X Y A M C:List α),X.length=Y.length->swR X.length A.length (A.length+X.length+M.length) (A++X++M++Y++C)=A++Y++M++X++C
 |[],[],A,M,C,h=>by simp[swR]
 |[],y::Y,A,M,C,h=>by simp at h
 |x::X,[],A,M,C,h=>by simp at h
 |x::X,y::Y,A,M,C,h=>by
  have h':X.length=Y.length:=by simpa using h
  have e:A++(x::X)++M++(y::Y)++C=A++x::((X++M)++y::(Y++C)):=by simp
  have s:=qBn A (X++M) (Y++C) x y;have ih:=qBo X Y (A++[y]) (M++[x]) C h';rw[List.length_cons,swR,e,show A.length+(X.length+1)+M.length=A.length+1+(X++M).length by simp; omega,s];have e2:A++y::(X++M++x::(Y++C))=(A++[y])++X++(M++[x])++Y++C:=by simp
  have e3:A++(y::Y)++M++(x::X)++C=(A++[y])++Y++(M++[x])++X++C:=by simp
  rw[e2,e3,<- ih]
  congr 1
  ·simp
  ·simp; omega
variable (lt:α->α->Bool)
abbrev Ord(l:List α):Prop:=l.Pairwise λp q=>lt q p=false
variable (asy:∀ p q,lt p q=true->lt q p=false) (ntr:∀ p q r,lt q p=false->lt r q=false->lt r p=false)
include ntr
theorem qD1(irr:∀ p,lt p p=false)(l:List α)(o:Ord lt l)(p:α)(h:l.getLast?=some p):∀ x∈l,lt p x=false:=by
 obtain⟨A,rfl⟩:=List.getLast?_eq_some_iff.1 h;intro x hx
 rcases List.mem_append.1 hx with hx|hx
 ·exact(List.pairwise_append.1 o).2.2 x hx p (by simp)
 ·rw[List.mem_singleton.1 hx]; exact irr p
theorem qPm(irr:∀ p,lt p p=false)(l:List α)(o:Ord lt l)(p:α)(h:l.head?=some p):∀ x∈l,lt x p=false:=by
 cases l with
 |nil=>cases h
 |cons q l =>
  cases h;intro x hx
  rcases List.mem_cons.1 hx with rfl|hx
  ·exact irr _
  ·exact(List.pairwise_cons.1 o).1 x hx
theorem qTu(irr:∀ p,lt p p=false)(X1 X2 Y1 Y2:List α)(oX:Ord lt (X1++X2))(oY:Ord lt (Y1++Y2))
  (h1:∀ p q,X1.getLast?=some p->Y2.head?=some q->lt q p=false) (h2:∀ p q,Y1.getLast?=some p->X2.head?=some q->lt q p=false) :
  ∀ x∈X1++Y1,∀ y∈X2++Y2,lt y x=false:=by
 have oX:=List.pairwise_append.1 oX;have oY:=List.pairwise_append.1 oY;have two:∀ (A B:List α),Ord lt A->Ord lt B->(∀ p q,A.getLast?=some p->B.head?=some q->lt q p=false)->∀ x∈A,∀ y∈B,lt y x=false:=by
  intro A B oA oB h x hx y hy;obtain⟨p,hp⟩:∃ p,A.getLast?=some p:=by
   cases hA:A.getLast? with
   |none=>rw[List.getLast?_eq_none_iff.1 hA] at hx; cases hx
   |some p=>exact⟨p,rfl⟩
  obtain⟨q,hq⟩:∃ q,B.head?=some q:=by
   cases B with
   |nil=>cases hy
   |cons q B=>exact⟨q,rfl⟩
  exact ntr _ _ _ (ntr _ _ _ (qD1 lt ntr irr A oA p hp x hx) (h p q hp hq)) (qPm lt ntr irr B oB q hq y hy)
 intro x hx y hy
 rcases List.mem_append.1 hx with hx|hx <;> rcases List.mem_append.1 hy with hy|hy
 ·exact oX.2.2 x hx y hy
 ·exact two X1 Y2 oX.1 oY.2.1 h1 x hx y hy
 ·exact two Y1 X2 oY.1 oX.2.1 h2 x hx y hy
 ·exact oY.2.2 x hx y hy
omit ntr
structure Mrg (X Y Z:List α):Prop where
 ord:Ord lt Z
 prm:Z.Perm (X++Y)
theorem Mrg.len{X Y Z:List α}(m:Mrg lt X Y Z):Z.length=X.length+Y.length:=by rw[m.prm.length_eq,List.length_append]
theorem qFB(Y:List α)(o:Ord lt Y):Mrg lt [] Y Y:=⟨o,.refl _⟩
theorem qFL(X:List α)(o:Ord lt X):Mrg lt X [] X:=⟨o,by rw[List.append_nil]⟩
include ntr
theorem qK6(irr:∀ p,lt p p=false)(X1 X2 Y1 Y2 Z1 Z2:List α)(oX:Ord lt (X1++X2))(oY:Ord lt (Y1++Y2))
  (h1:∀ p q,X1.getLast?=some p->Y2.head?=some q->lt q p=false) (h2:∀ p q,Y1.getLast?=some p->X2.head?=some q->lt q p=false)
  (m1:Mrg lt X1 Y1 Z1) (m2:Mrg lt X2 Y2 Z2):Mrg lt (X1++X2) (Y1++Y2) (Z1++Z2):=by
 refine⟨List.pairwise_append.2 ⟨m1.ord,m2.ord,λx hx y hy=>qTu lt ntr irr X1 X2 Y1 Y2 oX oY h1 h2 x (m1.prm.mem_iff.1 hx) y (m2.prm.mem_iff.1 hy)⟩,?_⟩;refine(m1.prm.append m2.prm).trans ?_;have e1:X1++Y1++(X2++Y2)=X1++(Y1++X2++Y2):=by simp
 have e2:X1++X2++(Y1++Y2)=X1++(X2++Y1++Y2):=by simp
 rw[e1,e2];exact List.Perm.append_left _ (List.Perm.append_right _ List.perm_append_comm)
include asy
theorem qLs(x:α)(Y1 Y2:List α)(oY:Ord lt (Y1++Y2))(h1:∀ y∈Y1,lt y x=true)(h2:∀ y∈Y2,lt y x=false):Mrg lt [x] (Y1++Y2) (Y1++x::Y2):=by
 have o:=List.pairwise_append.1 oY;refine⟨List.pairwise_append.2 ⟨o.1,List.pairwise_cons.2 ⟨h2,o.2.1⟩,λy hy z hz => ?_⟩,List.perm_middle⟩
 rcases List.mem_cons.1 hz with rfl|hz
 ·exact asy _ _ (h1 y hy)
 ·exact o.2.2 y hy z hz
theorem qFF(y:α)(X1 X2:List α)(oX:Ord lt (X1++X2))(h1:∀ x∈X1,lt y x=false)(h2:∀ x∈X2,lt y x=true):Mrg lt (X1++X2) [y] (X1++y::X2):=by
 have o:=List.pairwise_append.1 oX;refine⟨List.pairwise_append.2 ⟨o.1,List.pairwise_cons.2 ⟨λx hx=>asy _ _ (h2 x hx),o.2.1⟩,λx hx z hz => ?_⟩,?_⟩
 ·rcases List.mem_cons.1 hz with rfl|hz
  ·exact h1 x hx
  ·exact o.2.2 x hx z hz
 ·exact List.perm_middle.trans (List.perm_append_comm (l₁:=[y]) (l₂:=X1++X2))
end
class SK (α:Type) where
 z:Nat
 row:α->List PVal
 hrow:∀ a,(row a).length=z
 key:α->List UInt8
 F:Nat
 fI:Nat
 fM:Nat
 fR:Nat
 fS:Nat
 fT:Nat
 fE:Nat
 cmp:∀ p q,Om F [kA (row p),kA (row q)] []=some (kI (cmpM (key p) (key q)),[])
 nI:∀ a o,S fI a o=none
 nM:∀ a o,S fM a o=none
 nR:∀ a o,S fR a o=none
 nS:∀ a o,S fS a o=none
 nT:∀ a o,S fT a o=none
 nE:∀ a o,S fE a o=none
 wI_0:∀ (q:Nat) (x0 x1 x2 x3:TVal) (h:Heap),lim tab.get S fI q 0 [x0,x1,x2,x3] h=gI_0 z fI fM fR fS fT Om (lim tab.get S fI q) q x0 x1 x2 x3 h
 wI_1:∀ (q:Nat) (x0 x1 x2 x3 x4:TVal) (h:Heap),lim tab.get S fI q 1 [x0,x1,x2,x3,x4] h=gI_1 z fI fM fR fS fT Om (lim tab.get S fI q) q x0 x1 x2 x3 x4 h
 wI_2:∀ (q:Nat) (x0 x1 x2 x3 x4 x5:TVal) (h:Heap),lim tab.get S fI q 2 [x0,x1,x2,x3,x4,x5] h=gI_2 z fI fM fR fS fT Om (lim tab.get S fI q) q x0 x1 x2 x3 x4 x5 h
 wI_3:∀ (q:Nat) (x0 x1 x2 x3 x4:TVal) (h:Heap),lim tab.get S fI q 3 [x0,x1,x2,x3,x4] h=gI_3 z fI fM fR fS fT Om (lim tab.get S fI q) q x0 x1 x2 x3 x4 h
 wM_0:∀ (q:Nat) (x0 x1 x2 x3 x4:TVal) (h:Heap),lim tab.get S fM q 0 [x0,x1,x2,x3,x4] h=gM_0 z fI fM fR fS fT Om (lim tab.get S fM q) q x0 x1 x2 x3 x4 h
 wM_1:∀ (q:Nat) (x0 x1 x2 x3 x4:TVal) (h:Heap),lim tab.get S fM q 1 [x0,x1,x2,x3,x4] h=gM_1 z fI fM fR fS fT Om (lim tab.get S fM q) q x0 x1 x2 x3 x4 h
 wM_2:∀ (q:Nat) (x0 x1 x2:TVal) (h:Heap),lim tab.get S fM q 2 [x0,x1,x2] h=gM_2 z fI fM fR fS fT Om (lim tab.get S fM q) q x0 x1 x2 h
 wM_3:∀ (q:Nat) (x0 x1 x2:TVal) (h:Heap),lim tab.get S fM q 3 [x0,x1,x2] h=gM_3 z fI fM fR fS fT Om (lim tab.get S fM q) q x0 x1 x2 h
 wM_4:∀ (q:Nat) (h:Heap),lim tab.get S fM q 4 [] h=gM_4 z fI fM fR fS fT Om (lim tab.get S fM q) q h
 wM_5:∀ (q:Nat) (x0 x1 x2 x3 x4:TVal) (h:Heap),lim tab.get S fM q 5 [x0,x1,x2,x3,x4] h=gM_5 z fI fM fR fS fT Om (lim tab.get S fM q) q x0 x1 x2 x3 x4 h
 wM_6:∀ (q:Nat) (x0 x1 x2 x3 x4:TVal) (h:Heap),lim tab.get S fM q 6 [x0,x1,x2,x3,x4] h=gM_6 z fI fM fR fS fT Om (lim tab.get S fM q) q x0 x1 x2 x3 x4 h
 wM_7:∀ (q:Nat) (x0 x1 x2:TVal) (h:Heap),lim tab.get S fM q 7 [x0,x1,x2] h=gM_7 z fI fM fR fS fT Om (lim tab.get S fM q) q x0 x1 x2 h
 wM_8:∀ (q:Nat) (x0 x1 x2:TVal) (h:Heap),lim tab.get S fM q 8 [x0,x1,x2] h=gM_8 z fI fM fR fS fT Om (lim tab.get S fM q) q x0 x1 x2 h
 wM_9:∀ (q:Nat) (h:Heap),lim tab.get S fM q 9 [] h=gM_9 z fI fM fR fS fT Om (lim tab.get S fM q) q h
 wM_10:∀ (q:Nat) (x0 x1 x2 x3 x4:TVal) (h:Heap),lim tab.get S fM q 10 [x0,x1,x2,x3,x4] h=gM_10 z fI fM fR fS fT Om (lim tab.get S fM q) q x0 x1 x2 x3 x4 h
 wM_11:∀ (q:Nat) (x0 x1 x2 x3 x4 x5 x6 x7 x8:TVal) (h:Heap),lim tab.get S fM q 11 [x0,x1,x2,x3,x4,x5,x6,x7,x8] h=gM_11 z fI fM fR fS fT Om (lim tab.get S fM q) q x0 x1 x2 x3 x4 x5 x6 x7 x8 h
 wM_12:∀ (q:Nat) (x0 x1 x2 x3 x4 x5 x6 x7 x8 x9:TVal) (h:Heap),lim tab.get S fM q 12 [x0,x1,x2,x3,x4,x5,x6,x7,x8,x9] h=gM_12 z fI fM fR fS fT Om (lim tab.get S fM q) q x0 x1 x2 x3 x4 x5 x6 x7 x8 x9 h
 wM_13:∀ (q:Nat) (x0 x1 x2 x3 x4 x5 x6 x7:TVal) (h:Heap),lim tab.get S fM q 13 [x0,x1,x2,x3,x4,x5,x6,x7] h=gM_13 z fI fM fR fS fT Om (lim tab.get S fM q) q x0 x1 x2 x3 x4 x5 x6 x7 h
 wM_14:∀ (q:Nat) (x0 x1 x2 x3 x4 x5 x6:TVal) (h:Heap),lim tab.get S fM q 14 [x0,x1,x2,x3,x4,x5,x6] h=gM_14 z fI fM fR fS fT Om (lim tab.get S fM q) q x0 x1 x2 x3 x4 x5 x6 h
 wM_15:∀ (q:Nat) (x0 x1 x2 x3 x4:TVal) (h:Heap),lim tab.get S fM q 15 [x0,x1,x2,x3,x4] h=gM_15 z fI fM fR fS fT Om (lim tab.get S fM q) q x0 x1 x2 x3 x4 h
 wR_0:∀ (q:Nat) (x0 x1 x2 x3 x4:TVal) (h:Heap),lim tab.get S fR q 0 [x0,x1,x2,x3,x4] h=gR_0 z fI fM fR fS fT Om (lim tab.get S fR q) q x0 x1 x2 x3 x4 h
 wR_1:∀ (q:Nat) (x0 x1 x2 x3 x4:TVal) (h:Heap),lim tab.get S fR q 1 [x0,x1,x2,x3,x4] h=gR_1 z fI fM fR fS fT Om (lim tab.get S fR q) q x0 x1 x2 x3 x4 h
 wR_2:∀ (q:Nat) (x0 x1 x2 x3:TVal) (h:Heap),lim tab.get S fR q 2 [x0,x1,x2,x3] h=gR_2 z fI fM fR fS fT Om (lim tab.get S fR q) q x0 x1 x2 x3 h
 wS_0:∀ (q:Nat) (x0 x1 x2 x3 x4:TVal) (h:Heap),lim tab.get S fS q 0 [x0,x1,x2,x3,x4] h=gS_0 z fI fM fR fS fT Om (lim tab.get S fS q) q x0 x1 x2 x3 x4 h
 wS_1:∀ (q:Nat) (x0 x1 x2 x3 x4:TVal) (h:Heap),lim tab.get S fS q 1 [x0,x1,x2,x3,x4] h=gS_1 z fI fM fR fS fT Om (lim tab.get S fS q) q x0 x1 x2 x3 x4 h
 wT_0:∀ (q:Nat) (x0 x1 x2:TVal) (h:Heap),lim tab.get S fT q 0 [x0,x1,x2] h=gT_0 z fI fM fR fS fT Om (lim tab.get S fT q) q x0 x1 x2 h
 wT_1:∀ (q:Nat) (x0 x1 x2 x3 x4 x5:TVal) (h:Heap),lim tab.get S fT q 1 [x0,x1,x2,x3,x4,x5] h=gT_1 z fI fM fR fS fT Om (lim tab.get S fT q) q x0 x1 x2 x3 x4 x5 h
 wT_2:∀ (q:Nat) (x0 x1 x2 x3 x4:TVal) (h:Heap),lim tab.get S fT q 2 [x0,x1,x2,x3,x4] h=gT_2 z fI fM fR fS fT Om (lim tab.get S fT q) q x0 x1 x2 x3 x4 h
 wT_3:∀ (q:Nat) (x0 x1 x2 x3:TVal) (h:Heap),lim tab.get S fT q 3 [x0,x1,x2,x3] h=gT_3 z fI fM fR fS fT Om (lim tab.get S fT q) q x0 x1 x2 x3 h
 wT_4:∀ (q:Nat) (x0 x1 x2 x3 x4 x5:TVal) (h:Heap),lim tab.get S fT q 4 [x0,x1,x2,x3,x4,x5] h=gT_4 z fI fM fR fS fT Om (lim tab.get S fT q) q x0 x1 x2 x3 x4 x5 h
 wT_5:∀ (q:Nat) (x0 x1 x2 x3 x4:TVal) (h:Heap),lim tab.get S fT q 5 [x0,x1,x2,x3,x4] h=gT_5 z fI fM fR fS fT Om (lim tab.get S fT q) q x0 x1 x2 x3 x4 h
 wT_6:∀ (q:Nat) (x0 x1 x2 x3:TVal) (h:Heap),lim tab.get S fT q 6 [x0,x1,x2,x3] h=gT_6 z fI fM fR fS fT Om (lim tab.get S fT q) q x0 x1 x2 x3 h
 wE_0:∀ (q:Nat) (x0 x1:TVal) (h:Heap),lim tab.get S fE q 0 [x0,x1] h=gE_0 z fI fM fR fS fT Om (lim tab.get S fE q) q x0 x1 h
section
variable {α:Type}
abbrev fF(K:SK α):TVal := .v (.c (.func K.F []))
abbrev sK(K:SK α)(n:Nat):TVal := .v (.c (.sref (.im 0) 0 n none K.z))
def rws(K:SK α)(l:List α):List PVal:=l.flatMap K.row
def ltK(K:SK α)(p q:α):Bool:=bless (K.key p) (K.key q)
theorem qUF(K:SK α)(p:α):ltK K p p=false:=qCp _
theorem qT8(K:SK α)(p q:α)(h:ltK K p q=true):ltK K q p=false:=qDt _ _ h
theorem qT6(K:SK α)(p q r:α)(h1:ltK K q p=false)(h2:ltK K r q=false):ltK K r p=false:=qEg (K.key p) (K.key q) (K.key r) h1 h2
end
section
variable {α:Type} [K:SK α]
theorem qT9{β:Type}{k:TVal->Heap->Option β}{h:Heap}{d:Nat}(p q:α):vcall Om (fF K) [.v (.agg (pcells (K.row p))),.v (.agg (pcells (K.row q)))] h d k=k (kI (cmpM (K.key p) (K.key q))) h:=qAH K.F _ _ (by simp only[exP]) (K.cmp p q) rfl
theorem qUC:∀ l:List α,(rws K l).length=l.length*K.z
 |[]=>by simp[rws]
 |p::l=>by
  have:=qUC l;show(K.row p++rws K l).length=_;rw[List.length_append,K.hrow,this,List.length_cons,Nat.succ_mul,Nat.add_comm]
theorem qUA:∀ (l:List α) (i:Nat),(rws K l).drop (i*K.z)=rws K (l.drop i)
 |l,0=>by simp
 |[],i+1=>by simp[rws]
 |p::l,i+1=>by
  show(K.row p++rws K l).drop ((i+1)*K.z)=_;rw[List.drop_append,List.drop_eq_nil_of_le (by rw[K.hrow,Nat.succ_mul]; omega),K.hrow,List.nil_append,Nat.succ_mul,Nat.add_sub_cancel,qUA l i];rfl
theorem qUD:∀ (l:List α) (i:Nat),(rws K l).take (i*K.z)=rws K (l.take i)
 |l,0=>by simp[rws]
 |[],i+1=>by simp[rws]
 |p::l,i+1=>by
  show(K.row p++rws K l).take ((i+1)*K.z)=_;rw[List.take_append,List.take_of_length_le (by rw[K.hrow,Nat.succ_mul]; omega),K.hrow,Nat.succ_mul,Nat.add_sub_cancel,qUD l i];rfl
theorem qUI(a b:List α):rws K (a++b)=rws K a++rws K b:=by unfold rws; rw[List.flatMap_append]
theorem qUG(n:Nat)(l:List α)(hl:l.length=n)(i:Nat)(hi:i<n):i*K.z+K.z<=(rws K l).length:=by
 rw[qUC,hl];have:=Nat.mul_le_mul_right K.z hi;rw[Nat.succ_mul] at this;exact this
end
section
variable {α:Type}
theorem qUH(K:SK α)(l:List α)(i:Nat)(p:α)(h:l[i]?=some p):((pcells (rws K l)).drop (i*K.z)).take K.z=pcells (K.row p):=by
 have hd:l.drop i=p::l.drop (i+1):=by
  obtain⟨h1,h2⟩:=List.getElem?_eq_some_iff.1 h;rw[List.drop_eq_getElem_cons h1,h2]
 unfold pcells;rw[<- List.map_drop,<- List.map_take,qUA,hd];show((K.row p++rws K (l.drop (i+1))).take K.z).map _=_;rw[List.take_append,List.take_of_length_le (by rw[K.hrow]; omega),K.hrow,Nat.sub_self,List.take_zero,List.append_nil]
theorem qUE(K:SK α)(l:List α)(i:Nat)(p:α)(h:i<l.length):put1 (pcells (rws K l)) (i*K.z) (pcells (K.row p))=pcells (rws K (l.set i p)):=by
 unfold put1 splice pcells;have ll:(List.map Cell.p (K.row p)).length=K.z:=by rw[List.length_map,K.hrow]
 rw[ll,<- List.map_take,<- List.map_drop,qUD,show i*K.z+K.z=(i+1)*K.z by rw[Nat.succ_mul],qUA,<- List.map_append,<- List.map_append]
 congr 1
 have hs:l.set i p=l.take i++p::l.drop (i+1):=by
  rw[List.set_eq_take_append_cons_drop,if_pos h]
 rw[hs,qUI];show _=rws K (l.take i)++(K.row p++rws K (l.drop (i+1)));rw[List.append_assoc]
end
theorem vsh1{β:Type}{h:Heap}{k:TVal->Heap->Option β}(a:Int):vbin .shr 0 (kN .u64 a) (kN .u64 1) h k=k (kN .u64 (a / 2)) h:=qDc _ _ _ _ _ (by
 show some (Cell.p (.int .u64 (a.fdiv (2 ^ (min ((1:Int).toNat) 64)))))=_
 rw[show(2:Int) ^ (min ((1:Int).toNat) 64)=2 by decide,Int.fdiv_eq_ediv_of_nonneg _ (by decide)])
theorem qBF{β:Type}{h:Heap}{k:TVal->Heap->Option β}(i j:Nat)(hi:i<=10000)(hj:j<=10000) :
  (vbin .add 0 (kI (i:Int)) (kI (j:Int)) h λx36 h=>vtoInt .u64 x36 h λx37 h=>vbin .shr 0 x37 (.v (.c (.p (.int .u64 1)))) h λx38 h=>vtoInt .i64 x38 h k)=k (kI (((i+j) / 2:Nat):Int)) h:=by
 have e1:IntKind.i64.wrap ((i:Int)+(j:Int))=((i+j:Nat):Int):=by rw[qAL _ (by omega) (by omega)]; omega
 have e2:IntKind.u64.wrap ((i+j:Nat):Int)=((i+j:Nat):Int):=qCc _ (by omega) (by omega);have e3:IntKind.i64.wrap (((i+j:Nat):Int) / 2)=(((i+j) / 2:Nat):Int):=by rw[qAL _ (by omega) (by omega)]; omega
 rw[qAZ,e1,qCA,e2,vsh1,qCA,e3]
abbrev wAdd(i j:Nat):Prop:=IntKind.i64.wrap ((i:Int)+(j:Int))=((i+j:Nat):Int)
theorem qAl(i j:Nat)(hi:i<=100000)(hj:j<=100000):wAdd i j:=by unfold wAdd; rw[qAL _ (by omega) (by omega)]; omega
theorem qAW(i j:Nat)(hi:i<=100000)(hj:j<=i):IntKind.i64.wrap ((i:Int) - (j:Int))=((i - j:Nat):Int):=by rw[qAL _ (by omega) (by omega)]; omega
theorem qAq(i:Nat)(hi:i<=100000):IntKind.i64.wrap ((i:Int)+1)=((i+1:Nat):Int):=by rw[qAL _ (by omega) (by omega)]; omega
theorem qBY(i:Nat)(hi:i<=100000)(h1:1<=i):IntKind.i64.wrap ((i:Int) - 1)=((i - 1:Nat):Int):=by rw[qAL _ (by omega) (by omega)]; omega
theorem qFD(i:Nat)(hi:i<=100000):IntKind.i64.wrap (2*(i:Int))=((2*i:Nat):Int):=by rw[qAL _ (by omega) (by omega)]; omega
theorem qIS(i:Nat)(hi:i<=100000):IntKind.i64.wrap ((i:Int)*2)=((2*i:Nat):Int):=by rw[qAL _ (by omega) (by omega)]; omega
section
variable {α:Type} [K:SK α]
abbrev RDE(K:SK α)(l:List α):AObj := .cells (pcells (rws K l)) 0
abbrev hpE(K:SK α)(l:List α):Heap:=Heap.mk [RDE K l] .nil
structure AtE (K:SK α) (n:Nat) (l:List α) (i:Nat) (p:α):Prop where
 get:l[i]?=some p
 lt:i<n
 le:(0:Int)<=((i:Nat):Int)
 row:((pcells (rws K l)).drop (i*K.z)).take K.z=pcells (K.row p)
 len:(pcells (K.row p)).length=K.z
 fit:i*K.z+K.z<=(rws K l).length
theorem atE(n:Nat)(l:List α)(hl:l.length=n)(i:Nat)(hi:i<n):∃ p,AtE K n l i p:=by
 have hp:l[i]?=some (l[i]'(by omega)):=List.getElem?_eq_getElem (by omega);exact⟨_,hp,hi,by omega,qUH K l i _ hp,by rw[qAN,K.hrow],qUG n l hl i hi⟩
theorem qCH{n:Nat}{l:List α}(hl:l.length=n){i j:Nat}{p q:α}(A:AtE K n l i p)(B:AtE K n l j q) :
  put1 (pcells (rws K l)) (i*K.z) (pcells (K.row q))=pcells (rws K (l.set i q))/\put1 (pcells (rws K (l.set i q))) (j*K.z) (pcells (K.row p))=pcells (rws K (swp l i j))/\j*K.z+K.z<=(rws K (l.set i q)).length:=by
 have a:=A.lt;have b:=B.lt;refine⟨qUE K l i q (by omega),?_,qUG n _ (by rw[List.length_set]; exact hl) j b⟩;rw[qEq l i j p q A.get B.get];exact qUE K (l.set i q) j p (by rw[List.length_set]; omega)
theorem qIf(n:Nat)(hn:n<=1000)(a b N:Nat)(hab:a+N<=b)(hb:b+N<=n):∀ (m i:Nat) (l:List α) (h:Heap),i+m=N->l.length=n->h.get (.im 0)=some (RDE K l) ->
  lim tab.get S K.fS 1 1 [sK K n,kI (a:Int),kI (b:Int),kI (N:Int),kI (i:Int)] h=some (.tup [],[RDE K (swR m (a+i) (b+i) l)])
 |0,i,l,h,hi,hl,hg=>by
  have t:¬ (i:Int)<(N:Int):=by omega
  have fin:=qAP true [] _ rfl hg (qAB (rws K l) 0);rw[K.wS_1,gS_1];simp (maxSteps:=9999999) +contextual only[exa,rA,rB,rC,rD,rE,rF,rG,rH,rI,t,fin,swR,if_false,oneOf]
 |m+1,i,l,h,hi,hl,hg=>by
  have t:(i:Int)<(N:Int):=by omega
  obtain⟨p,A⟩:=atE n l hl (a+i) (by omega);obtain⟨q,B⟩:=atE n l hl (b+i) (by omega);obtain⟨s1,s2,s3⟩:=qCH hl A B;have hgp:(h.put (.im 0) (RDE K (l.set (a+i) q))).get (.im 0)=some (RDE K (l.set (a+i) q)):=Heap.zput_self hg (λe=>by cases e);have hg2:((h.put (.im 0) (RDE K (l.set (a+i) q))).put (.im 0) (RDE K (swp l (a+i) (b+i)))).get (.im 0)=some (RDE K (swp l (a+i) (b+i))):=Heap.zput_self hgp (λe=>by cases e);have ih:=qIf n hn a b N hab hb m (i+1) _ _ (by omega) (by rw[qG7,hl]) hg2;rw[swR];refine Eq.trans ?_ ih;have e1:IntKind.i64.wrap ((a:Int)+(i:Int))=((a+i:Nat):Int):=qAl a i (by omega) (by omega);have e2:IntKind.i64.wrap ((b:Int)+(i:Int))=((b+i:Nat):Int):=qAl b i (by omega) (by omega);have e3:=qAq i (by omega);rw[K.wS_1,gS_1];simp (maxSteps:=9999999) +contextual only[exa,rA,rB,rC,rD,rE,rF,rG,rH,rI,exW,exY,t,e1,e2,e3,A.lt,A.le,A.row,A.len,A.fit,B.lt,B.le,B.row,B.len,Int.toNat_natCast,hg,s1,s2,s3,hgp,Nat.zero_le,if_false]
theorem qS2(n:Nat)(hn:n<=1000)(a b N:Nat)(hab:a+N<=b)(hb:b+N<=n)(l:List α)(hl:l.length=n):Om K.fS [sK K n,kI (a:Int),kI (b:Int),kI (N:Int),(fF K)] [RDE K l]=some (.tup [],[RDE K (swR N a b l)]):=by
 refine(qAD (K.nS _ _)).trans ?_;show lim tab.get S K.fS 1 0 [sK K n,kI (a:Int),kI (b:Int),kI (N:Int),(fF K)] (hpE K l)=_;rw[K.wS_0,gS_0];exact qIf n hn a b N hab hb N 0 l _ (by omega) hl rfl
theorem qQP{β:Type}{k:TVal->Heap->Option β}{h:Heap}{d:Nat}(n:Nat)(hn:n<=1000)(a b N:Nat)(hab:a+N<=b)(hb:b+N<=n)(l:List α)(hl:l.length=n)(hg:h.get (.im 0)=some (RDE K l)):vcall Om (.v (.c (.func K.fS []))) [sK K n,kI (a:Int),kI (b:Int),kI (N:Int),(fF K)] h d k=k (.tup []) (h.put (.im 0) (RDE K (swR N a b l))) :=
 qAh K.fS (.im 0) [sK K n,kI (a:Int),kI (b:Int),kI (N:Int),(fF K)] _ _ _ _ rfl rfl rfl hg (qAB _ 0) (qAB _ 0) (λ_=>rfl) (qS2 n hn a b N hab hb l hl)
theorem qFk(n:Nat)(hn:n<=1000):∀ (f:Nat) (P Q A C:List α) (h:Heap),P.length+Q.length<=f->1<=P.length->1<=Q.length->(A++P++Q++C).length=n->h.get (.im 0)=some (RDE K (A++P++Q++C)) ->
  lim tab.get S K.fR 1 1 [sK K n,kI ((A.length+P.length:Nat):Int),(fF K),kI (P.length:Int),kI (Q.length:Int)] h=some (.tup [],[RDE K (A++Q++P++C)])
 |0,P,Q,A,C,h,hf,hP,hQ,hl,hg=>by omega
 |f+1,P,Q,A,C,h,hf,hP,hQ,hl,hg=>by
  have hl':A.length+P.length+Q.length+C.length=n:=by rw[<- hl]; simp only[List.length_append]
  by_cases he:P.length=Q.length
  ·have t:¬ ((P.length:Int)≠(Q.length:Int)):=by omega
   have e1:IntKind.i64.wrap (((A.length+P.length:Nat):Int) - (P.length:Int))=((A.length:Nat):Int):=by rw[qAW _ _ (by omega) (by omega)]; congr 1; omega
   have sw:=qBo P Q A [] C he;simp only[List.append_nil,List.length_nil,Nat.add_zero] at sw;have c:=λ{β:Type} {k:TVal->Heap->Option β} {d:Nat}=>qQP (k:=k) (d:=d) n hn A.length (A.length+P.length) P.length (Nat.le_refl _) (by omega) _ hl hg
   rw[sw] at c;have fin:=qAP true [] _ rfl (Heap.zput_self (o:=RDE K (A++Q++P++C)) hg (λe=>by cases e)) (qAB _ 0);rw[K.wR_1,gR_1];simp (maxSteps:=9999999) +contextual only[exa,rA,rB,rC,rD,rE,rF,rG,rH,rI,he,if_false];rw[K.wR_2,gR_2];rw[he] at e1 c;simp (maxSteps:=9999999) +contextual only[exa,rA,rB,rC,rD,rE,rF,rG,rH,rI,e1,he,c,fin,if_false,oneOf]
  ·have t:((P.length:Int)≠(Q.length:Int)):=by omega
   have t':¬ ((P.length:Int)=(Q.length:Int)):=by omega
   by_cases hlt:Q.length<P.length
   ·have t2:(Q.length:Int)<(P.length:Int):=by omega
    obtain⟨P1,P2,rfl,h1⟩:∃ P1 P2,P=P1++P2/\P1.length=Q.length:=⟨P.take Q.length,P.drop Q.length,(List.take_append_drop _ _).symm,by simp; omega⟩;rw[List.length_append] at hf hP hl' he t t' hlt t2 ⊢;have hsw:=qBo P1 Q A P2 C h1;have ea:A++(P1++P2)++Q++C=A++P1++P2++Q++C:=by simp
    have eb:A++Q++P2++P1++C=(A++Q)++P2++P1++C:=by simp
    have e1:IntKind.i64.wrap (((A.length+(P1.length+P2.length):Nat):Int) - ((P1.length+P2.length:Nat):Int))=((A.length:Nat):Int):=by rw[qAW _ _ (by omega) (by omega)]; congr 1; omega
    have e2:IntKind.i64.wrap (((P1.length+P2.length:Nat):Int) - (Q.length:Int))=((P2.length:Nat):Int):=by rw[qAW _ _ (by omega) (by omega)]; congr 1; omega
    have c:=λ{β:Type} {k:TVal->Heap->Option β} {d:Nat}=>qQP (k:=k) (d:=d) n hn A.length (A.length+(P1.length+P2.length)) Q.length (by omega) (by omega) _ hl hg
    rw[ea,show A.length+(P1.length+P2.length)=A.length+P1.length+P2.length by omega,<- h1,hsw] at c;rw[ea] at hg hl;have hg2:(h.put (.im 0) (RDE K (A++Q++P2++P1++C))).get (.im 0)=some (RDE K ((A++Q)++P2++P1++C)):=Heap.zput_self hg (λe=>by cases e);have ih:=qFk n hn f P2 P1 (A++Q) C _ (by omega) (by omega) (by omega) (by simp only[List.length_append]; omega) hg2;have er:A++Q++P1++P2++C=A++Q++(P1++P2)++C:=by simp
    rw[er] at ih;refine Eq.trans ?_ ih;have em:(A++Q).length+P2.length=A.length+(P1.length+P2.length):=by simp; omega
    rw[em,K.wR_1,gR_1];rw[show A.length+P1.length+P2.length=A.length+(P1.length+P2.length) by omega] at c;rw[h1] at *;simp (maxSteps:=9999999) +contextual only[exa,rA,rB,rC,rD,rE,rF,rG,rH,rI,t,t',t2,e1,e2,c,if_false]
   ·have t2:¬ (Q.length:Int)<(P.length:Int):=by omega
    obtain⟨Q1,Q2,rfl,h1⟩:∃ Q1 Q2,Q=Q1++Q2/\Q2.length=P.length:=⟨Q.take (Q.length - P.length),Q.drop (Q.length - P.length),(List.take_append_drop _ _).symm,by simp; omega⟩;rw[List.length_append] at hf hQ hl' he t t' hlt t2 ⊢;have hsw:=qBo P Q2 A Q1 C h1.symm;have ea:A++P++(Q1++Q2)++C=A++P++Q1++Q2++C:=by simp
    have e1:IntKind.i64.wrap (((A.length+P.length:Nat):Int) - (P.length:Int))=((A.length:Nat):Int):=by rw[qAW _ _ (by omega) (by omega)]; congr 1; omega
    have e2:IntKind.i64.wrap (((A.length+P.length:Nat):Int)+((Q1.length+Q2.length:Nat):Int))=((A.length+P.length+(Q1.length+Q2.length):Nat):Int):=qAl _ _ (by omega) (by omega);have e3:IntKind.i64.wrap (((A.length+P.length+(Q1.length+Q2.length):Nat):Int) - (P.length:Int))=((A.length+P.length+Q1.length:Nat):Int):=by rw[qAW _ _ (by omega) (by omega)]; congr 1; omega
    have e4:IntKind.i64.wrap (((Q1.length+Q2.length:Nat):Int) - (P.length:Int))=((Q1.length:Nat):Int):=by rw[qAW _ _ (by omega) (by omega)]; congr 1; omega
    have c:=λ{β:Type} {k:TVal->Heap->Option β} {d:Nat}=>qQP (k:=k) (d:=d) n hn A.length (A.length+P.length+Q1.length) P.length (by omega) (by omega) _ hl hg
    rw[ea,hsw] at c;rw[ea] at hg hl;have eb:A++Q2++Q1++P++C=A++Q2++Q1++(P++C):=by simp
    have hg2:(h.put (.im 0) (RDE K (A++Q2++Q1++P++C))).get (.im 0)=some (RDE K (A++Q2++Q1++(P++C))):=by rw[<- eb]; exact Heap.zput_self hg (λe=>by cases e)
    have ih:=qFk n hn f Q2 Q1 A (P++C) _ (by omega) (by omega) (by omega) (by simp only[List.length_append]; omega) hg2;have er:A++Q1++Q2++(P++C)=A++(Q1++Q2)++P++C:=by simp
    rw[er,h1] at ih;refine Eq.trans ?_ ih;rw[K.wR_1,gR_1];simp (maxSteps:=9999999) +contextual only[exa,rA,rB,rC,rD,rE,rF,rG,rH,rI,t,t',t2,e1,e2,e3,e4,c,if_false]
theorem qN3(n:Nat)(hn:n<=1000)(P Q A C:List α)(hP:1<=P.length)(hQ:1<=Q.length)(hl:(A++P++Q++C).length=n) :
  Om K.fR [sK K n,kI (A.length:Int),kI ((A.length+P.length:Nat):Int),kI ((A.length+P.length+Q.length:Nat):Int),(fF K)] [RDE K (A++P++Q++C)]=some (.tup [],[RDE K (A++Q++P++C)]):=by
 have hl':A.length+P.length+Q.length+C.length=n:=by rw[<- hl]; simp only[List.length_append]
 refine(qAD (K.nR _ _)).trans ?_;show lim tab.get S K.fR 1 0 _ (hpE K (A++P++Q++C))=_;have e1:IntKind.i64.wrap (((A.length+P.length:Nat):Int) - (A.length:Int))=((P.length:Nat):Int):=by rw[qAW _ _ (by omega) (by omega)]; congr 1; omega
 have e2:IntKind.i64.wrap (((A.length+P.length+Q.length:Nat):Int) - ((A.length+P.length:Nat):Int))=((Q.length:Nat):Int):=by rw[qAW _ _ (by omega) (by omega)]; congr 1; omega
 rw[K.wR_0,gR_0];simp (maxSteps:=9999999) +contextual only[exa,rA,rB,rC,rD,rE,rF,rG,rH,rI,e1,e2];exact qFk n hn (P.length+Q.length) P Q A C _ (Nat.le_refl _) hP hQ hl rfl
theorem v164{β:Type}{k:TVal->Heap->Option β}{h:Heap}{d:Nat}(n:Nat)(hn:n<=1000)(P Q A C:List α)(hP:1<=P.length)(hQ:1<=Q.length)(hl:(A++P++Q++C).length=n)(hg:h.get (.im 0)=some (RDE K (A++P++Q++C))) :
  vcall Om (.v (.c (.func K.fR []))) [sK K n,kI (A.length:Int),kI ((A.length+P.length:Nat):Int),kI ((A.length+P.length+Q.length:Nat):Int),(fF K)] h d k=k (.tup []) (h.put (.im 0) (RDE K (A++Q++P++C))) :=
 qAh K.fR (.im 0) _ _ _ _ _ rfl rfl rfl hg (qAB _ 0) (qAB _ 0) (λ_=>rfl) (qN3 n hn P Q A C hP hQ hl)
end
theorem qCO{α:Type}(A:List α)(x:α)(C:List α):(A++x::C)[A.length]?=some x:=by simp
theorem qAd{α:Type}(A:List α)(x:α)(C:List α)(i:Nat)(h:i=A.length):(A++x::C)[i]?=some x:=by subst h; simp
section
variable {α:Type} [K:SK α]
theorem qAp{n:Nat}{l:List α}(hl:l.length=n){i:Nat}(hi:i<n)(p:α)(hp:l[i]?=some p):AtE K n l i p:=by
 obtain⟨q,A⟩:=atE n l hl i hi;have:=A.get;rw[hp] at this;cases this;exact A
theorem qOD(n:Nat)(hn:n<=1000)(b i0:Nat)(A C:List α)(x:α):∀ (k:Nat) (X1 X2:List α) (h:Heap),X1.length=k->(A++X1++x::X2++C).length=n->Ord (ltK K) (X1++X2)->(∀ y∈X2,(ltK K) x y=true)->h.get (.im 0)=some (RDE K (A++X1++x::X2++C)) ->
  ∃ h' Z,Ord (ltK K) Z/\Z.Perm (x::(X1++X2))/\h'.get (.im 0)=some (RDE K (A++Z++C))/\lim tab.get S K.fI 1 2 [sK K n,kI (A.length:Int),kI (b:Int),(fF K),kI (i0:Int),kI ((A.length+X1.length:Nat):Int)] h=lim tab.get S K.fI 1 3 [sK K n,kI (A.length:Int),kI (b:Int),(fF K),kI (i0:Int)] h'
 |0,X1,X2,h,hk,hl,o,hx,hg=>by
  have e:=List.length_eq_zero_iff.1 hk;subst e;refine⟨h,x::X2,List.pairwise_cons.2 ⟨λy hy=>(qT8 K) _ _ (hx y hy),o⟩,.refl _,by rw[hg]; simp,?_⟩;have t:¬ (A.length:Int)<(A.length:Int):=by omega
  rw[List.length_nil,Nat.add_zero,K.wI_2,gI_2];simp (maxSteps:=9999999) +contextual only[exa,rA,rB,rC,rD,rE,rF,rG,rH,rI,t,if_false]
 |k+1,X1,X2,h,hk,hl,o,hx,hg=>by
  obtain⟨W,y,rfl⟩:∃ W y,X1=W++[y]:=by
   have:X1≠[]:=λe=>by rw[e] at hk; cases hk
   exact⟨X1.dropLast,X1.getLast this,(List.dropLast_concat_getLast this).symm⟩
  have hW:W.length=k:=by rw[List.length_append,List.length_singleton] at hk; omega
  have hl':A.length+k+1+1+X2.length+C.length=n:=by rw[<- hl,<- hW]; simp only[List.length_append,List.length_cons,List.length_nil]; omega
  have ea:A++(W++[y])++x::X2++C=(A++W)++y::([]++x::(X2++C)):=by simp
  rw[ea] at hl hg;have hAW:(A++W).length=A.length+k:=by rw[List.length_append,hW]
  have B0:AtE K n ((A++W)++y::([]++x::(X2++C))) (A.length+k) y:=qAp hl (by omega) y (qAd _ _ _ _ hAW.symm)
  have B1:AtE K n ((A++W)++y::([]++x::(X2++C))) (A.length+k+1) x:=qAp hl (by omega) x (by
   have:=qCO (A++W++[y]) x (X2++C);rw[List.length_append,List.length_singleton,hAW] at this
   rw[<- this]; simp)
  obtain⟨s1,s2,s3⟩:=qCH hl B1 B0;have sw:=qCd (A++W) [] (X2++C) y x (qBn _ _ _ _ _);rw[List.length_nil,Nat.add_zero,hAW] at sw;rw[sw] at s2;have hlen:((A.length+(W++[y]).length:Nat):Int)=((A.length+k+1:Nat):Int):=by rw[List.length_append,List.length_singleton,hW]; rfl
  have t:(A.length:Int)<((A.length+k+1:Nat):Int):=by omega
  have ew:IntKind.i64.wrap (((A.length+k+1:Nat):Int) - 1)=((A.length+k:Nat):Int):=by rw[qBY _ (by omega) (by omega)]; rfl
  have hgp:=Heap.zput_self (o:=RDE K ((A++W++y::([]++x::(X2++C))).set (A.length+k+1) y)) hg (λe=>by cases e);rw[hlen];cases hb:bless (K.key x) (K.key y)
  ·have ox:∀ z∈W++[y],(ltK K) x z=false:=λz hz=>(qT6 K) z y x (qD1 (ltK K) (qT6 K) (qUF K) (W++[y]) (List.pairwise_append.1 o).1 y (by simp) z hz) hb
   have M:=qFF (ltK K) (qT8 K) (qT6 K) x (W++[y]) X2 o ox hx;refine⟨h,W++[y]++x::X2,M.ord,M.prm.trans (List.perm_append_comm (l₁:=W++[y]++X2) (l₂:=[x])),by rw[hg]; simp,?_⟩;rw[K.wI_2,gI_2];simp (maxSteps:=9999999) +contextual only[exa,rA,rB,rC,rD,rE,rF,rG,rH,rI,exW,exY,t,ew,B0.lt,B0.le,B0.row,B0.len,B1.lt,B1.le,B1.row,B1.len,Int.toNat_natCast,hg,qT9,qAX,hb,if_false]
  ·have hg2:=Heap.zput_self (o:=RDE K ((A++W)++x::([]++y::(X2++C)))) hgp (λe=>by cases e);have eb:(A++W)++x::([]++y::(X2++C))=A++W++x::(y::X2)++C:=by simp
   rw[eb] at hg2 s2
   obtain⟨h',Z,oZ,pZ,gZ,eZ⟩:=qOD n hn b i0 A C x k W (y::X2) _ hW (by rw[<- hl]; simp only[List.length_append,List.length_cons,List.length_nil]; omega) (by have:=o; rw[List.append_assoc] at this; exact this) (λz hz=>by
    rcases List.mem_cons.1 hz with rfl|hz
    ·exact hb
    ·exact hx z hz) hg2
   refine⟨h',Z,oZ,(by rw[show W++[y]++X2=W++y::X2 by simp]; exact pZ),gZ,?_⟩
   rw[<- eZ,hW,K.wI_2,gI_2];simp (maxSteps:=9999999) +contextual only[exa,rA,rB,rC,rD,rE,rF,rG,rH,rI,exW,exY,t,ew,B0.lt,B0.le,B0.row,B0.len,B0.fit,B1.lt,B1.le,B1.row,B1.len,B1.fit,Int.toNat_natCast,hg,qT9,qAX,hb,s1,s2,s3,hgp,Nat.zero_le,if_false]
theorem qJW(n:Nat)(hn:n<=1000)(A D:List α):∀ (C Z:List α) (h:Heap),(A++Z++C++D).length=n->Ord (ltK K) Z->h.get (.im 0)=some (RDE K (A++Z++C++D)) ->
  ∃ Z',Ord (ltK K) Z'/\Z'.Perm (Z++C)/\lim tab.get S K.fI 1 1 [sK K n,kI (A.length:Int),kI ((A.length+Z.length+C.length:Nat):Int),(fF K),kI ((A.length+Z.length:Nat):Int)] h=some (.tup [],[RDE K (A++Z'++D)])
 |[],Z,h,hl,o,hg=>by
  refine⟨Z,o,by rw[List.append_nil],?_⟩;rw[List.append_nil] at hg;have t:¬ ((A.length+Z.length:Nat):Int)<((A.length+Z.length:Nat):Int):=by omega
  have fin:=qAP true [] _ rfl hg (qAB _ 0);rw[List.length_nil,Nat.add_zero,K.wI_1,gI_1];simp (maxSteps:=9999999) +contextual only[exa,rA,rB,rC,rD,rE,rF,rG,rH,rI,t,fin,if_false,oneOf]
 |x::C,Z,h,hl,o,hg=>by
  have hl':A.length+Z.length+(C.length+1)+D.length=n:=by rw[<- hl]; simp only[List.length_append,List.length_cons]
  have t:((A.length+Z.length:Nat):Int)<((A.length+Z.length+(x::C).length:Nat):Int):=by rw[List.length_cons]; omega
  have ea:A++Z++x::C++D=A++Z++x::[]++(C++D):=by simp
  rw[ea] at hg hl;obtain⟨h',Z1,oZ,pZ,gZ,eZ⟩:=qOD n hn (A.length+Z.length+(x::C).length) (A.length+Z.length) A (C++D) x Z.length Z [] h rfl hl (by rw[List.append_nil]; exact o) (λy hy=>by cases hy) hg;have lZ:Z1.length=Z.length+1:=by rw[pZ.length_eq,List.append_nil,List.length_cons]
  have eb:A++Z1++(C++D)=A++Z1++C++D:=by simp
  rw[eb] at gZ;obtain⟨Z',o',p',e'⟩:=qJW n hn A D C Z1 h' (by simp only[List.length_append]; omega) oZ gZ;refine⟨Z',o',p'.trans ?_,?_⟩
  ·rw[List.append_nil] at pZ;exact(pZ.append_right C).trans (List.perm_middle (a:=x) (l₁:=Z) (l₂:=C)).symm
  ·rw[<- e',K.wI_1,gI_1];have ew:=qAq (A.length+Z.length) (by omega);have e1:((A.length+Z.length+(x::C).length:Nat):Int)=((A.length+Z1.length+C.length:Nat):Int):=by rw[List.length_cons,lZ]; congr 1; omega
   have e2:((A.length+Z.length+1:Nat):Int)=((A.length+Z1.length:Nat):Int):=by rw[lZ]; rfl
   rw[qAT,qAM,if_pos (decide_eq_true t),eZ,K.wI_3,gI_3,qAZ,ew,e1,e2]
theorem qN6(n:Nat)(hn:n<=1000)(A X D:List α)(hl:(A++X++D).length=n) :
  ∃ Z,Ord (ltK K) Z/\Z.Perm X/\Om K.fI [sK K n,kI (A.length:Int),kI ((A.length+X.length:Nat):Int),(fF K)] [RDE K (A++X++D)]=some (.tup [],[RDE K (A++Z++D)]):=by
 have hl':A.length+X.length+D.length=n:=by rw[<- hl]; simp only[List.length_append]
 have ew:=qAq A.length (by omega);cases X with
 |nil =>
  refine⟨[],List.Pairwise.nil,.refl _,(qAD (K.nI _ _)).trans ?_⟩;show lim tab.get S K.fI 1 0 _ (hpE K (A++[]++D))=_;have t:¬ ((A.length+1:Nat):Int)<(A.length:Int):=by omega
  have fin:=qAP true [] (RDE K (A++[]++D)) rfl (h:=hpE K (A++[]++D)) rfl (qAB _ 0);rw[List.length_nil,Nat.add_zero,K.wI_0,gI_0,qAZ,ew,K.wI_1,gI_1];simp (maxSteps:=9999999) +contextual only[exa,rA,rB,rC,rD,rE,rF,rG,rH,rI,t,fin,if_false,oneOf]
 |cons x C =>
  have ea:A++x::C++D=A++[x]++C++D:=by simp
  rw[ea] at hl ⊢;obtain⟨Z,o,p,e⟩:=qJW n hn A D C [x] (hpE K (A++[x]++C++D)) hl (List.pairwise_singleton _ _) rfl;refine⟨Z,o,p,(qAD (K.nI _ _)).trans ?_⟩;show lim tab.get S K.fI 1 0 _ (hpE K (A++[x]++C++D))=_;rw[K.wI_0,gI_0,qAZ,ew];have e1:((A.length+(x::C).length:Nat):Int)=((A.length+[x].length+C.length:Nat):Int):=by rw[List.length_cons,List.length_singleton]; congr 1; omega
  rw[e1];exact e
theorem q148{β:Type}{k:TVal->Heap->Option β}{h:Heap}{d:Nat}(n a b:Nat)(l l':List α)(hc:Om K.fI [sK K n,kI (a:Int),kI (b:Int),(fF K)] [RDE K l]=some (.tup [],[RDE K l']))(hg:h.get (.im 0)=some (RDE K l)):vcall Om (.v (.c (.func K.fI []))) [sK K n,kI (a:Int),kI (b:Int),(fF K)] h d k=k (.tup []) (h.put (.im 0) (RDE K l')) :=
 qAh K.fI (.im 0) [sK K n,kI (a:Int),kI (b:Int),(fF K)] _ _ _ _ rfl rfl rfl hg (qAB _ 0) (qAB _ 0) (λ_=>rfl) hc
theorem bs1(n:Nat)(hn:n<=1000)(A C:List α)(x:α):∀ (k:Nat) (Y1 Ym Y2:List α) (h:Heap),Ym.length<=k->(A++x::(Y1++Ym++Y2)++C).length=n->Ord (ltK K) (Y1++Ym++Y2)->(∀ y∈Y1,(ltK K) y x=true)->(∀ y∈Y2,(ltK K) y x=false)->h.get (.im 0)=some (RDE K (A++x::(Y1++Ym++Y2)++C)) ->
  ∃ V1 V2,Y1++Ym++Y2=V1++V2/\(∀ y∈V1,(ltK K) y x=true)/\(∀ y∈V2,(ltK K) y x=false)/\lim tab.get S K.fM 1 1 [sK K n,kI (A.length:Int),(fF K),kI ((A.length+1+Y1.length:Nat):Int),kI ((A.length+1+Y1.length+Ym.length:Nat):Int)] h=lim tab.get S K.fM 1 2 [sK K n,kI (A.length:Int),kI ((A.length+1+V1.length:Nat):Int)] h
 |k,Y1,[],Y2,h,hk,hl,o,h1,h2,hg=>by
  refine⟨Y1,Y2,by simp,h1,h2,?_⟩;have t:¬ ((A.length+1+Y1.length:Nat):Int)<((A.length+1+Y1.length:Nat):Int):=by omega
  rw[List.length_nil,Nat.add_zero,K.wM_1,gM_1];simp (maxSteps:=9999999) +contextual only[exa,rA,rB,rC,rD,rE,rF,rG,rH,rI,t,if_false]
 |0,Y1,_::_,Y2,h,hk,hl,o,h1,h2,hg=>by simp at hk
 |k+1,Y1,u::Ym,Y2,h,hk,hl,o,h1,h2,hg=>by
  generalize hY:u::Ym=M at *;have hM:1<=M.length:=by rw[<- hY]; simp
  have hl':A.length+1+(Y1.length+M.length+Y2.length)+C.length=n:=by rw[<- hl]; simp only[List.length_append,List.length_cons]; omega
  obtain⟨j,hj⟩:∃ j,j=(A.length+1+Y1.length+(A.length+1+Y1.length+M.length)) / 2:=⟨_,rfl⟩;have j1:A.length+1+Y1.length<=j:=by omega
  have j2:j<A.length+1+Y1.length+M.length:=by omega
  obtain⟨M1,y,M2,e,hm⟩:∃ M1 y M2,M=M1++y::M2/\M1.length=j - (A.length+1+Y1.length):=by
   refine⟨M.take (j - (A.length+1+Y1.length)),M[j - (A.length+1+Y1.length)]'(by omega),M.drop (j - (A.length+1+Y1.length)+1),?_,by rw[List.length_take]; omega⟩;rw[<- List.drop_eq_getElem_cons (by omega),List.take_append_drop]
  subst e;have ea:A++x::(Y1++(M1++y::M2)++Y2)++C=(A++x::(Y1++M1))++y::(M2++Y2++C):=by simp
  have eb:A++x::(Y1++(M1++y::M2)++Y2)++C=A++x::(Y1++(M1++y::M2)++Y2++C):=by simp
  have hLen:(M1++y::M2).length=M1.length+1+M2.length:=by simp only[List.length_append,List.length_cons]; omega
  rw[hLen] at hk hM hl' hj j2 ⊢;have Bx:AtE K n (A++x::(Y1++(M1++y::M2)++Y2)++C) A.length x:=qAp hl (by omega) x (by rw[eb]; exact qCO _ _ _);have By:AtE K n (A++x::(Y1++(M1++y::M2)++Y2)++C) j y:=qAp hl (by omega) y (by rw[ea]; exact qAd _ _ _ _ (by simp only[List.length_append,List.length_cons]; omega));have t:((A.length+1+Y1.length:Nat):Int)<((A.length+1+Y1.length+(M1.length+1+M2.length):Nat):Int):=by omega
  have hf:=λ{β:Type} {h:Heap} {k:TVal->Heap->Option β}=>qBF (β:=β) (h:=h) (k:=k) (A.length+1+Y1.length) (A.length+1+Y1.length+(M1.length+1+M2.length)) (by omega) (by omega)
  rw[<- hj] at hf;have o':=o;rw[List.append_assoc,List.append_assoc] at o';have o1:=(List.pairwise_append.1 (List.pairwise_append.1 o').2.1);have step:lim tab.get S K.fM 1 1 [sK K n,kI (A.length:Int),(fF K),kI ((A.length+1+Y1.length:Nat):Int),kI ((A.length+1+Y1.length+(M1.length+1+M2.length):Nat):Int)] h =
    if bless (K.key y) (K.key x)=true then lim tab.get S K.fM 1 1 [sK K n,kI (A.length:Int),(fF K),kI ((j+1:Nat):Int),kI ((A.length+1+Y1.length+(M1.length+1+M2.length):Nat):Int)] h
    else lim tab.get S K.fM 1 1 [sK K n,kI (A.length:Int),(fF K),kI ((A.length+1+Y1.length:Nat):Int),kI (j:Int)] h:=by
   have ew:=qAq j (by omega);rw[K.wM_1,gM_1,qAT,qAM,if_pos (decide_eq_true t),hf];cases hb:bless (K.key y) (K.key x)
   ·simp (maxSteps:=9999999) +contextual only[exa,rA,rB,rC,rD,rE,rF,rG,rH,rI,exW,exY,ew,Bx.lt,Bx.le,Bx.row,Bx.len,By.lt,By.le,By.row,By.len,Int.toNat_natCast,hg,qT9,qAX,hb,Bool.false_eq_true,if_false]
   ·simp (maxSteps:=9999999) +contextual only[exa,rA,rB,rC,rD,rE,rF,rG,rH,rI,exW,exY,ew,Bx.lt,Bx.le,Bx.row,Bx.len,By.lt,By.le,By.row,By.len,Int.toNat_natCast,hg,qT9,qAX,hb,if_true]
  rw[step];cases hb:bless (K.key y) (K.key x)
  ·rw[if_neg (by decide)];have ec:Y1++(M1++y::M2)++Y2=Y1++M1++(y::M2++Y2):=by simp
   rw[ec] at hl hg o ⊢
   obtain⟨V1,V2,q1,q2,q3,q4⟩:=bs1 n hn A C x k Y1 M1 (y::M2++Y2) h (by omega) hl o h1 (λz hz=>by
    rcases List.mem_cons.1 hz with rfl|hz
    ·exact hb
    ·rcases List.mem_append.1 hz with hz|hz
     ·have:=(List.pairwise_append.1 o1.2.1).1;have oo:(ltK K) z y=false:=(List.pairwise_cons.1 o1.2.1).1 z (List.mem_append.2 (.inl hz));exact(qT6 K) x y z hb oo
     ·exact h2 z hz) hg
   refine⟨V1,V2,q1,q2,q3,?_⟩;rw[<- q4];have:A.length+1+Y1.length+M1.length=j:=by omega
   rw[this]
  ·rw[if_pos rfl];have ec:Y1++(M1++y::M2)++Y2=(Y1++M1++[y])++M2++Y2:=by simp
   rw[ec] at hl hg o ⊢
   obtain⟨V1,V2,q1,q2,q3,q4⟩:=bs1 n hn A C x k (Y1++M1++[y]) M2 Y2 h (by omega) hl o (λz hz=>by
    rcases List.mem_append.1 hz with hz|hz
    ·rcases List.mem_append.1 hz with hz|hz
     ·exact h1 z hz
     ·have oo:(ltK K) y z=false:=o1.2.2 z hz y (by simp);cases hc:(ltK K) z x
      ·have:=(qT6 K) x z y hc oo;rw[show(ltK K) y x=true from hb] at this; cases this
      ·rfl
    ·rw[List.mem_singleton.1 hz]; exact hb) h2 hg
   refine⟨V1,V2,q1,q2,q3,?_⟩;rw[<- q4];have e1:A.length+1+(Y1++M1++[y]).length=j+1:=by simp only[List.length_append,List.length_singleton]; omega
   have e2:j+1+M2.length=A.length+1+Y1.length+(M1.length+1+M2.length):=by omega
   rw[e1,e2]
end
section
variable {α:Type} [K:SK α]
theorem shf1(n:Nat)(hn:n<=1000)(x:α)(D:List α):∀ (V A:List α) (h:Heap),(A++x::(V++D)).length=n->h.get (.im 0)=some (RDE K (A++x::(V++D))) ->
  lim tab.get S K.fM 1 3 [sK K n,kI ((A.length+V.length+1:Nat):Int),kI (A.length:Int)] h=some (.tup [],[RDE K (A++V++x::D)])
 |[],A,h,hl,hg=>by
  have hl':A.length+1+D.length=n:=by rw[<- hl]; simp only[List.length_append,List.length_cons,List.length_nil]; omega
  have t:¬ (A.length:Int)<(A.length:Int):=by omega
  have ew:IntKind.i64.wrap (((A.length+1:Nat):Int) - 1)=(A.length:Int):=by rw[qBY _ (by omega) (by omega)]; rfl
  have fin:=qAP true [] _ rfl hg (qAB _ 0);have e:A++x::([]++D)=A++[]++x::D:=by simp
  rw[List.length_nil,Nat.add_zero,K.wM_3,gM_3];simp (maxSteps:=9999999) +contextual only[exa,rA,rB,rC,rD,rE,rF,rG,rH,rI,ew,t,if_false];rw[K.wM_4,gM_4,fin,e];rfl
 |v::V,A,h,hl,hg=>by
  have hl':A.length+1+(V.length+1+D.length)=n:=by rw[<- hl]; simp only[List.length_append,List.length_cons]; omega
  rw[List.cons_append] at hl hg;have ea:A++x::v::(V++D)=A++x::([]++v::(V++D)):=rfl;rw[ea] at hl hg;have B0:AtE K n (A++x::([]++v::(V++D))) A.length x:=qAp hl (by omega) x (qCO _ _ _)
  have B1:AtE K n (A++x::([]++v::(V++D))) (A.length+1) v:=qAp hl (by omega) v (by
   have:=qAd (A++[x]) v (V++D) (A.length+1) (by simp)
   rw[<- this]; simp)
  obtain⟨s1,s2,s3⟩:=qCH hl B0 B1;have sw:=qBn A [] (V++D) x v;rw[List.length_nil,Nat.add_zero] at sw;rw[sw] at s2;have hgp:=Heap.zput_self (o:=RDE K ((A++x::([]++v::(V++D))).set A.length v)) hg (λe=>by cases e);have hg2:=Heap.zput_self (o:=RDE K (A++v::([]++x::(V++D)))) hgp (λe=>by cases e);have eb:A++v::([]++x::(V++D))=(A++[v])++x::(V++D):=by simp
  rw[eb] at hg2 s2;have ih:=shf1 n hn x D V (A++[v]) _ (by simp only[List.length_append,List.length_cons,List.length_nil]; omega) hg2;have ec:A++[v]++V++x::D=A++v::V++x::D:=by simp
  rw[ec] at ih;refine Eq.trans ?_ ih;have e1:(A++[v]).length=A.length+1:=by simp
  rw[e1,List.length_cons];have t:(A.length:Int)<((A.length+(V.length+1):Nat):Int):=by omega
  have ew:IntKind.i64.wrap (((A.length+(V.length+1)+1:Nat):Int) - 1)=((A.length+(V.length+1):Nat):Int):=by rw[qBY _ (by omega) (by omega)]; rfl
  have es:=qAq A.length (by omega);have en:A.length+1+V.length+1=A.length+(V.length+1)+1:=by omega
  rw[en,K.wM_3,gM_3];simp (maxSteps:=9999999) +contextual only[exa,rA,rB,rC,rD,rE,rF,rG,rH,rI,exW,exY,ew,es,t,B0.lt,B0.le,B0.row,B0.len,B0.fit,B1.lt,B1.le,B1.row,B1.len,B1.fit,Int.toNat_natCast,hg,s1,s2,s3,hgp,Nat.zero_le,if_false]
theorem shf2(n:Nat)(hn:n<=1000)(y:α)(A:List α):∀ (k:Nat) (V D:List α) (h:Heap),V.length=k->(A++V++y::D).length=n->h.get (.im 0)=some (RDE K (A++V++y::D)) ->
  lim tab.get S K.fM 1 8 [sK K n,kI (A.length:Int),kI ((A.length+V.length:Nat):Int)] h=some (.tup [],[RDE K (A++y::(V++D))])
 |0,V,D,h,hk,hl,hg=>by
  have e:=List.length_eq_zero_iff.1 hk;subst e;have t:¬ (A.length:Int)<(A.length:Int):=by omega
  have fin:=qAP true [] _ rfl hg (qAB _ 0);have e:A++[]++y::D=A++y::([]++D):=by simp
  rw[List.length_nil,Nat.add_zero,K.wM_8,gM_8];simp (maxSteps:=9999999) +contextual only[exa,rA,rB,rC,rD,rE,rF,rG,rH,rI,t,if_false];rw[K.wM_9,gM_9,fin,e];rfl
 |k+1,V,D,h,hk,hl,hg=>by
  obtain⟨W,u,rfl⟩:∃ W u,V=W++[u]:=by
   have:V≠[]:=λe=>by rw[e] at hk; cases hk
   exact⟨V.dropLast,V.getLast this,(List.dropLast_concat_getLast this).symm⟩
  have hW:W.length=k:=by rw[List.length_append,List.length_singleton] at hk; omega
  have hl':A.length+k+1+1+D.length=n:=by rw[<- hl,<- hW]; simp only[List.length_append,List.length_cons,List.length_nil]; omega
  have ea:A++(W++[u])++y::D=(A++W)++u::([]++y::D):=by simp
  rw[ea] at hl hg;have hAW:(A++W).length=A.length+k:=by rw[List.length_append,hW]
  have B0:AtE K n ((A++W)++u::([]++y::D)) (A.length+k) u:=qAp hl (by omega) u (qAd _ _ _ _ hAW.symm)
  have B1:AtE K n ((A++W)++u::([]++y::D)) (A.length+k+1) y:=qAp hl (by omega) y (by
   have:=qAd (A++W++[u]) y D (A.length+k+1) (by rw[List.length_append,hAW]; rfl)
   rw[<- this]; simp)
  obtain⟨s1,s2,s3⟩:=qCH hl B1 B0;have sw:=qCd (A++W) [] D u y (qBn _ _ _ _ _);rw[List.length_nil,Nat.add_zero,hAW] at sw;rw[sw] at s2;have hgp:=Heap.zput_self (o:=RDE K ((A++W++u::([]++y::D)).set (A.length+k+1) u)) hg (λe=>by cases e);have hg2:=Heap.zput_self (o:=RDE K ((A++W)++y::([]++u::D))) hgp (λe=>by cases e);have ih:=shf2 n hn y A k W (u::D) _ hW (by rw[<- hl]; simp only[List.length_append,List.length_cons,List.length_nil]; omega) hg2;have ec:A++y::(W++u::D)=A++y::(W++[u]++D):=by simp
  rw[ec] at ih;refine Eq.trans ?_ ih;have hlen:((A.length+(W++[u]).length:Nat):Int)=((A.length+k+1:Nat):Int):=by rw[List.length_append,List.length_singleton,hW]; rfl
  have t:(A.length:Int)<((A.length+k+1:Nat):Int):=by omega
  have ew:IntKind.i64.wrap (((A.length+k+1:Nat):Int) - 1)=((A.length+k:Nat):Int):=by rw[qBY _ (by omega) (by omega)]; rfl
  rw[hlen,hW,K.wM_8,gM_8];simp (maxSteps:=9999999) +contextual only[exa,rA,rB,rC,rD,rE,rF,rG,rH,rI,exW,exY,ew,t,B0.lt,B0.le,B0.row,B0.len,B0.fit,B1.lt,B1.le,B1.row,B1.len,B1.fit,Int.toNat_natCast,hg,s1,s2,s3,hgp,Nat.zero_le,if_false]
theorem bs2(n:Nat)(hn:n<=1000)(A C:List α)(y:α):∀ (k:Nat) (X1 Xm X2:List α) (h:Heap),Xm.length<=k->(A++(X1++Xm++X2)++y::C).length=n->Ord (ltK K) (X1++Xm++X2)->(∀ x∈X1,(ltK K) y x=false)->(∀ x∈X2,(ltK K) y x=true)->h.get (.im 0)=some (RDE K (A++(X1++Xm++X2)++y::C)) ->
  ∃ V1 V2,X1++Xm++X2=V1++V2/\(∀ x∈V1,(ltK K) y x=false)/\(∀ x∈V2,(ltK K) y x=true)/\lim tab.get S K.fM 1 6 [sK K n,kI ((A.length+(X1++Xm++X2).length:Nat):Int),(fF K),kI ((A.length+X1.length:Nat):Int),kI ((A.length+X1.length+Xm.length:Nat):Int)] h=lim tab.get S K.fM 1 7 [sK K n,kI ((A.length+(X1++Xm++X2).length:Nat):Int),kI ((A.length+V1.length:Nat):Int)] h
 |k,X1,[],X2,h,hk,hl,o,h1,h2,hg=>by
  refine⟨X1,X2,by simp,h1,h2,?_⟩;have t:¬ ((A.length+X1.length:Nat):Int)<((A.length+X1.length:Nat):Int):=by omega
  rw[List.length_nil,Nat.add_zero,K.wM_6,gM_6];simp (maxSteps:=9999999) +contextual only[exa,rA,rB,rC,rD,rE,rF,rG,rH,rI,t,if_false]
 |0,X1,_::_,X2,h,hk,hl,o,h1,h2,hg=>by simp at hk
 |k+1,X1,u::Xm,X2,h,hk,hl,o,h1,h2,hg=>by
  generalize hY:u::Xm=M at *;have hM:1<=M.length:=by rw[<- hY]; simp
  have hl':A.length+(X1.length+M.length+X2.length)+1+C.length=n:=by rw[<- hl]; simp only[List.length_append,List.length_cons]; omega
  obtain⟨j,hj⟩:∃ j,j=(A.length+X1.length+(A.length+X1.length+M.length)) / 2:=⟨_,rfl⟩;have j1:A.length+X1.length<=j:=by omega
  have j2:j<A.length+X1.length+M.length:=by omega
  obtain⟨M1,x,M2,e,hm⟩:∃ M1 x M2,M=M1++x::M2/\M1.length=j - (A.length+X1.length):=by
   refine⟨M.take (j - (A.length+X1.length)),M[j - (A.length+X1.length)]'(by omega),M.drop (j - (A.length+X1.length)+1),?_,by rw[List.length_take]; omega⟩;rw[<- List.drop_eq_getElem_cons (by omega),List.take_append_drop]
  subst e;have ea:A++(X1++(M1++x::M2)++X2)++y::C=(A++(X1++M1))++x::(M2++X2++y::C):=by simp
  have hLen:(M1++x::M2).length=M1.length+1+M2.length:=by simp only[List.length_append,List.length_cons]; omega
  have hXL:(X1++(M1++x::M2)++X2).length=X1.length+(M1.length+1+M2.length)+X2.length:=by rw[List.length_append,List.length_append,hLen]
  rw[hLen] at hk hM hl' hj j2;have Bx:AtE K n (A++(X1++(M1++x::M2)++X2)++y::C) j x:=qAp hl (by omega) x (by rw[ea]; exact qAd _ _ _ _ (by simp only[List.length_append,List.length_cons]; omega));have By:AtE K n (A++(X1++(M1++x::M2)++X2)++y::C) (A.length+(X1++(M1++x::M2)++X2).length) y:=qAp hl (by rw[hXL]; omega) y (qAd _ _ _ _ List.length_append.symm);have hf:=λ{β:Type} {h:Heap} {k:TVal->Heap->Option β}=>qBF (β:=β) (h:=h) (k:=k) (A.length+X1.length) (A.length+X1.length+(M1.length+1+M2.length)) (by omega) (by omega)
  rw[<- hj] at hf;have t:((A.length+X1.length:Nat):Int)<((A.length+X1.length+(M1.length+1+M2.length):Nat):Int):=by omega
  have o':=o;rw[List.append_assoc,List.append_assoc] at o';have o1:=(List.pairwise_append.1 (List.pairwise_append.1 o').2.1);have step:∀ w:Nat,AtE K n (A++(X1++(M1++x::M2)++X2)++y::C) w y->lim tab.get S K.fM 1 6 [sK K n,kI (w:Int),(fF K),kI ((A.length+X1.length:Nat):Int),kI ((A.length+X1.length+(M1.length+1+M2.length):Nat):Int)] h =
    if bless (K.key y) (K.key x)=true then lim tab.get S K.fM 1 6 [sK K n,kI (w:Int),(fF K),kI ((A.length+X1.length:Nat):Int),kI (j:Int)] h
    else lim tab.get S K.fM 1 6 [sK K n,kI (w:Int),(fF K),kI ((j+1:Nat):Int),kI ((A.length+X1.length+(M1.length+1+M2.length):Nat):Int)] h:=by
   intro w By;have ew:=qAq j (by omega);rw[K.wM_6,gM_6,qAT,qAM,if_pos (decide_eq_true t),hf];cases hb:bless (K.key y) (K.key x)
   ·simp (maxSteps:=9999999) +contextual only[exa,rA,rB,rC,rD,rE,rF,rG,rH,rI,exW,exY,ew,Bx.lt,Bx.le,Bx.row,Bx.len,By.lt,By.le,By.row,By.len,Int.toNat_natCast,hg,qT9,qAX,hb,Bool.false_eq_true,if_false]
   ·simp (maxSteps:=9999999) +contextual only[exa,rA,rB,rC,rD,rE,rF,rG,rH,rI,exW,exY,ew,Bx.lt,Bx.le,Bx.row,Bx.len,By.lt,By.le,By.row,By.len,Int.toNat_natCast,hg,qT9,qAX,hb,if_true]
  have step:=step _ By;rw[hLen,step];cases hb:bless (K.key y) (K.key x)
  ·rw[if_neg (by decide)];have ec:X1++(M1++x::M2)++X2=(X1++M1++[x])++M2++X2:=by simp
   rw[ec] at hl hg o ⊢
   obtain⟨V1,V2,q1,q2,q3,q4⟩:=bs2 n hn A C y k (X1++M1++[x]) M2 X2 h (by omega) hl o (λz hz=>by
    rcases List.mem_append.1 hz with hz|hz
    ·rcases List.mem_append.1 hz with hz|hz
     ·exact h1 z hz
     ·have oo:(ltK K) x z=false:=o1.2.2 z hz x (by simp);exact(qT6 K) z x y oo hb
    ·rw[List.mem_singleton.1 hz]; exact hb) h2 hg
   refine⟨V1,V2,q1,q2,q3,?_⟩;rw[<- q4];have e1:A.length+(X1++M1++[x]).length=j+1:=by simp only[List.length_append,List.length_singleton]; omega
   have e2:j+1+M2.length=A.length+X1.length+(M1.length+1+M2.length):=by omega
   rw[e1,e2]
  ·rw[if_pos rfl];have ec:X1++(M1++x::M2)++X2=X1++M1++(x::M2++X2):=by simp
   rw[ec] at hl hg o ⊢
   obtain⟨V1,V2,q1,q2,q3,q4⟩:=bs2 n hn A C y k X1 M1 (x::M2++X2) h (by omega) hl o h1 (λz hz=>by
    rcases List.mem_cons.1 hz with rfl|hz
    ·exact hb
    ·rcases List.mem_append.1 hz with hz|hz
     ·have oo:(ltK K) z x=false:=(List.pairwise_cons.1 o1.2.1).1 z (List.mem_append.2 (.inl hz));cases hc:(ltK K) y z
      ·have:=(qT6 K) x z y oo hc;rw[show(ltK K) y x=true from hb] at this; cases this
      ·rfl
     ·exact h2 z hz) hg
   refine⟨V1,V2,q1,q2,q3,?_⟩;rw[<- q4];have:A.length+X1.length+M1.length=j:=by omega
   rw[this]
def splE(K:SK α)(l:List α)(p c:Nat):Bool:=match l[p - c]?,l[c]? with
 |some u,some v=>(ltK K) u v
 |_,_=>true
theorem bs3(N:Nat)(hN:N<=1000)(l:List α)(hl:l.length=N)(a m b mid nn lo hi p:Nat)(hp:p<=3000)(hr:∀ c,lo<=c->c<hi->c<=p/\p - c<N/\c<N)(hhi:hi<=N)(h:Heap)(hg:h.get (.im 0)=some (RDE K l)):∀ (k s r:Nat),r - s<=k->lo<=s->s<=r->r<=hi->(s=lo\/splE K l p (s - 1)=false)->(r=hi\/splE K l p r=true) ->
  ∃ t,lo<=t/\t<=hi/\(t=lo\/splE K l p (t - 1)=false)/\(t=hi\/splE K l p t=true) /\
   lim tab.get S K.fM 1 12 [sK K N,kI (a:Int),kI (m:Int),kI (b:Int),(fF K),kI (mid:Int),kI (nn:Int),kI (s:Int),kI (r:Int),kI (p:Int)] h=lim tab.get S K.fM 1 13 [sK K N,kI (a:Int),kI (m:Int),kI (b:Int),(fF K),kI (mid:Int),kI (nn:Int),kI (t:Int)] h
 |k,s,r,hk,h1,h2,h3,i1,i2=>by
  by_cases e:s=r
  ·subst e;refine⟨s,h1,h3,i1,i2,?_⟩;have t:¬ (s:Int)<(s:Int):=by omega
   rw[K.wM_12,gM_12];simp (maxSteps:=9999999) +contextual only[exa,rA,rB,rC,rD,rE,rF,rG,rH,rI,t,if_false]
  ·cases k with
   |zero=>omega
   |succ k =>
    have t:(s:Int)<(r:Int):=by omega
    obtain⟨c,hc⟩:∃ c,c=(s+r) / 2:=⟨_,rfl⟩;have c1:s<=c:=by omega
    have c2:c<r:=by omega
    obtain⟨q1,q2,q3⟩:=hr c (by omega) (by omega);obtain⟨u,Bu⟩:=atE N l hl (p - c) q2;obtain⟨v,Bv⟩:=atE N l hl c q3;have hf:=λ{β:Type} {h:Heap} {k:TVal->Heap->Option β}=>qBF (β:=β) (h:=h) (k:=k) s r (by omega) (by omega)
    rw[<- hc] at hf;have ew:=qAq c (by omega);have es:=qAW p c (by omega) q1;have hs:splE K l p c=bless (K.key u) (K.key v):=by unfold splE; rw[Bu.get,Bv.get]; rfl
    cases hb:bless (K.key u) (K.key v)
    ·obtain⟨t',r1,r2,r3,r4,r5⟩:=bs3 N hN l hl a m b mid nn lo hi p hp hr hhi h hg k (c+1) r (by omega) (by omega) (by omega) h3 (.inr (by rw[Nat.add_sub_cancel,hs,hb])) i2;refine⟨t',r1,r2,r3,r4,?_⟩;rw[<- r5,K.wM_12,gM_12,qAT,qAM,if_pos (decide_eq_true t),hf];simp (maxSteps:=9999999) +contextual only[exa,rA,rB,rC,rD,rE,rF,rG,rH,rI,exW,exY,ew,es,Bu.lt,Bu.le,Bu.row,Bu.len,Bv.lt,Bv.le,Bv.row,Bv.len,Int.toNat_natCast,hg,qT9,qAX,hb,Bool.false_eq_true,if_false]
    ·obtain⟨t',r1,r2,r3,r4,r5⟩:=bs3 N hN l hl a m b mid nn lo hi p hp hr hhi h hg k s c (by omega) h1 c1 (by omega) i1 (.inr (by rw[hs,hb]));refine⟨t',r1,r2,r3,r4,?_⟩;rw[<- r5,K.wM_12,gM_12,qAT,qAM,if_pos (decide_eq_true t),hf];simp (maxSteps:=9999999) +contextual only[exa,rA,rB,rC,rD,rE,rF,rG,rH,rI,exW,exY,ew,es,Bu.lt,Bu.le,Bu.row,Bu.len,Bv.lt,Bv.le,Bv.row,Bv.len,Int.toNat_natCast,hg,qT9,qAX,hb,if_true]
end
section
variable {α:Type} [K:SK α]
theorem q164{β:Type}{k:TVal->Heap->Option β}{h:Heap}{d:Nat}(n a m b:Nat)(l l':List α)(hc:Om K.fR [sK K n,kI (a:Int),kI (m:Int),kI (b:Int),(fF K)] [RDE K l]=some (.tup [],[RDE K l']))(hg:h.get (.im 0)=some (RDE K l)):vcall Om (.v (.c (.func K.fR []))) [sK K n,kI (a:Int),kI (m:Int),kI (b:Int),(fF K)] h d k=k (.tup []) (h.put (.im 0) (RDE K l')) :=
 qAh K.fR (.im 0) [sK K n,kI (a:Int),kI (m:Int),kI (b:Int),(fF K)] _ _ _ _ rfl rfl rfl hg (qAB _ 0) (qAB _ 0) (λ_=>rfl) hc
theorem qLo{β:Type}{k:TVal->Heap->Option β}{h:Heap}{d:Nat}(n a m b:Nat)(l l':List α)(hc:Om K.fM [sK K n,kI (a:Int),kI (m:Int),kI (b:Int),(fF K)] [RDE K l]=some (.tup [],[RDE K l']))(hg:h.get (.im 0)=some (RDE K l)):vcall Om (.v (.c (.func K.fM []))) [sK K n,kI (a:Int),kI (m:Int),kI (b:Int),(fF K)] h d k=k (.tup []) (h.put (.im 0) (RDE K l')) :=
 qAh K.fM (.im 0) [sK K n,kI (a:Int),kI (m:Int),kI (b:Int),(fF K)] _ _ _ _ rfl rfl rfl hg (qAB _ 0) (qAB _ 0) (λ_=>rfl) hc
def SymOK(K:SK α)(n f:Nat):Prop:=∀ X Y A C:List α,X.length+Y.length<=f->1<=X.length->1<=Y.length->Ord (ltK K) X->Ord (ltK K) Y->(A++X++Y++C).length=n ->
 ∃ Z,Mrg (ltK K) X Y Z/\Om K.fM [sK K n,kI (A.length:Int),kI ((A.length+X.length:Nat):Int),kI ((A.length+X.length+Y.length:Nat):Int),(fF K)] [RDE K (A++X++Y++C)]=some (.tup [],[RDE K (A++Z++C)])
theorem qTd(n f:Nat)(hn:n<=1000)(ih:SymOK K n f)(A X Y C:List α)(hf:X.length+Y.length<=f)(oX:Ord (ltK K) X)(oY:Ord (ltK K) Y)(h:Heap)(hl:(A++X++Y++C).length=n)(hg:h.get (.im 0)=some (RDE K (A++X++Y++C))) :
  ∃ Z,Mrg (ltK K) X Y Z/\lim tab.get S K.fM 1 15 [sK K n,kI ((A.length+X.length+Y.length:Nat):Int),(fF K),kI (A.length:Int),kI ((A.length+X.length:Nat):Int)] h=some (.tup [],[RDE K (A++Z++C)]):=by
 by_cases hx:1<=X.length
 ·by_cases hy:1<=Y.length
  ·obtain⟨Z,M,e⟩:=ih X Y A C hf hx hy oX oY hl;refine⟨Z,M,?_⟩;have c:=λ{β:Type} {k:TVal->Heap->Option β} {d:Nat}=>qLo (k:=k) (d:=d) n A.length (A.length+X.length) (A.length+X.length+Y.length) _ _ e hg
   have fin:=qAP true [] _ rfl (Heap.zput_self (o:=RDE K (A++Z++C)) hg (λe=>by cases e)) (qAB _ 0);have t1:(A.length:Int)<((A.length+X.length:Nat):Int):=by omega
   have t2:((A.length+X.length:Nat):Int)<((A.length+X.length+Y.length:Nat):Int):=by omega
   rw[K.wM_15,gM_15];simp (maxSteps:=9999999) +contextual only[exa,rA,rB,rC,rD,rE,rF,rG,rH,rI,exW,exY,t1,t2,c,fin,oneOf]
  ·have ey:Y=[]:=List.length_eq_zero_iff.1 (by omega);subst ey;refine⟨X,qFL (ltK K) X oX,?_⟩;have fin:=qAP true [] _ rfl hg (qAB _ 0);have e:A++X++[]++C=A++X++C:=by simp
   have t1:(A.length:Int)<((A.length+X.length:Nat):Int):=by omega
   have t2:¬ ((A.length+X.length:Nat):Int)<((A.length+X.length:Nat):Int):=by omega
   rw[e] at fin;rw[List.length_nil,Nat.add_zero,K.wM_15,gM_15];simp (maxSteps:=9999999) +contextual only[exa,rA,rB,rC,rD,rE,rF,rG,rH,rI,exW,exY,t1,t2,fin,if_false,oneOf]
 ·have ex:X=[]:=List.length_eq_zero_iff.1 (by omega);subst ex;refine⟨Y,qFB (ltK K) Y oY,?_⟩;have fin:=qAP true [] _ rfl hg (qAB _ 0);have e:A++[]++Y++C=A++Y++C:=by simp
  have t1:¬ (A.length:Int)<(A.length:Int):=by omega
  rw[e] at fin;rw[List.length_nil,Nat.add_zero,K.wM_15,gM_15];simp (maxSteps:=9999999) +contextual only[exa,rA,rB,rC,rD,rE,rF,rG,rH,rI,exW,exY,t1,fin,if_false,oneOf]
theorem qTx(n f:Nat)(hn:n<=1000)(ih:SymOK K n f)(A X1 Y1 X2 Y2 C:List α)(hf1:X1.length+Y1.length<=f)(hf2:X2.length+Y2.length<=f)(oX1:Ord (ltK K) X1)(oY1:Ord (ltK K) Y1)(oX2:Ord (ltK K) X2)(oY2:Ord (ltK K) Y2)(h:Heap)
  (hl:(A++X1++Y1++X2++Y2++C).length=n) (hg:h.get (.im 0)=some (RDE K (A++X1++Y1++X2++Y2++C))) (mid en b:Nat) (hmid:mid=A.length+X1.length+Y1.length) (hen:en=mid+X2.length) (hb:b=en+Y2.length) :
  ∃ Z1 Z2,Mrg (ltK K) X1 Y1 Z1/\Mrg (ltK K) X2 Y2 Z2/\lim tab.get S K.fM 1 14 [sK K n,kI (A.length:Int),kI (b:Int),(fF K),kI (mid:Int),kI ((A.length+X1.length:Nat):Int),kI (en:Int)] h=some (.tup [],[RDE K (A++Z1++Z2++C)]):=by
 have fin15:∀ (Z1:List α) (h1:Heap),Mrg (ltK K) X1 Y1 Z1->h1.get (.im 0)=some (RDE K (A++Z1++(X2++Y2++C))) ->
   ∃ Z2,Mrg (ltK K) X2 Y2 Z2/\lim tab.get S K.fM 1 15 [sK K n,kI (b:Int),(fF K),kI (mid:Int),kI (en:Int)] h1=some (.tup [],[RDE K (A++Z1++Z2++C)]):=by
  intro Z1 h1 M1 g1;have lZ:=M1.len;have el:(A++Z1).length=mid:=by rw[List.length_append,lZ]; omega
  have e1:A++Z1++(X2++Y2++C)=(A++Z1)++X2++Y2++C:=by simp
  rw[e1] at g1;obtain⟨Z2,M2,e2⟩:=qTd n f hn ih (A++Z1) X2 Y2 C hf2 oX2 oY2 h1 (by rw[<- hl]; simp only[List.length_append,lZ]; omega) g1;rw[el,<- hen,<- hb] at e2;exact⟨Z2,M2,e2⟩
 by_cases hx:1<=X1.length
 ·have t1:(A.length:Int)<((A.length+X1.length:Nat):Int):=by omega
  by_cases hy:1<=Y1.length
  ·have t2:((A.length+X1.length:Nat):Int)<(mid:Int):=by omega
   have ea:A++X1++Y1++X2++Y2++C=A++X1++Y1++(X2++Y2++C):=by simp
   rw[ea] at hl hg;obtain⟨Z1,M1,e⟩:=ih X1 Y1 A (X2++Y2++C) hf1 hx hy oX1 oY1 hl;have c:=λ{β:Type} {k:TVal->Heap->Option β} {d:Nat}=>qLo (k:=k) (d:=d) n A.length (A.length+X1.length) (A.length+X1.length+Y1.length) _ _ e hg
   rw[<- hmid] at c;obtain⟨Z2,M2,e2⟩:=fin15 Z1 _ M1 (Heap.zput_self hg (λe=>by cases e));refine⟨Z1,Z2,M1,M2,?_⟩;rw[<- e2,K.wM_14,gM_14];simp (maxSteps:=9999999) +contextual only[exa,rA,rB,rC,rD,rE,rF,rG,rH,rI,exW,exY,t1,t2,c,oneOf]
  ·have ey:Y1=[]:=List.length_eq_zero_iff.1 (by omega);have t2:¬ ((A.length+X1.length:Nat):Int)<(mid:Int):=by omega
   have M1:Mrg (ltK K) X1 Y1 X1:=by rw[ey]; exact qFL (ltK K) X1 oX1
   obtain⟨Z2,M2,e2⟩:=fin15 X1 h M1 (by rw[hg,ey]; simp);refine⟨X1,Z2,M1,M2,?_⟩;rw[<- e2,K.wM_14,gM_14];simp (maxSteps:=9999999) +contextual only[exa,rA,rB,rC,rD,rE,rF,rG,rH,rI,exW,exY,t1,t2,if_false,oneOf]
 ·have ex:X1=[]:=List.length_eq_zero_iff.1 (by omega);have t1:¬ (A.length:Int)<((A.length+X1.length:Nat):Int):=by omega
  have M1:Mrg (ltK K) X1 Y1 Y1:=by rw[ex]; exact qFB (ltK K) Y1 oY1
  obtain⟨Z2,M2,e2⟩:=fin15 Y1 h M1 (by rw[hg,ex]; simp);refine⟨Y1,Z2,M1,M2,?_⟩;rw[<- e2,K.wM_14,gM_14];simp (maxSteps:=9999999) +contextual only[exa,rA,rB,rC,rD,rE,rF,rG,rH,rI,exW,exY,t1,if_false,oneOf]
theorem qTt(n f:Nat)(hn:n<=1000)(ih:SymOK K n f)(A X1 Y1 X2 Y2 C:List α)(hf1:X1.length+Y1.length<=f)(hf2:X2.length+Y2.length<=f)(oX:Ord (ltK K) (X1++X2))(oY:Ord (ltK K) (Y1++Y2))
  (h1:∀ p q,X1.getLast?=some p->Y2.head?=some q->(ltK K) q p=false) (h2:∀ p q,Y1.getLast?=some p->X2.head?=some q->(ltK K) q p=false) (h:Heap)
  (hl:(A++(X1++X2)++(Y1++Y2)++C).length=n) (hg:h.get (.im 0)=some (RDE K (A++(X1++X2)++(Y1++Y2)++C))) (mid m b st nn:Nat) (hmid:mid=A.length+X1.length+Y1.length) (hm:m=A.length+X1.length+X2.length) (hb:b=m+(Y1.length+Y2.length)) (hst:st=A.length+X1.length) (hnn:nn=mid+m) :
  ∃ Z,Mrg (ltK K) (X1++X2) (Y1++Y2) Z/\lim tab.get S K.fM 1 13 [sK K n,kI (A.length:Int),kI (m:Int),kI (b:Int),(fF K),kI (mid:Int),kI (nn:Int),kI (st:Int)] h=some (.tup [],[RDE K (A++Z++C)]):=by
 have oX':=List.pairwise_append.1 oX;have oY':=List.pairwise_append.1 oY;have hl':A.length+(X1.length+X2.length)+(Y1.length+Y2.length)+C.length=n:=by rw[<- hl]; simp only[List.length_append]
 have es:IntKind.i64.wrap ((nn:Int) - (st:Int))=((mid+X2.length:Nat):Int):=by rw[qAW nn st (by omega) (by omega)]; congr 1; omega
 have go:∀ h':Heap,h'.get (.im 0)=some (RDE K (A++X1++Y1++X2++Y2++C))->∃ Z,Mrg (ltK K) (X1++X2) (Y1++Y2) Z/\lim tab.get S K.fM 1 14 [sK K n,kI (A.length:Int),kI (b:Int),(fF K),kI (mid:Int),kI (st:Int),kI ((mid+X2.length:Nat):Int)] h'=some (.tup [],[RDE K (A++Z++C)]):=by
  intro h' g';obtain⟨Z1,Z2,M1,M2,e⟩:=qTx n f hn ih A X1 Y1 X2 Y2 C hf1 hf2 oX'.1 oY'.1 oX'.2.1 oY'.2.1 h' (by rw[<- hl]; simp only[List.length_append]; omega) g' mid (mid+X2.length) b hmid rfl (by omega);refine⟨Z1++Z2,qK6 (ltK K) (qT6 K) (qUF K) X1 X2 Y1 Y2 Z1 Z2 oX oY h1 h2 M1 M2,?_⟩;rw[hst,e,List.append_assoc A Z1 Z2]
 by_cases hx:1<=X2.length
 ·have t1:(st:Int)<(m:Int):=by omega
  by_cases hy:1<=Y1.length
  ·have t2:(m:Int)<((mid+X2.length:Nat):Int):=by omega
   have ea:A++(X1++X2)++(Y1++Y2)++C=(A++X1)++X2++Y1++(Y2++C):=by simp
   rw[ea] at hl hg;have e:=qN3 n hn X2 Y1 (A++X1) (Y2++C) hx hy hl;have a1:(A++X1).length=st:=by rw[List.length_append]; omega
   have a2:st+X2.length=m:=by omega
   have a3:m+Y1.length=mid+X2.length:=by omega
   rw[a1,a2,a3] at e;have c:=λ{β:Type} {k:TVal->Heap->Option β} {d:Nat}=>q164 (k:=k) (d:=d) n st m (mid+X2.length) _ _ e hg
   obtain⟨Z,M,e'⟩:=go (h.put (.im 0) (RDE K ((A++X1)++Y1++X2++(Y2++C)))) (by
    have e2:(A++X1)++Y1++X2++(Y2++C)=A++X1++Y1++X2++Y2++C:=by simp
    rw[<- e2]
    exact Heap.zput_self hg (λe=>by cases e))
   refine⟨Z,M,?_⟩;rw[<- e',K.wM_13,gM_13];simp (maxSteps:=9999999) +contextual only[exa,rA,rB,rC,rD,rE,rF,rG,rH,rI,exW,exY,es,t1,t2,c,oneOf]
  ·have ey:Y1=[]:=List.length_eq_zero_iff.1 (by omega);have t2:¬ (m:Int)<((mid+X2.length:Nat):Int):=by omega
   obtain⟨Z,M,e'⟩:=go h (by rw[hg,ey]; simp);refine⟨Z,M,?_⟩;rw[<- e',K.wM_13,gM_13];simp (maxSteps:=9999999) +contextual only[exa,rA,rB,rC,rD,rE,rF,rG,rH,rI,exW,exY,es,t1,t2,if_false,oneOf]
 ·have ex:X2=[]:=List.length_eq_zero_iff.1 (by omega);have t1:¬ (st:Int)<(m:Int):=by omega
  obtain⟨Z,M,e'⟩:=go h (by rw[hg,ex]; simp);refine⟨Z,M,?_⟩;rw[<- e',K.wM_13,gM_13];simp (maxSteps:=9999999) +contextual only[exa,rA,rB,rC,rD,rE,rF,rG,rH,rI,exW,exY,es,t1,if_false,oneOf]
theorem qIK(A X R:List α)(i:Nat)(hi:i<X.length):(A++X++R)[A.length+i]?=X[i]?:=by
 rw[List.append_assoc,List.getElem?_append_right (by omega),Nat.add_sub_cancel_left,List.getElem?_append_left hi]
theorem qDT(X:List α)(k:Nat)(p:α)(h:(X.take k).getLast?=some p):1<=(X.take k).length/\X[(X.take k).length - 1]?=some p:=by
 have hne:X.take k≠[]:=λe=>by rw[e] at h; cases h
 have hl:=List.length_pos_iff.2 hne;refine⟨hl,?_⟩;rw[List.getLast?_eq_getElem?,List.getElem?_take_of_lt (by rw[List.length_take] at hl ⊢; omega)] at h;exact h
theorem qDR(X:List α)(k:Nat)(p:α)(h:(X.drop k).head?=some p):X[k]?=some p/\k<X.length:=by
 rw[List.head?_drop] at h;exact⟨h,(List.getElem?_eq_some_iff.1 h).1⟩
theorem qTX(n f:Nat)(hn:n<=1000)(ih:SymOK K n f)(A X Y C:List α)(hX:2<=X.length)(hY:2<=Y.length)(hf:X.length+Y.length<=f+1)(oX:Ord (ltK K) X)(oY:Ord (ltK K) Y)(h:Heap)(hl:(A++X++Y++C).length=n)(hg:h.get (.im 0)=some (RDE K (A++X++Y++C))) :
  ∃ Z,Mrg (ltK K) X Y Z/\lim tab.get S K.fM 1 10 [sK K n,kI (A.length:Int),kI ((A.length+X.length:Nat):Int),kI ((A.length+X.length+Y.length:Nat):Int),(fF K)] h=some (.tup [],[RDE K (A++Z++C)]):=by
 have hl':A.length+X.length+Y.length+C.length=n:=by rw[<- hl]; simp only[List.length_append]
 obtain⟨m,hm⟩:∃ m,m=A.length+X.length:=⟨_,rfl⟩;obtain⟨b,hb⟩:∃ b,b=A.length+X.length+Y.length:=⟨_,rfl⟩;obtain⟨mid,hmid⟩:∃ mid,mid=(A.length+b) / 2:=⟨_,rfl⟩;obtain⟨lo,hlo⟩:∃ lo,lo=if mid<m then mid+m - b else A.length:=⟨_,rfl⟩
 obtain⟨hi,hhi⟩:∃ hi,hi=if mid<m then mid else m:=⟨_,rfl⟩
 have lo1:A.length<=lo/\lo<=hi/\hi<=m/\hi<=mid/\(lo=A.length\/mid+m - lo=b)/\mid+m<=lo+b/\(hi=m\/hi=mid):=by
  rw[hlo,hhi]; split <;> omega
 obtain⟨l1,l2,l3,l4,l5,l6,l7⟩:=lo1;have gx:∀ i,i<X.length->(A++X++Y++C)[A.length+i]?=X[i]?:=λi hi=>by rw[List.append_assoc (A++X)]; exact qIK A X (Y++C) i hi
 have gy:∀ i,i<Y.length->(A++X++Y++C)[m+i]?=Y[i]?:=λi hi=>by
  have:=qIK (A++X) Y C i hi;rw[List.length_append,<- hm] at this;exact this
 have step:∃ t,lo<=t/\t<=hi/\(t=lo\/splE K (A++X++Y++C) (mid+m - 1) (t - 1)=false)/\(t=hi\/splE K (A++X++Y++C) (mid+m - 1) t=true) /\
   lim tab.get S K.fM 1 10 [sK K n,kI (A.length:Int),kI (m:Int),kI (b:Int),(fF K)] h=lim tab.get S K.fM 1 13 [sK K n,kI (A.length:Int),kI (m:Int),kI (b:Int),(fF K),kI (mid:Int),kI ((mid+m:Nat):Int),kI (t:Int)] h:=by
  obtain⟨t,r1,r2,r3,r4,r5⟩:=bs3 n hn (A++X++Y++C) hl A.length m b mid (mid+m) lo hi (mid+m - 1) (by omega) (λc c1 c2=>by omega) (by omega) h hg (hi - lo) lo hi (Nat.le_refl _) (Nat.le_refl _) l2 (Nat.le_refl _) (.inl rfl) (.inl rfl);refine⟨t,r1,r2,r3,r4,?_⟩;have hf:=λ{β:Type} {h:Heap} {k:TVal->Heap->Option β}=>qBF (β:=β) (h:=h) (k:=k) A.length b (by omega) (by omega)
  rw[<- hmid] at hf;have ea:IntKind.i64.wrap ((mid:Int)+(m:Int))=((mid+m:Nat):Int):=qAl mid m (by omega) (by omega);have ep:IntKind.i64.wrap (((mid+m:Nat):Int) - 1)=((mid+m - 1:Nat):Int):=qBY _ (by omega) (by omega);rw[<- r5,K.wM_10,gM_10,hf];by_cases hlt:mid<m
  ·have t1:(mid:Int)<(m:Int):=by omega
   rw[if_pos hlt] at hlo hhi;have eb:IntKind.i64.wrap (((mid+m:Nat):Int) - (b:Int))=(lo:Int):=by rw[qAW _ _ (by omega) (by omega),hlo]
   subst hhi;simp (maxSteps:=9999999) +contextual only[exa,rA,rB,rC,rD,rE,rF,rG,rH,rI,exW,exY,ea,t1,eb];rw[K.wM_11,gM_11];simp (maxSteps:=9999999) +contextual only[exa,rA,rB,rC,rD,rE,rF,rG,rH,rI,exW,exY,ep]
  ·have t1:¬ (mid:Int)<(m:Int):=by omega
   rw[if_neg hlt] at hlo hhi;subst hhi;subst hlo;simp (maxSteps:=9999999) +contextual only[exa,rA,rB,rC,rD,rE,rF,rG,rH,rI,exW,exY,ea,t1,if_false];rw[K.wM_11,gM_11];simp (maxSteps:=9999999) +contextual only[exa,rA,rB,rC,rD,rE,rF,rG,rH,rI,exW,exY,ep]
 obtain⟨t,t1,t2,t3,t4,t5⟩:=step;rw[<- hm,show m+Y.length=b by omega,t5];have sX:=List.take_append_drop (t - A.length) X;have sY:=List.take_append_drop (mid - t) Y;have x1:(X.take (t - A.length)).length=t - A.length:=by rw[List.length_take]; omega
 have x2:(X.drop (t - A.length)).length=m - t:=by rw[List.length_drop]; omega
 have y1:(Y.take (mid - t)).length=mid - t:=by rw[List.length_take]; omega
 have y2:(Y.drop (mid - t)).length=b - m - (mid - t):=by rw[List.length_drop]; omega
 have c1:∀ p q,(X.take (t - A.length)).getLast?=some p->(Y.drop (mid - t)).head?=some q->(ltK K) q p=false:=by
  intro p q hp hq;obtain⟨p1,p2⟩:=qDT _ _ _ hp;obtain⟨q1,q2⟩:=qDR _ _ _ hq;rw[x1] at p1 p2;have hne:t≠lo:=by
   intro e
   rcases l5 with l5|l5 <;> omega
  rcases t3 with t3|t3
  ·exact absurd t3 hne
  ·have g1:=gx (t - A.length - 1) (by omega);have g2:=gy (mid - t) q2;rw[p2,show A.length+(t - A.length - 1)=t - 1 by omega] at g1;rw[q1,show m+(mid - t)=mid+m - 1 - (t - 1) by omega] at g2;unfold splE at t3;rw[g1,g2] at t3;exact t3
 have c2:∀ p q,(Y.take (mid - t)).getLast?=some p->(X.drop (t - A.length)).head?=some q->(ltK K) q p=false:=by
  intro p q hp hq;obtain⟨p1,p2⟩:=qDT _ _ _ hp;obtain⟨q1,q2⟩:=qDR _ _ _ hq;rw[y1] at p1 p2;have hne:t≠hi:=by
   intro e
   rcases l7 with l7|l7 <;> omega
  rcases t4 with t4|t4
  ·exact absurd t4 hne
  ·have g1:=gx (t - A.length) q2;have g2:=gy (mid - t - 1) (by omega);rw[q1,show A.length+(t - A.length)=t by omega] at g1;rw[p2,show m+(mid - t - 1)=mid+m - 1 - t by omega] at g2;unfold splE at t4;rw[g1,g2] at t4;exact(qT8 K) _ _ t4
 have oX':=oX;have oY':=oY;rw[<- sX] at oX';rw[<- sY] at oY';have hl2:=hl;have hg2:=hg;rw[<- sX,<- sY] at hl2 hg2;obtain⟨Z,M,e⟩:=qTt n f hn ih A (X.take (t - A.length)) (Y.take (mid - t)) (X.drop (t - A.length)) (Y.drop (mid - t)) C (by omega) (by omega) oX' oY' c1 c2 h hl2 hg2 mid m b t (mid+m) (by omega) (by omega) (by omega) (by omega) rfl;rw[sX,sY] at M;exact⟨Z,M,e⟩
theorem qG3(n:Nat)(hn:n<=1000):∀ f,SymOK K n f
 |0=>λX Y A C hf hx hy _ _ _=>by omega
 |f+1=>λX Y A C hf hx hy oX oY hl=>by
  have ih:=qG3 n hn f;have hl':A.length+X.length+Y.length+C.length=n:=by rw[<- hl]; simp only[List.length_append]
  have e0:Om K.fM [sK K n,kI (A.length:Int),kI ((A.length+X.length:Nat):Int),kI ((A.length+X.length+Y.length:Nat):Int),(fF K)] [RDE K (A++X++Y++C)]=lim tab.get S K.fM 1 0 [sK K n,kI (A.length:Int),kI ((A.length+X.length:Nat):Int),kI ((A.length+X.length+Y.length:Nat):Int),(fF K)] (hpE K (A++X++Y++C)):=qAD (K.nM _ _);have es1:IntKind.i64.wrap (((A.length+X.length:Nat):Int) - (A.length:Int))=(X.length:Int):=by rw[qAW _ _ (by omega) (by omega)]; congr 1; omega
  have es2:IntKind.i64.wrap (((A.length+X.length+Y.length:Nat):Int) - ((A.length+X.length:Nat):Int))=(Y.length:Int):=by rw[qAW _ _ (by omega) (by omega)]; congr 1; omega
  rw[e0];have hg:(hpE K (A++X++Y++C)).get (.im 0)=some (RDE K (A++X++Y++C)):=rfl;generalize hpE K (A++X++Y++C)=h at hg ⊢;by_cases h1:X.length=1
  ·obtain⟨x,rfl⟩:=List.length_eq_one_iff.1 h1;have ea:A++[x]++Y++C=A++x::([]++Y++[])++C:=by simp
   rw[ea] at hl hg;obtain⟨V1,V2,q1,q2,q3,q4⟩:=bs1 n hn A C x Y.length [] Y [] h (Nat.le_refl _) hl (by simpa using oY) (λy hy=>by cases hy) (λy hy=>by cases hy) hg;rw[List.nil_append,List.append_nil] at q1;subst q1;refine⟨V1++x::V2,qLs (ltK K) (qT8 K) (qT6 K) x V1 V2 oY q2 q3,?_⟩;have t:((1:Nat):Int)=1:=rfl;have eg:A++x::([]++(V1++V2)++[])++C=A++x::(V1++(V2++C)):=by simp
   rw[eg] at hg hl;have sh:=shf1 n hn x (V2++C) V1 A h hl hg;have er:A++V1++x::(V2++C)=A++(V1++x::V2)++C:=by simp
   rw[er] at sh;rw[<- sh,K.wM_0,gM_0,qAf,es1];rw[show A.length+V1.length+1=A.length+1+V1.length by omega];rw[List.length_singleton] at *;simp (maxSteps:=9999999) +contextual only[exa,rA,rB,rC,rD,rE,rF,rG,rH,rI,t];rw[List.length_nil,Nat.add_zero] at q4;refine q4.trans ?_;rw[K.wM_2,gM_2]
  ·have t:¬ (X.length:Int)=1:=by omega
   by_cases h2:Y.length=1
   ·obtain⟨y,rfl⟩:=List.length_eq_one_iff.1 h2;have ea:A++X++[y]++C=A++([]++X++[])++y::C:=by simp
    rw[ea] at hl hg;obtain⟨V1,V2,q1,q2,q3,q4⟩:=bs2 n hn A C y X.length [] X [] h (Nat.le_refl _) hl (by simpa using oX) (λy hy=>by cases hy) (λy hy=>by cases hy) hg;rw[List.nil_append,List.append_nil] at q1 q4;subst q1;refine⟨V1++y::V2,qFF (ltK K) (qT8 K) (qT6 K) y V1 V2 oX q2 q3,?_⟩;have t2:((1:Nat):Int)=1:=rfl;have eg:A++([]++(V1++V2)++[])++y::C=(A++V1)++V2++y::C:=by simp
    rw[eg] at hg hl;have sh:=shf2 n hn y (A++V1) V2.length V2 C h rfl hl hg;have er:A++V1++y::(V2++C)=A++(V1++y::V2)++C:=by simp
    rw[er,List.length_append] at sh;rw[<- sh,K.wM_0,gM_0,qAf,es1];simp (maxSteps:=9999999) +contextual only[exa,rA,rB,rC,rD,rE,rF,rG,rH,rI,t,if_false];rw[List.length_singleton] at es2;rw[K.wM_5,gM_5,qAf,es2];simp (maxSteps:=9999999) +contextual only[exa,rA,rB,rC,rD,rE,rF,rG,rH,rI,t2];rw[List.length_nil,Nat.add_zero] at q4;refine q4.trans ?_;rw[K.wM_7,gM_7,List.length_append,Nat.add_assoc]
   ·have t2:¬ (Y.length:Int)=1:=by omega
    obtain⟨Z,M,e⟩:=qTX n f hn ih A X Y C (by omega) (by omega) hf oX oY h hl hg;refine⟨Z,M,?_⟩;rw[<- e,K.wM_0,gM_0,qAf,es1];simp (maxSteps:=9999999) +contextual only[exa,rA,rB,rC,rD,rE,rF,rG,rH,rI,t,if_false];rw[K.wM_5,gM_5,qAf,es2];simp (maxSteps:=9999999) +contextual only[exa,rA,rB,rC,rD,rE,rF,rG,rH,rI,t2,if_false]
end
theorem qCW{α:Type}(s:Nat):∀ (Bs:List (List α)),(∀ B∈Bs,B.length=s)->Bs.flatten.length=s*Bs.length
 |[],_=>rfl
 |B::Bs,h=>by
  rw[List.flatten_cons,List.length_append,h B (by simp),qCW s Bs (λX hX=>h X (by simp[hX])),List.length_cons,Nat.mul_succ]; omega
section
variable {α:Type} [K:SK α]
structure BlkE (K:SK α) (s:Nat) (Bs:List (List α)) (T:List α):Prop where
 all:∀ B∈Bs,B.length=s/\Ord (ltK K) B
 len:T.length<s
 ord:Ord (ltK K) T
theorem stb1(n:Nat)(hn:n<=1000):∀ (m:Nat) (Bs:List (List α)) (R:List α) (h:Heap),R.length<=m->(∀ B∈Bs,B.length=20/\Ord (ltK K) B)->(Bs.flatten++R).length=n->h.get (.im 0)=some (RDE K (Bs.flatten++R)) ->
  ∃ h' Bs' T,BlkE K 20 Bs' T/\(Bs'.flatten++T).Perm (Bs.flatten++R)/\h'.get (.im 0)=some (RDE K (Bs'.flatten++T))/\lim tab.get S K.fT 1 1 [sK K n,kI (n:Int),(fF K),kI 20,kI (Bs.flatten.length:Int),kI ((Bs.flatten.length+20:Nat):Int)] h=lim tab.get S K.fT 1 3 [sK K n,kI (n:Int),(fF K),kI 20] h'
 |m,Bs,R,h,hm,hB,hl,hg=>by
  have hl':Bs.flatten.length+R.length=n:=by rw[<- hl,List.length_append]
  by_cases hR:20<=R.length
  ·cases m with
   |zero=>omega
   |succ m =>
    have sR:=List.take_append_drop 20 R;have r1:(R.take 20).length=20:=by rw[List.length_take]; omega
    have r2:(R.drop 20).length=R.length - 20:=List.length_drop;have ea:Bs.flatten++R=Bs.flatten++R.take 20++R.drop 20:=by rw[List.append_assoc,sR]
    rw[ea] at hl hg;obtain⟨Z,o,p,e⟩:=qN6 n hn Bs.flatten (R.take 20) (R.drop 20) hl;rw[r1] at e;have c:=λ{β:Type} {k:TVal->Heap->Option β} {d:Nat}=>q148 (k:=k) (d:=d) n _ _ _ _ e hg
    have lZ:Z.length=20:=by rw[p.length_eq,r1]
    have ef:(Bs++[Z]).flatten=Bs.flatten++Z:=by simp
    obtain⟨h',Bs',T,b,p',g',e'⟩:=stb1 n hn m (Bs++[Z]) (R.drop 20) (h.put (.im 0) (RDE K (Bs.flatten++Z++R.drop 20))) (by omega) (λB hb=>by
     rcases List.mem_append.1 hb with hb|hb
     ·exact hB B hb
     ·rw[List.mem_singleton.1 hb]; exact⟨lZ,o⟩) (by rw[ef,<- hl]; simp only[List.length_append,lZ,r1]) (by rw[ef]; exact Heap.zput_self hg (λe=>by cases e))
    refine⟨h',Bs',T,b,p'.trans ?_,g',?_⟩
    ·rw[ef,ea];exact(p.append_left Bs.flatten).append_right _
    ·rw[ef,List.length_append,lZ] at e';rw[<- e',K.wT_1,gT_1];have t:¬ (n:Int)<((Bs.flatten.length+20:Nat):Int):=by omega
     have ew:IntKind.i64.wrap (((Bs.flatten.length+20:Nat):Int)+20)=((Bs.flatten.length+20+20:Nat):Int):=by rw[qAL _ (by omega) (by omega)]; omega
     simp (maxSteps:=9999999) +contextual only[exa,rA,rB,rC,rD,rE,rF,rG,rH,rI,exW,exY,t,c,ew,if_false,oneOf]
  ·have ea:Bs.flatten++R=Bs.flatten++R++[]:=by rw[List.append_nil]
   rw[ea] at hl hg;obtain⟨Z,o,p,e⟩:=qN6 n hn Bs.flatten R [] hl;rw[hl'] at e;have c:=λ{β:Type} {k:TVal->Heap->Option β} {d:Nat}=>q148 (k:=k) (d:=d) n _ _ _ _ e hg
   refine⟨h.put (.im 0) (RDE K (Bs.flatten++Z++[])),Bs,Z,⟨hB,by rw[p.length_eq]; omega,o⟩,p.append_left _,?_,?_⟩
   ·rw[List.append_nil]; exact Heap.zput_self hg (λe=>by cases e)
   ·have t:(n:Int)<((Bs.flatten.length+20:Nat):Int):=by omega
    rw[K.wT_1,gT_1];simp (maxSteps:=9999999) +contextual only[exa,rA,rB,rC,rD,rE,rF,rG,rH,rI,t,if_false];rw[K.wT_2,gT_2];simp (maxSteps:=9999999) +contextual only[exa,rA,rB,rC,rD,rE,rF,rG,rH,rI,c]
theorem stb4(n:Nat)(hn:n<=1000)(s:Nat)(hs:1<=s)(hs2:s<=1000)(T:List α)(hT:T.length<s)(oT:Ord (ltK K) T):∀ (m:Nat) (Ds Bs:List (List α)) (h:Heap),Bs.length<=m->(∀ B∈Ds,B.length=2*s/\Ord (ltK K) B)->(∀ B∈Bs,B.length=s/\Ord (ltK K) B)->(Ds.flatten++Bs.flatten++T).length=n->h.get (.im 0)=some (RDE K (Ds.flatten++Bs.flatten++T)) ->
  ∃ h' Bs' T',BlkE K (2*s) Bs' T'/\(Bs'.flatten++T').Perm (Ds.flatten++Bs.flatten++T)/\h'.get (.im 0)=some (RDE K (Bs'.flatten++T'))/\lim tab.get S K.fT 1 4 [sK K n,kI (n:Int),(fF K),kI (s:Int),kI (Ds.flatten.length:Int),kI ((Ds.flatten.length+2*s:Nat):Int)] h=lim tab.get S K.fT 1 6 [sK K n,kI (n:Int),(fF K),kI (s:Int)] h'
 |m,Ds,B1::B2::Bs,h,hm,hD,hB,hl,hg=>by
  cases m with
  |zero=>simp at hm
  |succ m =>
   obtain⟨l1,o1⟩:=hB B1 (by simp);obtain⟨l2,o2⟩:=hB B2 (by simp);have hl':Ds.flatten.length+(s+(s+Bs.flatten.length))+T.length=n:=by rw[<- hl]; simp only[List.length_append,List.flatten_cons,l1,l2]
   have ea:Ds.flatten++(B1::B2::Bs).flatten++T=Ds.flatten++B1++B2++(Bs.flatten++T):=by simp
   rw[ea] at hl hg;obtain⟨Z,M,e⟩:=qG3 n hn (s+s) B1 B2 Ds.flatten (Bs.flatten++T) (by omega) (by omega) (by omega) o1 o2 hl;rw[l1,l2] at e;have c:=λ{β:Type} {k:TVal->Heap->Option β} {d:Nat}=>qLo (k:=k) (d:=d) n _ _ _ _ _ e hg
   have lZ:Z.length=2*s:=by rw[M.len]; omega
   have ef:(Ds++[Z]).flatten=Ds.flatten++Z:=by simp
   obtain⟨h',Bs',T',b,p',g',e'⟩:=stb4 n hn s hs hs2 T hT oT m (Ds++[Z]) Bs (h.put (.im 0) (RDE K (Ds.flatten++Z++(Bs.flatten++T)))) (by simp at hm; omega) (λB hb=>by
    rcases List.mem_append.1 hb with hb|hb
    ·exact hD B hb
    ·rw[List.mem_singleton.1 hb]; exact⟨lZ,M.ord⟩) (λB hb=>hB B (by simp[hb])) (by rw[ef,<- hl]; simp only[List.length_append,lZ,l1,l2]; omega) (by rw[ef,List.append_assoc (Ds.flatten++Z)]; exact Heap.zput_self hg (λe=>by cases e))
   refine⟨h',Bs',T',b,p'.trans ?_,g',?_⟩
   ·rw[ef,ea,List.append_assoc Ds.flatten B1 B2,List.append_assoc (Ds.flatten++Z)];exact(M.prm.append_left Ds.flatten).append_right _
   ·rw[ef,List.length_append,lZ] at e';rw[<- e',K.wT_4,gT_4];have t:¬ (n:Int)<((Ds.flatten.length+2*s:Nat):Int):=by omega
    have e1:IntKind.i64.wrap ((Ds.flatten.length:Int)+(s:Int))=((Ds.flatten.length+s:Nat):Int):=qAl _ _ (by omega) (by omega);have e2:=qFD s (by omega);have e3:IntKind.i64.wrap (((Ds.flatten.length+2*s:Nat):Int)+((2*s:Nat):Int))=((Ds.flatten.length+2*s+2*s:Nat):Int):=qAl _ _ (by omega) (by omega);have e4:Ds.flatten.length+s+s=Ds.flatten.length+2*s:=by omega
    rw[e4] at c;simp (maxSteps:=9999999) +contextual only[exa,rA,rB,rC,rD,rE,rF,rG,rH,rI,exW,exY,t,c,e1,e2,e3,if_false,oneOf]
 |m,Ds,[B],h,hm,hD,hB,hl,hg=>by
  obtain⟨l1,o1⟩:=hB B (by simp);have eb:[B].flatten=B:=by simp
  rw[eb] at hl hg ⊢;have hl':Ds.flatten.length+s+T.length=n:=by rw[<- hl]; simp only[List.length_append,l1]
  have t:(n:Int)<((Ds.flatten.length+2*s:Nat):Int):=by omega
  have e1:IntKind.i64.wrap ((Ds.flatten.length:Int)+(s:Int))=((Ds.flatten.length+s:Nat):Int):=qAl _ _ (by omega) (by omega);by_cases hx:1<=T.length
  ·have ea:Ds.flatten++B++T=Ds.flatten++B++T++[]:=by rw[List.append_nil]
   rw[ea] at hl hg;obtain⟨Z,M,e⟩:=qG3 n hn (s+s) B T Ds.flatten [] (by omega) (by omega) hx o1 oT hl;rw[l1,hl'] at e;have c:=λ{β:Type} {k:TVal->Heap->Option β} {d:Nat}=>qLo (k:=k) (d:=d) n _ _ _ _ _ e hg
   refine⟨h.put (.im 0) (RDE K (Ds.flatten++Z++[])),Ds,Z,⟨hD,by rw[M.len]; omega,M.ord⟩,?_,?_,?_⟩
   ·rw[List.append_assoc Ds.flatten B T]; exact M.prm.append_left _
   ·rw[List.append_nil]; exact Heap.zput_self hg (λe=>by cases e)
   ·have t2:((Ds.flatten.length+s:Nat):Int)<(n:Int):=by omega
    rw[K.wT_4,gT_4];simp (maxSteps:=9999999) +contextual only[exa,rA,rB,rC,rD,rE,rF,rG,rH,rI,t,if_false];rw[K.wT_5,gT_5];simp (maxSteps:=9999999) +contextual only[exa,rA,rB,rC,rD,rE,rF,rG,rH,rI,e1,t2,c]
  ·have et:T=[]:=List.length_eq_zero_iff.1 (by omega);refine⟨h,Ds,B,⟨hD,by omega,o1⟩,by rw[et,List.append_nil],by rw[hg,et,List.append_nil],?_⟩;have t2:¬ ((Ds.flatten.length+s:Nat):Int)<(n:Int):=by omega
   rw[K.wT_4,gT_4];simp (maxSteps:=9999999) +contextual only[exa,rA,rB,rC,rD,rE,rF,rG,rH,rI,t,if_false];rw[K.wT_5,gT_5];simp (maxSteps:=9999999) +contextual only[exa,rA,rB,rC,rD,rE,rF,rG,rH,rI,e1,t2,if_false]
 |m,Ds,[],h,hm,hD,hB,hl,hg=>by
  have eb:([]:List (List α)).flatten=[]:=rfl;rw[eb,List.append_nil] at hl hg;have hl':Ds.flatten.length+T.length=n:=by rw[<- hl]; simp only[List.length_append]
  have t:(n:Int)<((Ds.flatten.length+2*s:Nat):Int):=by omega
  have e1:IntKind.i64.wrap ((Ds.flatten.length:Int)+(s:Int))=((Ds.flatten.length+s:Nat):Int):=qAl _ _ (by omega) (by omega);refine⟨h,Ds,T,⟨hD,by omega,oT⟩,by rw[eb,List.append_nil],hg,?_⟩;have t2:¬ ((Ds.flatten.length+s:Nat):Int)<(n:Int):=by omega
  rw[K.wT_4,gT_4];simp (maxSteps:=9999999) +contextual only[exa,rA,rB,rC,rD,rE,rF,rG,rH,rI,t,if_false];rw[K.wT_5,gT_5];simp (maxSteps:=9999999) +contextual only[exa,rA,rB,rC,rD,rE,rF,rG,rH,rI,e1,t2,if_false]
theorem stb3(n:Nat)(hn:n<=1000):∀ (m s:Nat) (Bs:List (List α)) (T:List α) (h:Heap),n - s<=m->1<=s->BlkE K s Bs T->(Bs.flatten++T).length=n->h.get (.im 0)=some (RDE K (Bs.flatten++T))->s<=2000 ->
  ∃ Z,Ord (ltK K) Z/\Z.Perm (Bs.flatten++T)/\lim tab.get S K.fT 1 3 [sK K n,kI (n:Int),(fF K),kI (s:Int)] h=some (.tup [],[RDE K Z])
 |m,s,Bs,T,h,hm,hs,b,hl,hg,hs2=>by
  have fl:=qCW s Bs (λB hB=>(b.all B hB).1);have hl':s*Bs.length+T.length=n:=by rw[<- hl,List.length_append,fl]
  by_cases hc:s<n
  ·cases m with
   |zero=>omega
   |succ m =>
    obtain⟨h',Bs',T',b',p',g',e'⟩:=stb4 n hn s hs (by omega) T b.len b.ord Bs.length [] Bs h (Nat.le_refl _) (λB hB=>by cases hB) b.all (by simpa using hl) (by simpa using hg);have p'':(Bs'.flatten++T').Perm (Bs.flatten++T):=by simpa using p'
    obtain⟨Z,o,p,e⟩:=stb3 n hn m (2*s) Bs' T' h' (by omega) (by omega) b' (by rw[p''.length_eq,hl]) g' (by omega);refine⟨Z,o,p.trans p'',?_⟩;have t:(s:Int)<(n:Int):=by omega
    have e2:=qFD s (by omega);have e3:=qIS s (by omega);rw[<- e];rw[K.wT_6,gT_6,qDA,e3] at e';have z:(([]:List (List α)).flatten.length:Int)=0:=rfl;have z2:((([]:List (List α)).flatten.length+2*s:Nat):Int)=((2*s:Nat):Int):=by rw[List.flatten_nil,List.length_nil,Nat.zero_add]
    rw[z,z2] at e';rw[K.wT_3,gT_3];simp (maxSteps:=9999999) +contextual only[exa,rA,rB,rC,rD,rE,rF,rG,rH,rI,t,e2];exact e'
  ·have t:¬ (s:Int)<(n:Int):=by omega
   have fin:=qAP true [] _ rfl hg (qAB _ 0);refine⟨Bs.flatten++T,?_,.refl _,?_⟩
   ·match Bs,b,hl',hl,fl with
    |[],b,_,_,_=>simpa using b.ord
    |[B],b,hl',_,_ =>
     have:T=[]:=List.length_eq_zero_iff.1 (by rw[List.length_singleton,Nat.mul_one] at hl'; omega);rw[this]
     simpa using (b.all B (by simp)).2
    |B::B2::Bs,b,hl',_,_ =>
     rw[List.length_cons,List.length_cons,Nat.mul_succ,Nat.mul_succ] at hl';omega
   ·rw[K.wT_3,gT_3];simp (maxSteps:=9999999) +contextual only[exa,rA,rB,rC,rD,rE,rF,rG,rH,rI,t,fin,if_false,oneOf]
theorem qLS(n:Nat)(hn:n<=1000)(l:List α)(hl:l.length=n):∃ Z,Ord (ltK K) Z/\Z.Perm l/\Om K.fT [sK K n,kI (n:Int),(fF K)] [RDE K l]=some (.tup [],[RDE K Z]):=by
 obtain⟨h',Bs',T,b,p',g',e'⟩:=stb1 n hn l.length [] l (hpE K l) (Nat.le_refl _) (λB hB=>by cases hB) (by simpa using hl) rfl;have p'':(Bs'.flatten++T).Perm l:=by simpa using p'
 obtain⟨Z,o,p,e⟩:=stb3 n hn n 20 Bs' T h' (by omega) (by omega) b (by rw[p''.length_eq,hl]) g' (by omega);refine⟨Z,o,p.trans p'',(qAD (K.nT _ _)).trans ?_⟩;show lim tab.get S K.fT 1 0 [sK K n,kI (n:Int),(fF K)] (hpE K l)=_;rw[K.wT_0,gT_0];exact e'.trans e
theorem qKV(n:Nat)(hn:n<=1000)(l:List α)(hl:l.length=n):∃ Z,Ord (ltK K) Z/\Z.Perm l/\Om K.fE [sK K n,(fF K)] [RDE K l]=some (.tup [],[RDE K Z]):=by
 obtain⟨Z,o,p,e⟩:=qLS n hn l hl;refine⟨Z,o,p,(qAD (K.nE _ _)).trans ?_⟩;show lim tab.get S K.fE 1 0 [sK K n,(fF K)] (hpE K l)=_;have hg:(hpE K l).get (.im 0)=some (RDE K l):=rfl;have fin:=qAP true [] _ rfl (Heap.zput_self (o:=RDE K Z) hg (λe=>by cases e)) (qAB _ 0);have c:=λ{β:Type} {k:TVal->Heap->Option β} {d:Nat}=>qAh (O:=Om) (k:=k) (d:=d) K.fT (.im 0) [sK K n,kI (n:Int),(fF K)] _ _ _ (.tup []) rfl rfl rfl hg (qAB _ 0) (qAB _ 0) (λ_=>rfl) e
 rw[K.wE_0,gE_0,qCP];refine c.trans ?_;exact fin
end
section
variable {α:Type}
noncomputable def srtK(K:SK α)(l:List α):List α:=if h:l.length<=1000 then Classical.choose (qKV l.length h l rfl) else l
theorem qT7(K:SK α)(l:List α)(h:l.length<=1000):Ord (ltK K) (srtK K l)/\(srtK K l).Perm l/\Om K.fE [sK K l.length,(fF K)] [RDE K l]=some (.tup [],[RDE K (srtK K l)]):=by
 unfold srtK;rw[dif_pos h];exact Classical.choose_spec (qKV l.length h l rfl)
theorem qUB(K:SK α)(l:List α):(srtK K l).Perm l:=by
 by_cases h:l.length<=1000
 ·exact(qT7 K l h).2.1
 ·unfold srtK; rw[dif_neg h]
end
abbrev SKE:SK (List UInt8×TT) where
 z:=5
 row:=λp=>eRow p.1 p.2
 hrow:=λp=>qA0 p.1 p.2
 key:=λp=>p.1
 F:=88
 fI:=148
 fM:=149
 fR:=164
 fS:=170
 fT:=123
 fE:=87
 cmp:=qSu
 nI:=λ_ _=>rfl
 nM:=λ_ _=>rfl
 nR:=λ_ _=>rfl
 nS:=λ_ _=>rfl
 nT:=λ_ _=>rfl
 nE:=λ_ _=>rfl
 wI_0:=w148_0 S
 wI_1:=w148_1 S
 wI_2:=w148_2 S
 wI_3:=w148_3 S
 wM_0:=w149_0 S
 wM_1:=w149_1 S
 wM_2:=w149_2 S
 wM_3:=w149_3 S
 wM_4:=w149_4 S
 wM_5:=w149_5 S
 wM_6:=w149_6 S
 wM_7:=w149_7 S
 wM_8:=w149_8 S
 wM_9:=w149_9 S
 wM_10:=w149_10 S
 wM_11:=w149_11 S
 wM_12:=w149_12 S
 wM_13:=w149_13 S
 wM_14:=w149_14 S
 wM_15:=w149_15 S
 wR_0:=w164_0 S
 wR_1:=w164_1 S
 wR_2:=w164_2 S
 wS_0:=w170_0 S
 wS_1:=w170_1 S
 wT_0:=w123_0 S
 wT_1:=w123_1 S
 wT_2:=w123_2 S
 wT_3:=w123_3 S
 wT_4:=w123_4 S
 wT_5:=w123_5 S
 wT_6:=w123_6 S
 wE_0:=w87_0 S
def ltE(p q:List UInt8×TT):Bool:=bless p.1 q.1
theorem qBQ(p q:List UInt8×TT)(h:ltE p q=true):ltE q p=false:=qDt _ _ h
theorem qAe(p q r:List UInt8×TT)(h1:ltE q p=false)(h2:ltE r q=false):ltE r p=false:=qEg p.1 q.1 r.1 h1 h2
noncomputable def sortedM(l:Es):Es:=srtK SKE l
theorem qC4(l:Es)(h:l.length<=1000):Ord ltE (sortedM l)/\(sortedM l).Perm l/\Om 87 [sE0 l.length,F88] [.cells (pcells (eRows l)) 0]=some (.tup [],[.cells (pcells (eRows (sortedM l))) 0]):=qT7 SKE l h
theorem qBX(l:Es):(sortedM l).Perm l:=qUB SKE l
theorem qGm(l:Es):(sortedM l).length=l.length:=(qBX l).length_eq
end Go.Proofs.YtnlmlcfipbnpgaaDoor.Ab
namespace Go.AI
theorem qRF{h:Heap}(vs:List Comp)(o:AObj)(hv:vs.all compPT=true)(hg:h.get (.im 0)=some o)(ho:plainO o):vfin true 1 vs h=some (oneOf (vs.map Comp.strip),[o]):=by
 letI:Sym:=⟨λ_=>0⟩
 rw[qCL];obtain⟨e1,e2⟩:=qFR h vs hv;have ef:freezeT h (oneOf vs)=some (oneOf (vs.map Comp.strip),[]):=by
  match vs,hv,e1,e2 with
  |[],_,_,_=>rfl
  |[x],hv,_,_ =>
   rw[List.all_cons,Bool.and_eq_true] at hv;show(freezeC h x).map _=_;rw[(qD2 h x hv.1).1]; rfl
  |x::y::vs,_,e1,_ =>
   show((x::y::vs).mapM (freezeC h)).map _=_;rw[e1];show some (TVal.tup (((x::y::vs).map λx=>(x.strip,([]:List Ref))).map (·.1)),((x::y::vs).map λx=>(x.strip,([]:List Ref))).flatMap (·.2))=_
   congr 2
   ·rw[List.map_map]; rfl
   ·generalize (x::y::vs)=l
    induction l with
    |nil=>rfl
    |cons a l ih=>rw[List.map_cons,List.flatMap_cons,ih]; rfl
 obtain⟨q1,q2,q3,q4⟩:=qAk (qDj e2);unfold finV;rw[show ims 1=[Ref.im 0] from rfl];simp[ef,settle,hg,ho.1,q1,q3,reach,fuelReach,ho.2]
end Go.AI
namespace Go.Proofs.YtnlmlcfipbnpgaaDoor.Ab
open Go Go.AI
def kRow(p:List UInt8×TT):List PVal:=sRow p.1
def vRow(p:List UInt8×TT):List PVal:=p.2.row
abbrev q3:TVal := .v (.c (.ptr (.own 3 1) 0))
abbrev q6:TVal := .v (.c (.ptr (.own 6 1) 0))
abbrev q7:TVal := .v (.c (.ptr (.own 7 1) 0))
abbrev q8:TVal := .v (.c (.ptr (.own 8 1) 0))
abbrev sE1(n:Nat):TVal := .v (.c (.sref (.im 1) 0 n none 5))
structure TS (h:Heap) (L:List Tok) (s:RS) (kd:Int) (l:Es) (i:Nat):Prop where
 g0:h.get (.im 0)=some (rO L s)
 g1:h.get (.im 1)=some (.cells (pcells (eRows l)) 0)
 o3:h.get (.own 3 1)=some (boxO 0)
 o6:h.get (.own 6 1)=some (.cells z4 0)
 o7:h.get (.own 7 1)=some (.cells [.sref (.im 1) 0 l.length none 5] 0)
 o8:∃ K E,h.get (.own 8 1)=some (.cells [.p (.int .i64 kd),.p (.str []),K,E] 0)/\(GS [56] 1 K ((l.take i).map kRow) h/\Bears 1 K ((l.take i).map kRow))/\GS [62] 4 E ((l.take i).map vRow) h/\Bears 4 E ((l.take i).map vRow)
theorem qEO{α β:Type}(f:α->β)(l:List α)(i:Nat)(a:α)(h:l[i]?=some a):(l.take (i+1)).map f=(l.take i).map f++[f a]:=by
 rw[List.take_add_one,h,List.map_append]; rfl
def adjM(l:Es):Nat->Bool
 |0=>false
 |j+1=>match l[j]?,l[j+1]? with
  |some q,some p=>decide (q.1=p.1)
  |_,_=>false
theorem qQI{h:Heap}{L:List Tok}{s:RS}{kd:Int}{l:Es}{i:Nat}(A:TS h L s kd l i)(p:List UInt8×TT)(hp:l[i]?=some p)(hl:l.length<=1000) :
  ∃ h',TS h' L { s with tw:=s.tw||adjM l i } kd l (i+1)/\lim tab.get S 57 1 1 [q3,q6,q7,q8,sE1 l.length,kI (l.length:Int),kI (i:Int)] h=lim tab.get S 57 1 1 [q3,q6,q7,q8,sE1 l.length,kI (l.length:Int),kI ((i+1:Nat):Int)] h':=by
 obtain⟨K,E,o8,⟨GK,BK⟩,GE,BE⟩:=A.o8;have hi:i<l.length:=(List.getElem?_eq_some_iff.1 hp).1;have lt:(i:Int)<(l.length:Int):=by omega
 have tl:(l.take i).length<=1000:=by simp; omega
 have gp:=qDV l i p hp;have pp:(pcells (eRow p.1 p.2)).length=5:=by rw[qAN,qA0]
 have PA:put1 z5 0 (pcells (eRow p.1 p.2))=pcells (eRow p.1 p.2):=qBA _ _ (by rw[pp]; rfl);generalize hb:(s.tw||adjM l i)=b;generalize hH1:(h.own 10 (h.gen 10+1) (.cells z5 0)).own 10 (h.gen 10+1) (.cells (pcells (eRow p.1 p.2)) 0)=H1;have k1:∀ (d:Nat) (o:AObj),d≠10->h.get (.own d 1)=some o->H1.get (.own d 1)=some o:=λd o hd ho=>by rw[<- hH1,Heap.own_get_ne _ _ _ _ _ _ (Ne.symm hd),Heap.own_get_ne _ _ _ _ _ _ (Ne.symm hd),ho]
 have H1i:∀ j,H1.get (.im j)=h.get (.im j):=λj=>by rw[<- hH1]; rfl
 have a0:H1.get (.im 0)=some (rO L s):=(H1i 0).trans A.g0;have a1:H1.get (.im 1)=some (.cells (pcells (eRows l)) 0):=(H1i 1).trans A.g1;have a3:=k1 3 _ (by decide) A.o3;have a7:=k1 7 _ (by decide) A.o7;have a8:=k1 8 _ (by decide) o8;have a10:H1.get (.own 10 (h.gen 10+1))=some (.cells (pcells (eRow p.1 p.2)) 0):=by rw[<- hH1]; exact Heap.own_get _ _ _ _ (by decide) (λe=>by cases e)
 generalize hH2:H1.put (.im 0) (rO L { s with tw:=b })=H2;have b0:H2.get (.im 0)=some (rO L { s with tw:=b }):=by rw[<- hH2]; exact Heap.zput_self a0 (λe=>by cases e)
 have b1:H2.get (.im 1)=some (.cells (pcells (eRows l)) 0):=by rw[<- hH2]; exact(Heap.zput_ne a0 (by decide)).trans a1
 have ko:∀ d g,H2.get (.own d g)=H1.get (.own d g):=λd g=>by rw[<- hH2]; rfl
 have b8:H2.get (.own 8 1)=some (.cells [.p (.int .i64 kd),.p (.str []),K,E] 0):=(ko 8 1).trans (k1 8 _ (by decide) o8);have b10:H2.get (.own 10 (h.gen 10+1))=some (.cells (pcells (eRow p.1 p.2)) 0):=(ko 10 _).trans a10;have GK2:GS [56] 1 K ((l.take i).map kRow) H2:=by
  rw[<- hH2,<- hH1]; exact((GK.own _ _ (by decide)).own _ _ (by decide)).keep λ_ _ _ hh=>hh
 have GE2:GS [62] 4 E ((l.take i).map vRow) H2:=by
  rw[<- hH2,<- hH1]; exact((GE.own _ _ (by decide)).own _ _ (by decide)).keep λ_ _ _ hh=>hh
 obtain⟨c1,h1,t1,G1,e1,T1,K1,I1',X1⟩:=qML (h:=H2) (d:=56) (D:=[56]) (sz:=1) (by':=16) (new:=[[.str p.1]]) (b := .slice 1 true [[.str p.1]]) (.inr ⟨true,rfl⟩) GK2 (by decide) (λr hr=>by simp at hr; rw[hr]; rfl) (by simp; omega) (by decide);have GE3:GS [62] 4 E ((l.take i).map vRow) h1:=GE2.keep λe he g hh=>K1 e g _ (by revert he; simp; omega) hh
 obtain⟨c2,h2,t2,G2,e2,T2,K2,I2',X2⟩:=qML (h:=h1) (d:=62) (D:=[62]) (sz:=4) (by':=72) (new:=[p.2.row]) (b := .slice 4 true [p.2.row]) (.inr ⟨true,rfl⟩) GE3 (by decide) (λr hr=>by simp at hr; rw[hr]; exact TT.row_len _) (by simp; omega) (by decide);have G1':=G1.keep (h':=h2) λe he g hh=>K2 e g _ (by revert he; simp; omega) hh
 have k8:=K1 8 1 _ (by decide) b8;have k10:=K1 10 _ _ (by decide) b10;have k82:=K2 8 1 _ (by decide) k8;have B1:∀ {β:Type}{O:Oracle}{h:Heap}{d:Nat}{kt:TVal->Heap->AI.Touch->Option β},vtouch O (.bslice 1 1 [.p (.str [])] [(0,.k (kS p.1))] false) h d kt=kt (kSl 1 true [[.str p.1]]) h noTouch:=qMZ _ _ rfl;have B2:∀ {β:Type}{O:Oracle}{h:Heap}{d:Nat}{kt:TVal->Heap->AI.Touch->Option β},vtouch O (.bslice 4 1 z4 [(0,.k (.v (.agg (pcells p.2.row))))] false) h d kt=kt (kSl 4 true [p.2.row]) h noTouch:=qLb 4 _ _ rfl (TT.row_len p.2);have A1:AI.Touch.apart t1 ⟨[(Ref.own 8 1).site],[],false⟩=true:=qEe T1 8 (by decide);have A2:AI.Touch.apart t1 ⟨[(Ref.own 10 (h.gen 10+1)).site],[],false⟩=true:=qEe T1 10 (by decide);have R1:(pcells (eRow p.1 p.2))[0]?=some (.p (.str p.1)):=rfl;have R2:((pcells (eRow p.1 p.2)).drop 1).take 4=pcells p.2.row:=by
  show(pcells p.2.row).take 4=_;exact List.take_of_length_le (Nat.le_of_eq (by rw[qAN,TT.row_len]))
 have R3:(pcells p.2.row).length=4:=by rw[qAN,TT.row_len]
 have P1:∀ a b d:Cell,put1 [a,b,K,d] 2 [c1]=[a,b,c1,d]:=λ_ _ _=>rfl
 have P2:∀ a b:Cell,put1 [a,b,c1,E] 3 [c2]=[a,b,c1,c2]:=λ_ _=>rfl
 have P3:∀ a b c d x:Cell,put1 [a,b,c,d] 3 [x]=[a,b,c,x]:=λ_ _ _ _ _=>rfl
 refine⟨(h2.own 8 1 (.cells [.p (.int .i64 kd),.p (.str []),c1,E] 0)).own 8 1 (.cells [.p (.int .i64 kd),.p (.str []),c1,c2] 0),?_,?_⟩
 ·have mk:=qEO kRow l i p hp;have mv:=qEO vRow l i p hp;obtain⟨r1,er1⟩:=X1 (.inl (by simp));obtain⟨r2,er2⟩:=X2 (.inl (by simp));have own2:∀ (d:Nat) (o x y:AObj),d≠8->d∉[56]->d∉[62]->d≠10->h.get (.own d 1)=some o->((h2.own 8 1 x).own 8 1 y).get (.own d 1)=some o:=λd o x y hd h56 h62 h10 ho=>by
   rw[Heap.own_get_ne _ _ _ _ _ _ (Ne.symm hd),Heap.own_get_ne _ _ _ _ _ _ (Ne.symm hd)];exact K2 d 1 _ h62 (K1 d 1 _ h56 ((ko d 1).trans (k1 d _ h10 ho)))
  refine⟨?_,?_,own2 3 _ _ _ (by decide) (by decide) (by decide) (by decide) A.o3,own2 6 _ _ _ (by decide) (by decide) (by decide) (by decide) A.o6,own2 7 _ _ _ (by decide) (by decide) (by decide) (by decide) A.o7,c1,c2,Heap.own_get _ 8 1 _ (by decide) (λe=>by cases e),?_,?_⟩
  ·exact(I2' 0).trans ((I1' 0).trans b0)
  ·exact(I2' 1).trans ((I1' 1).trans b1)
  ·rw[mk];exact⟨(G1'.own 1 _ (by decide)).own 1 _ (by decide),.inr ⟨by simp,r1,er1⟩⟩
  ·rw[mv];exact⟨(G2.own 1 _ (by decide)).own 1 _ (by decide),.inr ⟨by simp,r2,er2⟩⟩
 ·have AB:∀ (T:AI.Touch),AI.Touch.apart noTouch noTouch=true:=λ_=>rfl
  rw[w57_1,b57_1];cases ht:s.tw with
  |true =>
   rw[ht,Bool.true_or] at hb;subst hb;simp (maxSteps:=9999999) +contextual only[exa,rA,rB,rC,rD,rE,rF,rG,rH,rI,exW,exY,lt,hi,A.g1,gp,pp,PA,Int.toNat_natCast,hH1,hH2,a0,a3,A.o3,A.o7,A.g0,a7,a1,a8,a10,ht,b8,b10,k8,k10,k82,e1,e2,qAv,B1,B2,A1,A2,R1,R2,R3,P1,P2,P3,qBq i (by omega),Nat.le_refl,oneOf]
  |false =>
   rw[ht,Bool.false_or] at hb;cases i with
   |zero =>
    have hb':b=false:=hb.symm;subst hb';have z:¬ (0:Int)<((0:Nat):Int):=by decide
    rw[Nat.zero_mul,List.drop_zero] at gp;have w0:IntKind.i64.wrap (((0:Nat):Int)+1)=((0+1:Nat):Int):=by decide
    simp (maxSteps:=9999999) +contextual only[exa,rA,rB,rC,rD,rE,rF,rG,rH,rI,exW,exY,lt,hi,A.g1,gp,pp,PA,Int.toNat_natCast,hH1,hH2,a0,a3,A.o3,A.o7,A.g0,a7,a1,a8,a10,ht,b8,b10,k8,k10,k82,e1,e2,qAv,B1,B2,A1,A2,R1,R2,R3,P1,P2,P3,z,w0,Nat.zero_mul,Nat.le_refl,oneOf]
   |succ j =>
    obtain⟨q,hq⟩:∃ q,l[j]?=some q:=⟨l[j]'(by omega),by simp⟩;have gq:=qDV l j q hq;have gq0:(pcells (eRows l))[j*5]?=some (.p (.str q.1)):=by
     have:(((pcells (eRows l)).drop (j*5)).take 5)[0]?=(pcells (eRows l))[j*5]?:=by
      rw[List.getElem?_take,if_pos (by decide),List.getElem?_drop,Nat.add_zero]
     rw[<- this,gq]; rfl
    have z:(0:Int)<((j+1:Nat):Int):=by omega
    have ew:IntKind.i64.wrap (((j+1:Nat):Int) - 1)=((j:Nat):Int):=by rw[qAL _ (by omega) (by omega)]; omega
    have t3:(0:Int)<=((j:Nat):Int):=by omega
    have t5:j<l.length:=by omega
    have ha:adjM l (j+1)=decide (q.1=p.1):=by
     show(match l[j]?,l[j+1]? with|some q,some p=>decide (q.1=p.1)|_,_=>false)=_;rw[hq,hp]
    rw[ha] at hb;by_cases hk:q.1=p.1
    ·rw[decide_eq_true hk] at hb;subst hb;simp (maxSteps:=9999999) +contextual only[exa,rA,rB,rC,rD,rE,rF,rG,rH,rI,exW,exY,lt,hi,A.g1,gp,pp,PA,Int.toNat_natCast,hH1,hH2,a0,a3,A.o3,A.o7,A.g0,a7,a1,a8,a10,ht,b8,b10,k8,k10,k82,e1,e2,qAv,B1,B2,A1,A2,R1,R2,R3,P1,P2,P3,z,ew,t3,t5,gq0,hk,qBq (j+1) (by omega),Nat.le_refl,oneOf]
    ·rw[decide_eq_false hk] at hb;subst hb;simp (maxSteps:=9999999) +contextual only[exa,rA,rB,rC,rD,rE,rF,rG,rH,rI,exW,exY,lt,hi,A.g1,gp,pp,PA,Int.toNat_natCast,hH1,hH2,a0,a3,A.o3,A.o7,A.g0,a7,a1,a8,a10,ht,b8,b10,k8,k10,k82,e1,e2,qAv,B1,B2,A1,A2,R1,R2,R3,P1,P2,P3,z,ew,t3,t5,gq0,hk,qBq (j+1) (by omega),Nat.le_refl,oneOf]
def twM(l:Es)(b:Bool):Nat->Bool
 |0=>b
 |i+1=>twM l b i||adjM l i
theorem qI0{L:List Tok}{s:RS}{kd:Int}{l:Es}(hl:l.length<=1000):∀ (m i:Nat) (h:Heap),i+m=l.length->TS h L { s with tw:=twM l s.tw i } kd l i ->
  ∃ h',TS h' L { s with tw:=twM l s.tw l.length } kd l l.length/\lim tab.get S 57 1 1 [q3,q6,q7,q8,sE1 l.length,kI (l.length:Int),kI (i:Int)] h=lim tab.get S 57 1 2 [q6,q8] h'
 |0,i,h,hi,A=>by
  have hi:i=l.length:=by omega
  subst hi;refine⟨h,A,?_⟩;have lt:¬ (l.length:Int)<(l.length:Int):=by omega
  rw[w57_1,b57_1];simp (maxSteps:=9999999) +contextual only[exa,rA,rB,rC,rD,rE,rF,rG,rH,rI,lt,if_false]
 |m+1,i,h,hi,A=>by
  obtain⟨p,hp⟩:∃ p,l[i]?=some p:=⟨l[i]'(by omega),by simp⟩;obtain⟨h1,A1,e1⟩:=qQI A p hp hl;obtain⟨h2,A2,e2⟩:=qI0 (L:=L) (s:=s) (kd:=kd) hl m (i+1) h1 (by omega) A1;exact⟨h2,A2,e1.trans e2⟩
def recT(kd:Int)(l:Es):TT := .mk kd [] (grown (l.map (·.1))) (grown (l.map (·.2)))
theorem qPo(kd:Int)(l:Es):(recT kd l).row=[.int .i64 kd,.str [],growP 1 (l.map kRow),growP 4 (l.map vRow)]:=by
 have e1:growP 1 (l.map kRow)=slP 1 sRow (grown (l.map (·.1))):=by
  rw[<- qEU,List.map_map]; rfl
 have e2:growP 4 (l.map vRow)=slP 4 TT.row (grown (l.map (·.2))):=by
  rw[<- qEU,List.map_map]; rfl
 rw[e1,e2];unfold recT;rw[TT.row_eq];rfl
theorem qRW{h:Heap}{L:List Tok}{s:RS}{kd:Int}{l:Es}(A:TS h L s kd l l.length):lim tab.get S 57 1 2 [q6,q8] h=some (kA (recT kd l).row,[rO L s]):=by
 obtain⟨K,E,o8,⟨GK,BK⟩,GE,BE⟩:=A.o8;rw[List.take_length] at BK BE;have P:∀ a b c d:Cell,put1 z4 0 [a,b,c,d]=[a,b,c,d]:=λ_ _ _ _=>qBA _ _ rfl
 have fin:∀ h:Heap,h.get (.im 0)=some (rO L s)->vfin true 1 [.agg [.p (.int .i64 kd),.p (.str []),K,E]] h=some (kA (recT kd l).row,[rO L s]):=by
  intro h hg;rw[qRF _ (rO L s) (by show([Cell.p (.int .i64 kd),.p (.str []),K,E].all isPT&&true)=true; simp only[List.all_cons,List.all_nil,BK.pt,BE.pt]; rfl) hg (qAC L s)];show some (TVal.v (.agg [.p (.int .i64 kd),.p (.str []),K.strip,E.strip]),_)=_;rw[BK.strip,BE.strip,qPo];rfl
 rw[w57_2,b57_2];simp (maxSteps:=9999999) +contextual only[exa,rA,rB,rC,rD,rE,rF,rG,rH,rI,exW,exY,o8,A.o6,P,Nat.le_refl,oneOf];exact fin _ A.g0
def opnM(L:List Tok)(s:RS):RS:=mustM (takeM 4 L s [123]) (isM 4 L s [123])
theorem qGw{L:List Tok}{s:RS}(h:s.p<=L.length):(opnM L s).p<=L.length:=by
 unfold opnM;rw[qBS];unfold takeM;split
 ·rename_i hi;have:=(qBC (by decide) hi).2;show s.p+1<=_; omega
 ·exact h
theorem qK7:sortedM []=[]:=List.perm_nil.1 (qBX [])
noncomputable def recdM(sub:RS->TT×RS)(L:List Tok)(kd:Int)(s:RS):TT×RS :=
 (recT kd (sortedM (rowM sub L [125] (opnM L s)).1),{ (rowM sub L [125] (opnM L s)).2 with tw:=twM (sortedM (rowM sub L [125] (opnM L s)).1) (rowM sub L [125] (opnM L s)).2.tw (sortedM (rowM sub L [125] (opnM L s)).1).length })
theorem qRI{β:Type}{O:Oracle}{k:TVal->Heap->Option β}{h:Heap}{d:Nat}(f:FuncId)(a b c:Ref):vop O (.mkfn f [.k (.v (.c (.ptr a 0))),.k (.v (.c (.ptr b 0))),.k (.v (.c (.ptr c 0)))]) h d k=k (.v (.c (.func f [a,b,c]))) h:=qAx _ _ rfl
theorem qQ0:Om 87 [.v (.c (.p .nilslice)),F88] []=some (.tup [],[]):=(qAD rfl).trans (qBt blks_ok 300 87 0 0 _ _ _ (by kernel_rfl))
theorem c87n{β:Type}{k:TVal->Heap->Option β}{h:Heap}{e:Nat}:vcall Om (.v (.c (.func 87 []))) [.v (.c (.p .nilslice)),F88] h e k=k (.tup []) h:=by
 have e2:reach h fuelReach ([TVal.v (.c (.p .nilslice)),F88].flatMap TVal.refs) []=[]:=qAc _ _;rw[qDb 87 _ _ _ [] [] [] [] (.tup []) rfl e2 rfl rfl rfl qQ0 (Nat.le_refl _)];rfl
theorem qTr{d:Int}{L:List Tok}{sub:RS->TT×RS}{okP:RS->Prop}(ok:SubOK d L sub okP)(hd:0<=d/\d<=100)(hL:L.length<=1000)(kd:Int)(s:RS)(hs:s.p<=L.length)(ro:rowOK sub okP L [125] (opnM L s))(hn:(rowM sub L [125] (opnM L s)).1.length<=1000) :
  Om 57 [P0,kI kd,kI d] [rO L s]=some (kA (recdM sub L kd s).1.row,[rO L (recdM sub L kd s).2]):=by
 refine(qAD rfl).trans ?_;show lim tab.get S 57 1 0 [P0,kI kd,kI d] (Heap.mk [rO L s] .nil)=_;have hp0:=qGw hs;have c41:∀ {β:Type}{h:Heap}{e:Nat}{kt:TVal->Heap->AI.Touch->Option β},h.get (.im 0)=some (rO L s)->vtouch Om (.call (.k (.v (.c (.func 41 [])))) [.k (.v (.c (.ptr (.im 0) 0))),.k (kS [123])]) h e kt=kt (kB (isM 4 L s [123])) (h.put (.im 0) (rO L (takeM 4 L s [123]))) ⟨[(Ref.im 0).site,(Ref.im 0).site],[(Ref.im 0).site],false⟩:=λ{β h e kt} hg =>
  qBE 41 (.im 0) (kS [123]) _ _ _ rfl rfl hg (qAC L _) (qAC L _) (qDE L _ (by omega) [123])
 have c39:∀ {β:Type}{h:Heap}{e:Nat}{kt:TVal->Heap->AI.Touch->Option β},h.get (.im 0)=some (rO L (takeM 4 L s [123]))->vtouch Om (.call (.k (.v (.c (.func 39 [])))) [.k (.v (.c (.ptr (.im 0) 0))),.k (kB (isM 4 L s [123]))]) h e kt=kt (.tup []) (h.put (.im 0) (rO L (opnM L s))) ⟨[(Ref.im 0).site,(Ref.im 0).site],[(Ref.im 0).site],false⟩:=λ{β h e kt} hg =>
  qBE 39 (.im 0) (kB (isM 4 L s [123])) _ _ _ rfl rfl hg (qAC L _) (qAC L _) (qB5 L _ _)
 unfold recdM;have hrm:=qO6 ok hd hL [125] (opnM L s) hp0 ro;have hrn:=qOg (d:=d) (sub:=sub) hL [125] (opnM L s) hp0;have hr0:isM 4 L (opnM L s) [125]=true->(rowM sub L [125] (opnM L s)).1=[]:=λe=>by unfold rowM; rw[if_pos e]
 have hr1:isM 4 L (opnM L s) [125]=false->(rowM sub L [125] (opnM L s)).1≠[]:=λe=>by
  unfold rowM;rw[if_neg (by rw[e]; decide)];have:∀ (f:Nat) (s:RS) (acc:Es),acc≠[]->(loopM sub L [125] f s acc).1≠[]:=by
   intro f
   induction f with
   |zero=>intro s acc h; exact h
   |succ f ih =>
    intro s acc h;unfold loopM;split
    ·exact ih _ _ (by simp)
    ·exact h
  exact this _ _ _ (by simp)
 generalize hr:rowM sub L [125] (opnM L s)=r at *;generalize hs0:opnM L s=s0 at *;generalize hbc:isM 4 L s [123]=bc at *;generalize hs2:takeM 4 L s [123]=s2 at *;have T:AI.Touch.apart ⟨[(Ref.own 3 1).site],[],false⟩ ⟨[(Ref.im 0).site,(Ref.im 0).site],[(Ref.im 0).site],false⟩=true:=rfl;rw[w57_0,b57_0];simp (maxSteps:=9999999) +contextual only[exa,rA,rB,rC,rD,rE,rF,rG,rH,rI,exW,exY,qRI,c41,c39,oneOf,T];generalize hh:((((((Heap.mk [rO L s] .nil).own 3 1 (.cells [.ptr (.im 0) 0] 0)).own 5 1 (.cells [.p (.int .i64 d)] 0)).own 6 1 (.cells z4 0)).own 7 1 (.cells [.p .nilslice] 0)).put (.im 0) (rO L s2)).put (.im 0) (rO L s0)=h;have F0:h.get (.im 0)=some (rO L s0):=by rw[<- hh]; rfl
 have F3:h.get (.own 3 1)=some (boxO 0):=by rw[<- hh]; rfl
 have F5:h.get (.own 5 1)=some (intO d):=by rw[<- hh]; rfl
 have F6:h.get (.own 6 1)=some (.cells z4 0):=by rw[<- hh]; rfl
 have F7:h.get (.own 7 1)=some (.cells [.p .nilslice] 0):=by rw[<- hh]; rfl
 have Fl:h.ims.length=1:=by rw[<- hh]; rfl
 have F8:h.gen 8=0:=by rw[<- hh]; rfl
 clear hh;have hreach:reach h fuelReach ([P0,kS [125],.v (.c (.func 86 [.own 3 1,.own 5 1,.own 7 1]))].flatMap TVal.refs) []=[.im 0,.own 3 1,.own 5 1,.own 7 1]:=by
  show reach h (394+1+1+1+1+1+1) [.im 0,.own 3 1,.own 5 1,.own 7 1] []=_;rw[qAK _ (.im 0) _ _ _ (by decide) F0,(qAC L s0).1];show reach h (394+1+1+1+1+1) [.own 3 1,.own 5 1,.own 7 1] [.im 0]=_;rw[qAK _ (.own 3 1) _ _ _ (by decide) F3];show reach h (394+1+1+1+1) [.im 0,.own 5 1,.own 7 1] [.im 0,.own 3 1]=_;rw[qA1 _ _ _ _ (by decide),qAK _ (.own 5 1) _ _ _ (by decide) F5];show reach h (394+1+1) [.own 7 1] [.im 0,.own 3 1,.own 5 1]=_;rw[qAK _ (.own 7 1) _ _ _ (by decide) F7];exact qAc _ _
 have hm:([.im 0,.own 3 1,.own 5 1,.own 7 1]:List Ref).mapM h.get=some [rO L s0,boxO 0,intO d,.cells [.p .nilslice] 0]:=by
  simp only[List.mapM_cons,List.mapM_nil,F0,F3,F5,F7,Option.pure_def,rL,Option.bind_some]
 have e5:([rO L s0,boxO 0,intO d,.cells [.p .nilslice] 0]:List AObj).map (AObj.ren (inn [.im 0,.own 3 1,.own 5 1,.own 7 1]))=[rO L s0,boxO 0,intO d,.cells [.p .nilslice] 0]:=by
  rw[List.map_cons,(qAC L s0).2]; rfl
 cases hx:isM 4 L s0 [125] with
 |true =>
  have hc66:=hrn hx;have h10:=hr0 hx;have e6:∀ σ:Ref->Option Ref,([rO L r.2,boxO 0,intO d,.cells [.p .nilslice] 0]:List AObj).length=4:=λ_=>rfl
  obtain⟨h1,hc,B⟩:=qBz (O:=Om) (h:=h) 66 [P0,kS [125],.v (.c (.func 86 [.own 3 1,.own 5 1,.own 7 1]))] _ [P0,kS [125],F86] _ _ _ _ _ (.tup []) rfl hreach hm rfl e5 hc66 (Nat.le_refl 4) (by decide) rfl;have G0:h1.get (.im 0)=some (rO L r.2):=B.own 0 (.im 0) _ rfl (by show some ((rO L r.2).ren _)=_; rw[(qAC L r.2).2]) (λe=>by cases e);have G3:h1.get (.own 3 1)=some (boxO 0):=B.own 1 (.own 3 1) _ rfl rfl (λe=>by cases e);have G6:h1.get (.own 6 1)=some (.cells z4 0):=B.old (.own 6 1) _ (by decide) F6;have G7:h1.get (.own 7 1)=some (.cells [.p .nilslice] 0):=B.own 3 (.own 7 1) _ rfl rfl (λe=>by cases e);have G8:h1.gen 8=0:=(B.gen 8).trans F8;rw[hc];have z:¬ (0:Int)<(0:Int):=by decide
  have P:∀ a b c d:Cell,put1 z4 0 [a,b,c,d]=[a,b,c,d]:=λ_ _ _ _=>qBA _ _ rfl
  rw[h10,qK7];simp (maxSteps:=9999999) +contextual only[exa,rA,rB,rC,rD,rE,rF,rG,rH,rI,exW,exY,G7,c87n,G8,oneOf];rw[w57_1,b57_1];simp (maxSteps:=9999999) +contextual only[exa,rA,rB,rC,rD,rE,rF,rG,rH,rI,exW,exY,z,if_false,oneOf];rw[w57_2,b57_2];simp (maxSteps:=9999999) +contextual only[exa,rA,rB,rC,rD,rE,rF,rG,rH,rI,exW,exY,G6,P,Nat.le_refl,oneOf];exact qAP true [.agg (pcells (recT kd []).row)] _ (by simp only[exP]) G0 (qAC L r.2)
 |false =>
  have hc66:=hrm hx;have hne:=hr1 hx;have hl0:1<=r.1.length:=List.length_pos_iff.2 hne;have pl:=qAB (eRows r.1) 0;have so:=qGm r.1;obtain⟨h1,hc,B⟩:=qBz (O:=Om) (h:=h) 66 [P0,kS [125],.v (.c (.func 86 [.own 3 1,.own 5 1,.own 7 1]))] _ [P0,kS [125],F86] _ _ _ _ _ (.tup []) rfl hreach hm rfl e5 hc66 (show(4:Nat)<=5 by decide) (by decide) rfl;have G0:h1.get (.im 0)=some (rO L r.2):=B.own 0 (.im 0) _ rfl (by show some ((rO L r.2).ren _)=_; rw[(qAC L r.2).2]) (λe=>by cases e);have G3:h1.get (.own 3 1)=some (boxO 0):=B.own 1 (.own 3 1) _ rfl rfl (λe=>by cases e);have G6:h1.get (.own 6 1)=some (.cells z4 0):=B.old (.own 6 1) _ (by decide) F6;have G7:h1.get (.own 7 1)=some (.cells [.sref (.im (h.ims.length+0)) 0 r.1.length none 5] 0):=B.own 3 (.own 7 1) _ rfl rfl (λe=>by cases e);have G1:h1.get (.im (h.ims.length+0))=some (.cells (pcells (eRows r.1)) 0):=B.new 0 _ (congrArg some (pl.2 _)) (λe=>by cases e);have G8:h1.gen 8=0:=(B.gen 8).trans F8;rw[Fl] at G7 G1;rw[hc];have c87:=λ{β:Type} {k:TVal->Heap->Option β} {e:Nat}=>qAh (O:=Om) (k:=k) (d:=e) 87 (.im 1) [sE1 r.1.length,F88] [sE0 r.1.length,F88] _ _ (.tup []) rfl rfl rfl G1 (qAB _ 0) (qAB (eRows (sortedM r.1)) 0) (λ_=>rfl) (qC4 r.1 hn).2.2
  simp (maxSteps:=9999999) +contextual only[exa,rA,rB,rC,rD,rE,rF,rG,rH,rI,exW,exY,G7,oneOf];refine(c87).trans ?_;show _=some (kA (recT kd (sortedM r.1)).row,[rO L { r.2 with tw:=twM (sortedM r.1) r.2.tw (sortedM r.1).length }]);have K0:(h1.put (.im 1) (.cells (pcells (eRows (sortedM r.1))) 0)).get (.im 0)=some (rO L r.2):=(Heap.zput_ne G1 (by decide)).trans G0;have K1:(h1.put (.im 1) (.cells (pcells (eRows (sortedM r.1))) 0)).get (.im 1)=some (.cells (pcells (eRows (sortedM r.1))) 0):=Heap.zput_self G1 (λe=>by cases e);have K3:(h1.put (.im 1) (.cells (pcells (eRows (sortedM r.1))) 0)).get (.own 3 1)=some (boxO 0):=G3;have K6:(h1.put (.im 1) (.cells (pcells (eRows (sortedM r.1))) 0)).get (.own 6 1)=some (.cells z4 0):=G6;have K7:(h1.put (.im 1) (.cells (pcells (eRows (sortedM r.1))) 0)).get (.own 7 1)=some (.cells [.sref (.im 1) 0 r.1.length none 5] 0):=G7;have K8:(h1.put (.im 1) (.cells (pcells (eRows (sortedM r.1))) 0)).gen 8=0:=G8;rw[<- so] at K7;rw[<- so] at hn;generalize sortedM r.1=Y at *;generalize h1.put (.im 1) (.cells (pcells (eRows Y)) 0)=h2 at K0 K1 K3 K6 K7 K8;simp (maxSteps:=9999999) +contextual only[exa,rA,rB,rC,rD,rE,rF,rG,rH,rI,exW,exY,K7,K8,oneOf];have A:TS ((h2.own 8 1 (.cells z4 0)).own 8 1 (.cells [.p (.int .i64 kd),.p (.str []),.p .nilslice,.p .nilslice] 0)) L { r.2 with tw:=twM Y r.2.tw 0 } kd Y 0:=by
   have k:∀ (d:Nat) (o x y:AObj),d≠8->h2.get (.own d 1)=some o->((h2.own 8 1 x).own 8 1 y).get (.own d 1)=some o:=λd o x y hd ho=>by rw[Heap.own_get_ne _ _ _ _ _ _ (Ne.symm hd),Heap.own_get_ne _ _ _ _ _ _ (Ne.symm hd),ho]
   exact⟨K0,K1,k 3 _ _ _ (by decide) K3,k 6 _ _ _ (by decide) K6,k 7 _ _ _ (by decide) K7,.p .nilslice,.p .nilslice,Heap.own_get _ 8 1 _ (by decide) (λe=>by cases e),⟨.inl ⟨rfl,rfl⟩,.inl ⟨rfl,rfl⟩⟩,.inl ⟨rfl,rfl⟩,.inl ⟨rfl,rfl⟩⟩
  obtain⟨h3,A3,e3⟩:=qI0 (L:=L) (s:=r.2) (kd:=kd) (l:=Y) (by omega) Y.length 0 _ (by omega) A;exact e3.trans (qRW A3)
end Go.Proofs.YtnlmlcfipbnpgaaDoor.Ab
