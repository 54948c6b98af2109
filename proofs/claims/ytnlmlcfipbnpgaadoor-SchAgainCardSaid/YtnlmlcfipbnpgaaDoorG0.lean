/- The rules,the contracts,the plain laws that lead to the statement. Own work. Condition: what each theorem names. -/
import Derived.Test.YtnlmlcfipbnpgaaDoorTabAW
import Derived.Test.YtnlmlcfipbnpgaaDoorV0
set_option linter.all false
set_option linter.unusedVariables false
set_option linter.unusedSimpArgs false
set_option linter.unusedSectionVars false
set_option maxRecDepth 100000
open Nat (reduceAdd reduceMul reduceLT reduceLeDiff reduceEqDiff)
namespace Go.AI
def outR(ρ:List Ref):Ref→Option Ref
 |.im i=>ρ[i]?
 |.own .. => none
structure At (h:Heap) (ρ:List Ref) (C:List AObj):Prop where
 nodup:ρ.Nodup
 len:ρ.length=C.length
 get:∀ (i:Nat) (r:Ref) (o:AObj),ρ[i]?=some r→C[i]?=some o→h.get r=some (o.ren (outR ρ))
def Closed(C:List AObj):Prop:=∀ o∈C,o ≠ .dead∧∀ r∈o.refs,∃ i,r = .im i∧i<C.length
theorem Cell.ren_ren{σ τ υ:Ref→Option Ref}(c:Cell)(h:∀ r∈c.refs,∃ s t,σ r=some s∧τ s=some t∧υ r=some t):(c.ren σ).ren τ=c.ren υ:=by
 cases c with
 |ptr r off=>obtain⟨s,t,h1,h2,h3⟩:=h r (by simp[Cell.refs]); simp only[Cell.ren,h1,h2,h3]
 |sref r off len cap sz=>obtain⟨s,t,h1,h2,h3⟩:=h r (by simp[Cell.refs]); simp only[Cell.ren,h1,h2,h3]
 |mref r=>obtain⟨s,t,h1,h2,h3⟩:=h r (by simp[Cell.refs]); simp only[Cell.ren,h1,h2,h3]
 |tsl sz rows r=>obtain⟨s,t,h1,h2,h3⟩:=h r (by simp[Cell.refs]); simp only[Cell.ren,h1,h2,h3]
 |func f caps =>
  have:∀ caps:List Ref,(∀ r∈caps,∃ s t,σ r=some s∧τ s=some t∧υ r=some t)→∃ l m,caps.mapM σ=some l∧l.mapM τ=some m∧caps.mapM υ=some m:=by
   intro caps
   induction caps with
   |nil=>intro _; exact⟨[],[],rfl,rfl,rfl⟩
   |cons r rs ih =>
    intro hh;obtain⟨s,t,h1,h2,h3⟩:=hh r (by simp);obtain⟨l,m,j1,j2,j3⟩:=ih fun x hx=>hh x (by simp[hx])
    exact⟨s::l,t::m,by simp[h1,j1],by simp[h2,j2],by simp[h3,j3]⟩
  obtain⟨l,m,j1,j2,j3⟩:=this caps (fun r hr=>h r (by simpa [Cell.refs] using hr));simp only[Cell.ren,j1,j2,j3]
 |_=>rfl
theorem AObj.ren_ren{σ τ υ:Ref→Option Ref}(o:AObj)(h:∀ r∈o.refs,∃ s t,σ r=some s∧τ s=some t∧υ r=some t):(o.ren σ).ren τ=o.ren υ:=by
 have hc:∀ cs:List Cell,(∀ r∈cs.flatMap Cell.refs,∃ s t,σ r=some s∧τ s=some t∧υ r=some t)→(cs.map (Cell.ren σ)).map (Cell.ren τ)=cs.map (Cell.ren υ):=by
  intro cs hh;rw[List.map_map];refine List.map_congr_left fun c hm=>Cell.ren_ren c fun r hr=>hh r (List.mem_flatMap.2 ⟨c,hm,hr⟩)
 cases o with
 |cells cs imm=>simp only[AObj.ren]; rw[hc cs (fun r hr=>h r (by simpa [AObj.refs] using hr))]
 |map es clock =>
  simp only[AObj.ren,List.map_map]
  congr 1
  refine List.map_congr_left fun e hm => ?_
  have he:∀ r∈e.2.1.refs,∃ s t,σ r=some s∧τ s=some t∧υ r=some t:=fun r hr=>h r (by simp only[AObj.refs]; exact List.mem_flatMap.2 ⟨e,hm,hr⟩)
  obtain⟨a,b,c⟩:=e;simp only[Function.comp];cases b with
  |c x=>simp only[Comp.ren]; rw[Cell.ren_ren x he]
  |agg cs=>simp only[Comp.ren]; rw[hc cs he]
 |_=>rfl
theorem Cell.ren_id{σ:Ref→Option Ref}(c:Cell)(h:∀ r∈c.refs,σ r=some r):c.ren σ=c:=by
 cases c with
 |ptr r off=>simp only[Cell.ren,h r (by simp[Cell.refs])]
 |sref r off len cap sz=>simp only[Cell.ren,h r (by simp[Cell.refs])]
 |mref r=>simp only[Cell.ren,h r (by simp[Cell.refs])]
 |tsl sz rows r=>simp only[Cell.ren,h r (by simp[Cell.refs])]
 |func f caps =>
  have:∀ caps:List Ref,(∀ r∈caps,σ r=some r)→caps.mapM σ=some caps:=by
   intro caps
   induction caps with
   |nil=>intro _; rfl
   |cons r rs ih=>intro hh; simp[hh r (by simp),ih fun x hx=>hh x (by simp[hx])]
  simp only[Cell.ren,this caps (fun r hr=>h r (by simpa [Cell.refs] using hr))]
 |_=>rfl
theorem AObj.ren_id{σ:Ref→Option Ref}(o:AObj)(h:∀ r∈o.refs,σ r=some r):o.ren σ=o:=by
 have hc:∀ cs:List Cell,(∀ r∈cs.flatMap Cell.refs,σ r=some r)→cs.map (Cell.ren σ)=cs:=by
  intro cs hh;refine(List.map_congr_left fun c hm=>Cell.ren_id c fun r hr=>hh r (List.mem_flatMap.2 ⟨c,hm,hr⟩)).trans (List.map_id _)
 cases o with
 |cells cs imm=>simp only[AObj.ren]; rw[hc cs (fun r hr=>h r (by simpa [AObj.refs] using hr))]
 |map es clock =>
  simp only[AObj.ren]
  congr 1
  refine(List.map_congr_left fun e hm => ?_).trans (List.map_id _);have he:∀ r∈e.2.1.refs,σ r=some r:=fun r hr=>h r (by simp only[AObj.refs]; exact List.mem_flatMap.2 ⟨e,hm,hr⟩)
  obtain⟨a,b,c⟩:=e;cases b with
  |c x=>simp only[Comp.ren,id]; rw[Cell.ren_id x he]
  |agg cs=>simp only[Comp.ren,id]; rw[hc cs he]
 |_=>rfl
theorem Cell.refs_ren{σ:Ref→Option Ref}{f:Ref→Ref}(c:Cell)(h:∀ r∈c.refs,σ r=some (f r)):(c.ren σ).refs=c.refs.map f:=by
 cases c with
 |ptr r off=>simp only[Cell.ren,h r (by simp[Cell.refs]),Cell.refs,List.map]
 |sref r off len cap sz=>simp only[Cell.ren,h r (by simp[Cell.refs]),Cell.refs,List.map]
 |mref r=>simp only[Cell.ren,h r (by simp[Cell.refs]),Cell.refs,List.map]
 |tsl sz rows r=>simp only[Cell.ren,h r (by simp[Cell.refs]),Cell.refs,List.map]
 |func g caps =>
  have:∀ caps:List Ref,(∀ r∈caps,σ r=some (f r))→caps.mapM σ=some (caps.map f):=by
   intro caps
   induction caps with
   |nil=>intro _; rfl
   |cons r rs ih=>intro hh; simp[hh r (by simp),ih fun x hx=>hh x (by simp[hx])]
  simp only[Cell.ren,this caps (fun r hr=>h r (by simpa [Cell.refs] using hr)),Cell.refs]
 |_=>rfl
theorem AObj.refs_ren{σ:Ref→Option Ref}{f:Ref→Ref}(o:AObj)(h:∀ r∈o.refs,σ r=some (f r)):(o.ren σ).refs=o.refs.map f:=by
 have hc:∀ cs:List Cell,(∀ r∈cs.flatMap Cell.refs,σ r=some (f r))→(cs.map (Cell.ren σ)).flatMap Cell.refs=(cs.flatMap Cell.refs).map f:=by
  intro cs
  induction cs with
  |nil=>intro _; rfl
  |cons c cs ih =>
   intro hh;simp only[List.map_cons,List.flatMap_cons,List.map_append];rw[Cell.refs_ren c (fun r hr=>hh r (by simp[hr])),ih (fun r hr=>hh r (by simp only[List.flatMap_cons,List.mem_append]; exact Or.inr hr))]
 cases o with
 |cells cs imm=>simp only[AObj.ren,AObj.refs]; exact hc cs (fun r hr=>h r (by simpa [AObj.refs] using hr))
 |map es clock =>
  simp only[AObj.ren,AObj.refs] at h ⊢
  induction es with
  |nil=>rfl
  |cons e es ih =>
   simp only[List.map_cons,List.flatMap_cons,List.map_append];rw[ih (fun r hr=>h r (by simp only[List.flatMap_cons,List.mem_append]; exact Or.inr hr))]
   congr 1
   have he:∀ r∈e.2.1.refs,σ r=some (f r):=fun r hr=>h r (by simp only[List.flatMap_cons,List.mem_append]; exact Or.inl hr)
   obtain⟨a,b,c⟩:=e;cases b with
   |c x=>simp only[Comp.ren,Comp.refs]; exact Cell.refs_ren x he
   |agg cs=>simp only[Comp.ren,Comp.refs]; exact hc cs he
 |_=>rfl
theorem qDN:∀ (rs:List Ref) (i k:Nat) (r:Ref),rs.Nodup→rs[i]?=some r→idx r rs k=some (k+i)
 |[],i,k,r,_,e=>by simp at e
 |s::rs,0,k,r,_,e=>by
  simp only[List.getElem?_cons_zero,Option.some.injEq] at e;subst e;simp[idx]
 |s::rs,i+1,k,r,hn,e=>by
  simp only[List.getElem?_cons_succ] at e;obtain⟨h1,h2⟩:=List.nodup_cons.1 hn;have hne:r≠s:=fun e'=>h1 (by rw[← e']; exact List.mem_of_getElem? e)
  simp only[idx,decide_eq_false hne,cond_false];rw[qDN rs i (k+1) r h2 e]
  congr 1; omega
theorem qN8{ρ:List Ref}{i:Nat}{r:Ref}(hn:ρ.Nodup)(e:ρ[i]?=some r):inn ρ r=some (.im i):=by
 unfold inn;rw[qDN ρ i 0 r hn e,Nat.zero_add];rfl
def outF(ρ:List Ref)(r:Ref):Ref:=(outR ρ r).getD r
theorem qB2{ρ:List Ref}{i:Nat}(hi:i<ρ.length):outR ρ (.im i)=some (outF ρ (.im i))∧ρ[i]?=some (outF ρ (.im i)):=by
 have:ρ[i]?=some ρ[i]:=List.getElem?_eq_getElem hi;simp only[outF,outR,this,Option.getD_some,and_self]
theorem qOM{ρ:List Ref}(hn:ρ.Nodup){i j:Nat}(hi:i<ρ.length)(hj:j<ρ.length)(e:outF ρ (.im i)=outF ρ (.im j)):i=j:=by
 have h1:=(qB2 hi).2;have h2:=(qB2 hj).2;rw[← e] at h2;exact(List.nodup_iff_injective_getElem?' hn) h1 h2
where
 List.nodup_iff_injective_getElem?' {ρ:List Ref} (hn:ρ.Nodup) {i j:Nat} {r:Ref} (h1:ρ[i]?=some r) (h2:ρ[j]?=some r):i=j:=by
  have:=qDN ρ i 0 r hn h1;rw[qDN ρ j 0 r hn h2] at this;simp only[Nat.zero_add,Option.some.injEq] at this;exact this.symm
theorem qEu{h:Heap}{ρ:List Ref}{C:List AObj}(A:At h ρ C)(K:Closed C):∀ (n:Nat) (todo seen:List Ref),
  (∀ r∈todo,∃ i,r = .im i∧i<C.length)→(∀ r∈seen,∃ i,r = .im i∧i<C.length) →
  reach h n (todo.map (outF ρ)) (seen.map (outF ρ))=(reach ⟨C,.nil⟩ n todo seen).map (outF ρ)
 |0,todo,seen,_,_=>rfl
 |n+1,[],seen,_,_=>rfl
 |n+1,r::todo,seen,ht,hs=>by
  obtain⟨i,rfl,hi⟩:=ht r (by simp);have hiρ:i<ρ.length:=by rw[A.len]; exact hi
  have hc:(seen.map (outF ρ)).contains (outF ρ (.im i))=seen.contains (.im i):=by
   rw[Bool.eq_iff_iff,List.contains_iff_mem,List.contains_iff_mem];constructor
   ·intro hm;obtain⟨s,h1,h2⟩:=List.mem_map.1 hm;obtain⟨j,rfl,hj⟩:=hs s h1;rw[qOM A.nodup (by rw[A.len]; exact hj) hiρ h2] at h1;exact h1
   ·intro hm;exact List.mem_map.2 ⟨_,hm,rfl⟩
  rw[List.map_cons]
  conv=>lhs; unfold reach
  conv=>rhs; unfold reach
  rw[hc];cases hb:seen.contains (.im i) with
  |true =>
   rw[cond_true,cond_true];exact qEu A K n todo seen (fun r hr=>ht r (by simp[hr])) hs
  |false =>
   rw[cond_false,cond_false];have hCi:C[i]?=some C[i]:=List.getElem?_eq_getElem hi;have hmem:C[i]∈C:=List.getElem_mem hi;obtain⟨hd,hr⟩:=K _ hmem;rw[A.get i _ _ (qB2 hiρ).2 hCi,Heap.get_im_of (h:=⟨C,.nil⟩) hCi hd];dsimp only
   rw[AObj.refs_ren (f:=outF ρ) C[i] (fun r hr'=>by
    obtain⟨j,rfl,hj⟩:=hr r hr'
    exact(qB2 (by rw[A.len]; exact hj)).1)]
   rw[← List.map_append,show seen.map (outF ρ)++[outF ρ (.im i)]=(seen++[Ref.im i]).map (outF ρ) by simp];refine qEu A K n _ _ (fun r hr' => ?_) (fun r hr' => ?_)
   ·rcases List.mem_append.1 hr' with hm|hm
    ·exact hr r hm
    ·exact ht r (by simp[hm])
   ·rcases List.mem_append.1 hr' with hm|hm
    ·exact hs r hm
    ·rw[List.mem_singleton.1 hm]; exact⟨i,rfl,hi⟩
def Rooted(C:List AObj):Prop:=Closed C∧reach ⟨C,.nil⟩ fuelReach [.im 0] []=(List.range C.length).map Ref.im
theorem qOQ{ρ:List Ref}:((List.range ρ.length).map Ref.im).map (outF ρ)=ρ:=by
 refine List.ext_getElem? fun i => ?_
 rw[List.getElem?_map,List.getElem?_map];by_cases hi:i<ρ.length
 ·rw[List.getElem?_range hi,(qB2 hi).2]; rfl
 ·rw[List.getElem?_eq_none (by simpa using hi),List.getElem?_eq_none (by simpa using hi)]; rfl
theorem At.mapM{h:Heap}{ρ:List Ref}{C:List AObj}(A:At h ρ C):ρ.mapM h.get=some (C.map (AObj.ren (outR ρ))):=by
 have:∀ (l:List Ref) (D:List AObj),l.length=D.length→(∀ (i:Nat) (r:Ref) (o:AObj),l[i]?=some r→D[i]?=some o→h.get r=some (o.ren (outR ρ)))→l.mapM h.get=some (D.map (AObj.ren (outR ρ))):=by
  intro l
  induction l with
  |nil=>intro D hl _; cases D with
   |nil=>rfl
   |cons _ _=>simp at hl
  |cons r l ih=>intro D hl hg; cases D with
   |nil=>simp at hl
   |cons o D =>
    have h0:=hg 0 r o rfl rfl;have h1:=ih D (by simpa using hl) (fun i s q e1 e2=>hg (i+1) s q (by simpa using e1) (by simpa using e2));simp[h0,h1]
 exact this ρ C A.len A.get
def addNew:List Ref→List Ref→List Ref
 |seen,[]=>seen
 |seen,r::todo=>if r∈seen then addNew seen todo else addNew (seen++[r]) todo
theorem qCX{h:Heap}:∀ (todo:List Ref) (n:Nat) (seen:List Ref),todo.length≤n→(∀ r∈todo,r∉seen→∃ o,h.get r=some o∧o.refs=[])→reach h n todo seen=addNew seen todo
 |[],0,seen,_,_=>rfl
 |[],n+1,seen,_,_=>rfl
 |r::todo,0,seen,hl,_=>by simp at hl
 |r::todo,n+1,seen,hl,hg=>by
  have hl':todo.length≤n:=by simpa using hl
  unfold addNew;by_cases hs:r∈seen
  ·rw[if_pos hs,qBu n r todo seen hs];exact qCX todo n seen hl' fun x hx=>hg x (by simp[hx])
  ·rw[if_neg hs];obtain⟨o,h1,h2⟩:=hg r (by simp) hs;rw[qAP n r todo seen o hs h1,h2,List.nil_append];exact qCX todo n _ hl' fun x hx hn=>hg x (by simp[hx]) fun hm=>hn (by simp[hm])
section
variable {β:Type} {O:Oracle} {h:Heap} {d:Nat} {k:TVal→Heap→Option β}
end
structure Star (root:AObj) (leaves:List AObj):Prop where
 refs:root.refs=(List.range leaves.length).map fun i=>Ref.im (i+1)
 live:root ≠ .dead
 leaf:∀ o∈leaves,o ≠ .dead∧o.refs=[]
 few:leaves.length<300
theorem Star.closed{root:AObj}{leaves:List AObj}(S:Star root leaves):Closed (root::leaves):=by
 intro o ho
 rcases List.mem_cons.1 ho with rfl|ho
 ·refine⟨S.live,fun r hr => ?_⟩;rw[S.refs] at hr;obtain⟨i,hi,rfl⟩:=List.mem_map.1 hr;exact⟨i+1,rfl,by simp at hi ⊢; exact hi⟩
 ·obtain⟨h1,h2⟩:=S.leaf o ho;exact⟨h1,fun r hr=>by rw[h2] at hr; cases hr⟩
theorem qEA:∀ (todo seen:List Ref),todo.Nodup→(∀ r∈todo,r∉seen)→addNew seen todo=seen++todo
 |[],seen,_,_=>by simp[addNew]
 |x::todo,seen,hn,hd=>by
  obtain⟨h1,h2⟩:=List.nodup_cons.1 hn;unfold addNew;rw[if_neg (hd x (by simp)),qEA todo _ h2 (fun r hr hm => ?_),List.append_assoc]; rfl
  rcases List.mem_append.1 hm with hm|hm
  ·exact hd r (by simp[hr]) hm
  ·exact h1 (List.mem_singleton.1 hm▸hr)
theorem Star.rooted{root:AObj}{leaves:List AObj}(S:Star root leaves):Rooted (root::leaves):=by
 refine⟨S.closed,?_⟩;have h0:(Heap.mk (root::leaves) .nil).get (.im 0)=some root:=Heap.get_im_of rfl S.live;show reach _ (399+1) [.im 0] []=_;rw[qAP 399 (.im 0) [] [] root (by simp) h0,S.refs,List.append_nil,List.nil_append];rw[qCX _ 399 _ (by simp; have:=S.few; omega) (fun r hr _ => ?_),qEA _ _ ?_ ?_]
 ·rw[List.length_cons,List.range_succ_eq_map,List.map_cons,List.map_map]; rfl
 ·refine List.pairwise_map.2 (List.nodup_range.imp ?_);intro a b h e;simp at e; exact h e
 ·intro r hr hm;obtain⟨i,_,rfl⟩:=List.mem_map.1 hr;simp at hm
 ·obtain⟨i,hi,rfl⟩:=List.mem_map.1 hr;have hi':i<leaves.length:=by simpa using hi
  have hm:=S.leaf leaves[i] (List.getElem_mem hi');exact⟨leaves[i],Heap.get_im_of (by show(root::leaves)[i+1]?=_; simp[hi']) hm.1,hm.2⟩
theorem At.root{h:Heap}{ρ:List Ref}{root:AObj}{leaves:List AObj}(A:At h ρ (root::leaves)){r:Ref}(e:ρ[0]?=some r):h.get r=some (root.ren (outR ρ)):=A.get 0 r root e rfl
def HI(h:Heap)(C:List AObj):Prop:=∀ (i:Nat) (o:AObj),C[i]?=some o→h.get (.im i)=some o
theorem HI.own{h:Heap}{C:List AObj}(H:HI h C)(d g:Nat)(o:AObj):HI (h.own d g o) C:=fun i q e=>H i q e
theorem HI.of{h h':Heap}{C:List AObj}(H:HI h C)(I:∀ i,h'.get (.im i)=h.get (.im i)):HI h' C:=fun i q e=>(I i).trans (H i q e)
section
variable {β:Type} {O:Oracle} {h:Heap} {d:Nat}
end
def Leafy(h:Heap)(n:Nat):Prop:=∀ j,0<j→j<n→∀ o,h.get (.im j)=some o→o.refs=[]
where
 mapM_get' {h:Heap} {ρ:List Ref} {C:List AObj} (A:At h ρ C):∀ r∈ρ,∃ x,h.get r=some x:=by
  intro r hr;obtain⟨k,hk,e⟩:=List.getElem_of_mem hr;have hkC:k<C.length:=by rw[← A.len]; exact hk
  exact⟨_,A.get k r C[k] (by rw[← e]; exact List.getElem?_eq_getElem hk) (List.getElem?_eq_getElem hkC)⟩
structure StarAt (h:Heap) (r:Nat) (root:AObj) (leaves:List AObj) (n:Nat):Prop where
 at':∃ ρ,At h ρ (root::leaves)∧ρ[0]?=some (.im r)∧∀ x∈ρ,∃ i,x = .im i
 leafy:r=0→Leafy h n
 few:n≤h.ims.length
theorem StarAt.own{h:Heap}{r:Nat}{root:AObj}{leaves:List AObj}{n:Nat}(X:StarAt h r root leaves n)(d g:Nat)(o:AObj):StarAt (h.own d g o) r root leaves n:=by
 obtain⟨ρ,A,e0,him⟩:=X.at';refine⟨⟨ρ,⟨A.nodup,A.len,fun i x q e1 e2 => ?_⟩,e0,him⟩,X.leafy,X.few⟩;obtain⟨j,rfl⟩:=him x (List.mem_of_getElem? e1);exact A.get i _ q e1 e2
theorem StarAt.of{h h':Heap}{r:Nat}{root:AObj}{leaves:List AObj}{n:Nat}(X:StarAt h r root leaves n)(I:∀ i,h'.get (.im i)=h.get (.im i))(hl:n≤h'.ims.length):StarAt h' r root leaves n:=by
 obtain⟨ρ,A,e0,him⟩:=X.at';refine⟨⟨ρ,⟨A.nodup,A.len,fun i x q e1 e2 => ?_⟩,e0,him⟩,fun e j h0 hj o ho=>X.leafy e j h0 hj o (by rw[← I]; exact ho),hl⟩;obtain⟨j,rfl⟩:=him x (List.mem_of_getElem? e1);rw[I]; exact A.get i _ q e1 e2
section
variable {β:Type} {O:Oracle} {h:Heap} {d:Nat} {k:TVal→Heap→Option β}
end
theorem qQb{h:Heap}{ρ:List Ref}{C:List AObj}(A:At h ρ C)(R:Rooted C){r:Ref}(e0:ρ[0]?=some r)(frz:Bool)(vs:List Comp)(v:TVal)(e1:(if frz then freezeT h (oneOf vs) else some (oneOf vs,[]))=some (v,[]))(hr:v.refs=[r]) :
  vfin frz 0 vs h=some (v.ren (inn ρ),C):=by
 letI:Sym:=⟨fun _=>0⟩
 have h0:0<C.length:=by rw[← A.len]; exact(List.getElem?_eq_some_iff.1 e0).1
 have er:r=outF ρ (.im 0):=by
  have:=(qB2 (ρ:=ρ) (i:=0) (by rw[A.len]; exact h0)).2;rw[e0] at this;exact Option.some.inj this
 have er2:reach h fuelReach [r] []=ρ:=by
  rw[er];have:=qEu A R.1 fuelReach [.im 0] [] (fun r hr=>⟨0,List.mem_singleton.1 hr,h0⟩) (fun r hr=>by cases hr);simp only[List.map_cons,List.map_nil] at this;rw[this,R.2,← A.len,qOQ]
 rw[qCU];unfold finV;simp only[e1,settle];have e2:reach h fuelReach (((ims 0).flatMap fun r=>match h.get r with|some o=>o.refs|none=>[])++v.refs) (ims 0)=ρ:=by
  show reach h fuelReach ([]++v.refs) []=ρ;rw[List.nil_append,hr]; exact er2
 refine(congrArg (fun F:List Ref=>some (v.ren (inn F),F.map fun r=>match h.get r with|some o=>o.ren (inn F)|none=>AObj.dead)) e2).trans ?_;refine congrArg (fun l=>some (v.ren (inn ρ),l)) ?_;refine List.ext_getElem? fun i => ?_
 rw[List.getElem?_map];by_cases hi:i<C.length
 ·have hi':i<ρ.length:=by rw[A.len]; exact hi
  rw[List.getElem?_eq_getElem hi',Option.map_some,List.getElem?_eq_getElem hi];have hg:=A.get i ρ[i] C[i] (List.getElem?_eq_getElem hi') (List.getElem?_eq_getElem hi);rw[hg];dsimp only;have hc:=R.1 C[i] (List.getElem_mem hi)
  rw[AObj.ren_ren (υ:=fun r=>some r) C[i] (fun x hx=>by
   obtain⟨j,rfl,hj⟩:=hc.2 x hx;have hj':=qB2 (ρ:=ρ) (i:=j) (by rw[A.len]; exact hj)
   exact⟨_,_,hj'.1,qN8 A.nodup hj'.2,rfl⟩),AObj.ren_id _ fun r _=>rfl]
 ·rw[List.getElem?_eq_none (by rw[A.len]; exact Nat.le_of_not_lt hi),List.getElem?_eq_none (Nat.le_of_not_lt hi)]; rfl
theorem qOg{O:Oracle}{g:FuncId}{az:List TVal}{v:TVal}{C:List AObj}(ha:allB pT az=true)(hc:O g az []=some (v,C))(K:Closed C)(h:Heap) :
  ∃ h',(∀ {β:Type}(d:Nat)(k:TVal→Heap→Option β),vcall O (.v (.c (.func g []))) az h d k=k (v.ren (back [] C.length (newRef h.ims.length))) h') ∧
   At h' ((List.range C.length).map fun i=>Ref.im (h.ims.length+i)) C∧(∀ r o,h.get r=some o→h'.get r=some o)∧(∀ d,h'.gen d=h.gen d)∧h'.ims.length=h.ims.length+C.length:=by
 obtain⟨a1,a2,a3⟩:=qHz ha;obtain⟨h',c1,B⟩:=qC6 (h:=h) g az az az [] [] [] C v _ a1 (by rw[a2]; rfl) rfl (a3 _) rfl hc (Nat.zero_le _) List.nodup_nil rfl;refine⟨h',fun d k=>c1 d k,⟨?_,by simp,fun i r o e1 e2 => ?_⟩,fun r o ho=>B.old r o (by simp) ho,B.gen,by rw[B.len]; rfl⟩
 ·refine List.pairwise_map.2 (List.nodup_range.imp ?_);intro a b hab e;simp at e; exact hab e
 ·have hi:i<C.length:=(List.getElem?_eq_some_iff.1 e2).1;rw[List.getElem?_map,List.getElem?_range hi,Option.map_some,Option.some.injEq] at e1;subst e1;have hd:=(K o (List.mem_of_getElem? e2)).1;have hren:o.ren (back [] C.length (newRef h.ims.length))=o.ren (outR ((List.range C.length).map fun i=>Ref.im (h.ims.length+i))):=by
   have hid:o.ren (fun r=>some r)=o:=AObj.ren_id o fun r _=>rfl
   rw[← hid];have hk:=(K o (List.mem_of_getElem? e2)).2;rw[AObj.ren_ren (υ:=outR ((List.range C.length).map fun i=>Ref.im (h.ims.length+i))),AObj.ren_ren (υ:=outR ((List.range C.length).map fun i=>Ref.im (h.ims.length+i)))]
   ·intro r hr;obtain⟨j,rfl,hj⟩:=hk r hr;have:outR ((List.range C.length).map fun i=>Ref.im (h.ims.length+i)) (.im j)=some (.im (h.ims.length+j)):=by show _[j]?=_; rw[List.getElem?_map,List.getElem?_range hj]; rfl
    exact⟨_,_,rfl,this,this⟩
   ·intro r hr;obtain⟨j,rfl,hj⟩:=hk r hr;have:outR ((List.range C.length).map fun i=>Ref.im (h.ims.length+i)) (.im j)=some (.im (h.ims.length+j)):=by show _[j]?=_; rw[List.getElem?_map,List.getElem?_range hj]; rfl
    refine⟨_,_,rfl,?_,this⟩;have hb:Nat.blt j C.length=true:=by rw[Nat.blt_eq]; exact hj
    simp only[back,List.getElem?_nil,hb,cond_true,newRef,List.length_nil,Nat.sub_zero]
  have:=B.new i (o.ren (back [] C.length (newRef h.ims.length))) (by
   rw[List.length_nil,Nat.zero_add,List.getElem?_map,e2]; rfl) (by cases o <;> simp[AObj.ren] at hd ⊢)
  rw[this,hren]
end Go.AI
namespace Go.Proofs.YtnlmlcfipbnpgaaDoor.Ab
open Go Go.AI
noncomputable def S:Oracle:=orS (SI 98) (SJ 53)
noncomputable abbrev W:Mach:=lim tab.get S
noncomputable abbrev Om:Oracle:=orc S W
abbrev CAL(f:FuncId)(l:List TVal)(v:TVal):Prop:=∀ {β:Type}{k:TVal→Heap→Option β}{h:Heap}{d:Nat},vcall Om (.v (.c (.func f []))) l h d k=k v h
abbrev kA(r:List PVal):TVal := .v (.agg (pcells r))
def withinM(a n:Int):Int:=if a.tmod n<0 then a.tmod n+n else a.tmod n
theorem qAg(a n:Int)(hn:0<n):0≤withinM a n∧withinM a n<n:=by
 have h1:=Int.tmod_lt_of_pos a hn;have h2 : -n<a.tmod n:=by
  have:=Int.tmod_lt_of_pos (-a) hn;rw[Int.neg_tmod] at this; omega
 unfold withinM;split <;> omega
theorem qOj(a n:Int)(hn:0<n)(hs:n<1000000):Om 19 [kI a,kI n] []=some (kI (withinM a n),[]):=by
 refine(qAB rfl).trans ?_;show lim tab.get S 19 0 0 [kI a,kI n] h0=_;have hb:=qAg a n hn;rw[w19_0,b19_0];unfold withinM at hb ⊢;by_cases h:a.tmod n<0
 ·rw[if_pos h] at hb ⊢;have hw:IntKind.i64.wrap (a.tmod n+n)=a.tmod n+n:=qAM _ (by omega) (by omega);simp (maxSteps:=9999999) +contextual only[exa,ne_eq,not_false_eq_true,reduceAdd,reduceMul,reduceLT,reduceLeDiff,reduceEqDiff,Int.reduceLT,Int.reduceLE,Int.reduceEq,Int.reduceToNat,qEn 0 .i64 a n (by omega),h,hw,oneOf]
 ·rw[if_neg h];simp (maxSteps:=9999999) +contextual only[exa,ne_eq,not_false_eq_true,reduceAdd,reduceMul,reduceLT,reduceLeDiff,reduceEqDiff,Int.reduceLT,Int.reduceLE,Int.reduceEq,Int.reduceToNat,qEn 0 .i64 a n (by omega),h,oneOf]
theorem u19{β:Type}{k:TVal→Heap→Option β}{h:Heap}{d:Nat}(a n:Int)(hn:0<n)(hs:n<1000000):vcall Om (.v (.c (.func 19 []))) [kI a,kI n] h d k=k (kI (withinM a n)) h:=qAE 19 _ _ rfl (qOj a n hn hs) rfl
theorem qPT:Om 10 [] []=some (kB true,[]):=(qAB rfl).trans (qBz blks_ok 3000 10 0 0 _ _ _ (by kernel_rfl))
open Go Go.AI
def isDigit(n:Nat):Bool:=Nat.ble 48 n&&Nat.ble n 57
def isLetter(n:Nat):Bool:=Nat.ble 97 n&&Nat.ble n 122||Nat.ble 65 n&&Nat.ble n 90||Nat.beq n 95
def isWord(n:Nat):Bool:=isLetter n||isDigit n
theorem qE6(b:UInt8):Om 107 [kU b] []=some (kB (isDigit b.toNat),[]):=(qAB rfl).trans (qDd blks_ok (p:=isDigit) (N:=20) (by kernel_rfl) b)
theorem qMb(b:UInt8):Om 118 [kU b] []=some (kB (isLetter b.toNat),[]):=(qAB rfl).trans (qDd blks_ok (p:=isLetter) (N:=20) (by kernel_rfl) b)
theorem qQH(b:UInt8):Om 138 [kU b] []=some (kB (isWord b.toNat),[]):=(qAB rfl).trans (qDd blks_ok (p:=isWord) (N:=20) (by kernel_rfl) b)
def runLen(p:Nat→Bool):List UInt8→Nat
 |[]=>0
 |b::s=>if p b.toNat then runLen p s+1 else 0
theorem qCG(p:Nat→Bool):∀ s,runLen p s≤s.length:=by
 intro s
 induction s with
 |nil=>exact Nat.le_refl _
 |cons b s ih=>unfold runLen; split <;> simp <;> omega
theorem qIO(p:Nat→Bool)(g:FuncId)(hg:∀ b,Om g [kU b] []=some (kB (p b.toNat),[]))(hp:∀ n,p n=true→n<128)(s:List UInt8) :
  Om 137 [kS s,.v (.c (.func g []))] []=some (kI (runLen p s:Nat),[]):=by
 refine(qAB rfl).trans ?_;show lim tab.get S 137 0 0 [kS s,.v (.c (.func g []))] h0=_;rw[w137_0,b137_0,qJn];have loop:∀ (m pos:Nat) (h:Heap),s.length - pos=m→pos≤s.length→h.get (.own 7 1)=some (.siter s pos) →
   lim tab.get S 137 0 1 [kS s,.v (.c (.func g [])),.v (.c (.ptr (.own 7 1) 0))] h=some (kI ((pos+runLen p (s.drop pos):Nat):Int),[]):=by
  intro m
  induction m with
  |zero =>
   intro pos h hm hl hh;rw[w137_1,b137_1,qFk s pos _ hh (by omega)];rw[qAV _ 0 (.c (.p (.bool false))) rfl,qAQ,if_neg (by decide),w137_2,b137_2,qAY,qAH,qAI _ _ rfl];have:pos=s.length:=by omega
   subst this;simp[runLen,oneOf]
  |succ m ih =>
   intro pos h hm hl hh;obtain⟨b,hb⟩:∃ b,s[pos]?=some b:=⟨s[pos]'(by omega),by simp⟩;have hd:s.drop pos=b::s.drop (pos+1):=by
    obtain⟨h1,h2⟩:=List.getElem?_eq_some_iff.1 hb;rw[List.drop_eq_getElem_cons h1,h2]
   rw[w137_1,b137_1,qEO s pos _ hh (by omega),qAV _ 0 (.c (.p (.bool true))) rfl,qAQ,if_pos rfl,qAV _ 1 (.c (.p (.int .i64 (pos:Int)))) rfl,
    qCY s pos b hb,qAE g _ _ rfl (hg b) rfl,qH8,qAQ]
   cases hpb:p b.toNat with
   |false =>
    rw[if_pos (show(!false)=true from rfl),qAH,qAI _ _ rfl,hd];simp[runLen,hpb,oneOf]
   |true =>
    rw[if_neg (show ¬ (!true)=true by decide),qFZ s pos b hb (hp _ hpb)];refine(ih (pos+1) _ (by omega) (by omega) (Heap.own_get h 7 1 _ (by decide) (fun e=>by cases e))).trans ?_;rw[hd];simp[runLen,hpb];omega
 have:=loop s.length 0 (h0.own 7 1 (.siter s 0)) (by omega) (by omega) (Heap.own_get _ _ _ _ (by decide) (fun e=>by cases e));rw[qMS];refine this.trans ?_;simp
open Go Go.AI
structure Tok where
 kind:Int
 text:List UInt8
 n:Int
 pos:Int
def Tok.zero:Tok:=⟨0,[],0,0⟩
def Tok.row(t:Tok):List PVal:=[.int .i64 t.kind,.str t.text,.int .i64 t.n,.int .i64 t.pos]
def Tok.cells(t:Tok):List Cell:=[.p (.int .i64 t.kind),.p (.str t.text),.p (.int .i64 t.n),.p (.int .i64 t.pos)]
structure One where
 t:Tok
 n:Int
 e:Int
def One.val(r:One):TVal := .tup [.agg r.t.cells,.c (.p (.int .i64 r.n)),.c (.p (.int .i64 r.e))]
def bad(e:Int):One:=⟨Tok.zero,0,e⟩
def wrdM(s:List UInt8):One:=if 16<runLen isWord s then bad 4 else ⟨⟨1,s.take (runLen isWord s),0,0⟩,(runLen isWord s:Nat),0⟩
theorem qNO(n:Nat)(h:isWord n=true):n<128:=by
 simp only[isWord,isLetter,isDigit,Bool.or_eq_true,Bool.and_eq_true,Nat.ble_eq,Nat.beq_eq] at h;omega
theorem qF0(n:Nat)(h:isDigit n=true):n<128:=by
 simp only[isDigit,Bool.and_eq_true,Nat.ble_eq] at h;omega
theorem qQp(s:List UInt8):Om 108 [kS s] []=some (kI (runLen isWord s:Nat),[]):=by
 refine(qAB rfl).trans ?_;show lim tab.get S 108 0 0 [kS s] h0=_;rw[w108_0,b108_0,qEe 137 _ _ rfl rfl (fun _=>rfl) (qIO isWord 138 qQH qNO s) rfl,qAH,qAI _ _ rfl];rfl
theorem qQF(s:List UInt8):Om 119 [kS s] []=some ((wrdM s).val,[]):=by
 refine(qAB rfl).trans ?_;show lim tab.get S 119 0 0 [kS s] h0=_;rw[w119_0,b119_0,qCd,qAE 108 _ _ rfl (qQp s) rfl,qBG,qAQ];have hl:=qCG isWord s;unfold wrdM;by_cases h:16<runLen isWord s
 ·rw[if_pos (decide_eq_true (by omega)),qBU _ _ Tok.zero.cells rfl,qAX 4 2 _ _ _ _ _ (Heap.own_get _ _ _ _ (by decide) (fun e=>by cases e)) (by decide) rfl rfl,qAH,qAH,qAI _ _ rfl,if_pos h];rfl
 ·rw[if_neg (by rw[decide_eq_true_eq]; omega),qE2 _ _ hl,qBU _ _ (Tok.cells ⟨1,s.take (runLen isWord s),0,0⟩) rfl,qAX 4 2 _ _ _ _ _ (Heap.own_get _ _ _ _ (by decide) (fun e=>by cases e)) (by decide) rfl rfl,qAH,qAH,qAI _ _ rfl,if_neg h];rfl
theorem qDm(s p:List UInt8):Om 130 [kS s,kS p] []=some (kB (decide (s.take p.length=p)),[]):=by
 refine(qAB rfl).trans ?_;show lim tab.get S 130 0 0 [kS s,kS p] h0=_;rw[w130_0,b130_0,qAY,qAY,qHV];by_cases hl:p.length≤s.length
 ·have e:(!decide ((s.length:Int)<(p.length:Int)))=true:=by simp; omega
  simp only[e,qBT,qAY,qE2 s p.length hl,qGj,qB9,qAH];rw[qAI _ _ rfl]; rfl
 ·have e:(!decide ((s.length:Int)<(p.length:Int)))=false:=by simp; omega
  have e2:¬ s.take p.length=p:=fun hh=>by have:=congrArg List.length hh; simp at this; omega
  simp only[e,qBA,qBh,qAH];rw[qAI _ _ rfl,decide_eq_false e2]; rfl
theorem qG9(s p:List UInt8):Om 99 [kS s,kS p] []=some (kB (decide (s.take p.length=p)),[]):=by
 refine(qAB rfl).trans ?_;show lim tab.get S 99 0 0 [kS s,kS p] h0=_;rw[w99_0,b99_0,qAE 130 _ _ rfl (qDm s p) rfl,qAH,qAI _ _ rfl]; rfl
theorem qPL(s p:List UInt8):Om 161 [kS s,kS p] []=some (kS (if s.take p.length=p then s.drop p.length else s),[]):=by
 refine(qAB rfl).trans ?_;show lim tab.get S 161 0 0 [kS s,kS p] h0=_;rw[w161_0,b161_0,qAE 130 _ _ rfl (qDm s p) rfl];by_cases h:s.take p.length=p
 ·have hl:p.length≤s.length:=by have:=congrArg List.length h; simp at this; omega
  rw[decide_eq_true h,qFH,qAY,qEx _ _ hl,qAH,qAI _ _ rfl,if_pos h]; rfl
 ·rw[decide_eq_false h,qCN,qAH,qAI _ _ rfl,if_neg h]; rfl
theorem qNx(s p:List UInt8):Om 145 [kS s,kS p] []=some (kS (if s.take p.length=p then s.drop p.length else s),[]):=by
 refine(qAB rfl).trans ?_;show lim tab.get S 145 0 0 [kS s,kS p] h0=_;rw[w145_0,b145_0,qAE 161 _ _ rfl (qPL s p) rfl,qAH,qAI _ _ rfl]; rfl
def neg(s:List UInt8):Nat:=if s.take 1=[45] then 1 else 0
def numVal(s:List UInt8):Nat:=s.foldl (fun x b=>10*x+(b.toNat - 48)) 0
theorem qEd(s:List UInt8)(b:UInt8):numVal (s++[b])=10*numVal s+(b.toNat - 48):=by simp[numVal]
theorem qGo(s:List UInt8):(∀ b∈s,isDigit b.toNat=true)→numVal s<10 ^ s.length:=by
 have key:∀ (r:List UInt8),(∀ b∈r,isDigit b.toNat=true)→∀ (x k:Nat),x<10 ^ k→r.foldl (fun x b=>10*x+(b.toNat - 48)) x<10 ^ (k+r.length):=by
  intro r
  induction r with
  |nil=>intro _ x k h; exact h
  |cons b r ih =>
   intro hb x k h;have h1:=hb b (by simp);simp only[isDigit,Bool.and_eq_true,Nat.ble_eq] at h1;have:=ih (fun c hc=>hb c (by simp[hc])) (10*x+(b.toNat - 48)) (k+1) (by rw[Nat.pow_succ]; omega);rw[show k+(b::r).length=k+1+r.length by simp; omega];exact this
 intro h
 simpa [numVal] using key s h 0 0 (by decide)
theorem qJX(p:Nat→Bool):∀ (s:List UInt8),∀ b∈s.take (runLen p s),p b.toNat=true:=by
 intro s
 induction s with
 |nil=>intro b hb; simp[runLen] at hb
 |cons c s ih =>
  intro b hb;unfold runLen at hb;cases hc:p c.toNat with
  |false=>rw[hc] at hb; simp at hb
  |true =>
   rw[hc] at hb;simp only[if_true,List.take_succ_cons,List.mem_cons] at hb
   rcases hb with rfl|hb
   ·exact hc
   ·exact ih b hb
def numberM(s:List UInt8):One :=
 if 19<runLen isDigit (s.drop (neg s)) then bad 4
 else if 9223372036854775807+neg s<numVal ((s.drop (neg s)).take (runLen isDigit (s.drop (neg s)))) then bad 11
 else ⟨⟨3,[],if 0<neg s then -(numVal ((s.drop (neg s)).take (runLen isDigit (s.drop (neg s)))):Int) else (numVal ((s.drop (neg s)).take (runLen isDigit (s.drop (neg s)))):Int),0⟩,((neg s+runLen isDigit (s.drop (neg s)):Nat):Int),0⟩
theorem qLC(g n x:Nat)(hg:g≤1)(hn:n≤19)(hx:x<18446744073709551616)(h:Heap)(cs:List Cell)(hh:h.get (.own 2 1)=some (.cells cs 0))(hc:cs.length=4) :
  lim tab.get S 120 0 2 [.v (.c (.ptr (.own 2 1) 0)),kI (g:Int),kI (n:Int),kN .u64 (x:Int)] h=some ((if 9223372036854775807+g<x then bad 11 else ⟨⟨3,[],if 0<g then -(x:Int) else x,0⟩,((g+n:Nat):Int),0⟩:One).val,[]):=by
 rw[w120_2,b120_2,qCZ,qCf _ (by omega) (by omega),qAj,qCf _ (by omega) (by omega),qBG,qAQ];by_cases h1:9223372036854775807+g<x
 ·rw[if_pos (decide_eq_true (by omega)),qBU _ _ Tok.zero.cells rfl,qAX 4 2 1 _ cs _ _ hh (by decide) hc rfl,qAH,qAH,qAI _ _ rfl,if_pos h1];rfl
 ·rw[if_neg (by rw[decide_eq_true_eq]; omega),qBG,qAQ,if_neg h1];by_cases h2:0<g
  ·have hg1:g=1:=by omega
   subst hg1;rw[if_pos (decide_eq_true (by omega)),qCZ,vneg];have e:IntKind.i64.wrap (0 - IntKind.i64.wrap (x:Int)) = -(x:Int):=by
    by_cases h3:x=9223372036854775808
    ·subst h3; decide
    ·rw[qAM (x:Int) (by omega) (by omega),qAM _ (by omega) (by omega)]; omega
   rw[e,qBU _ _ (Tok.cells ⟨3,[],-(x:Int),0⟩) rfl,qAj,qAM _ (by omega) (by omega),qAX 4 2 1 _ cs _ _ hh (by decide) hc rfl,qAH,qAH,qAI _ _ rfl];simp[One.val,oneOf]
  ·have hg0:g=0:=by omega
   subst hg0;rw[if_neg (by rw[decide_eq_true_eq]; omega),qCZ,qAM (x:Int) (by omega) (by omega),qBU _ _ (Tok.cells ⟨3,[],(x:Int),0⟩) rfl,qAX 4 2 1 _ cs _ _ hh (by decide) hc rfl,qAH,qAH,qAI _ _ rfl];simp[One.val,oneOf]
theorem qM5(s:List UInt8)(hs:s.length≤4611686018427387904):Om 120 [kS s] []=some ((numberM s).val,[]):=by
 refine(qAB rfl).trans ?_;show lim tab.get S 120 0 0 [kS s] h0=_;rw[w120_0,b120_0,qCd,qAY,qAE 145 _ _ rfl (qNx s [45]) rfl,qAY,qE0];have hg:neg s≤1:=by unfold neg; split <;> omega
 have hgl:neg s≤s.length:=by
  unfold neg; split
  ·rename_i h; have:=congrArg List.length h; simp at this; omega
  ·omega
 have eg:IntKind.i64.wrap ((s.length:Int) - ((if s.take [(45:UInt8)].length=[45] then s.drop [(45:UInt8)].length else s).length:Int))=(neg s:Int):=by
  have e0:[(45:UInt8)].length=1:=rfl;rw[e0];have e1:(s.length:Int) - ((if s.take 1=[45] then s.drop 1 else s).length:Int)=(neg s:Int):=by
   unfold neg;unfold neg at hgl;split
   ·rename_i h; rw[if_pos h] at hgl; simp; omega
   ·simp
  rw[e1]; exact qAM _ (by omega) (by omega)
 rw[eg,qEx _ _ hgl];generalize hr:s.drop (neg s)=r;have hn:=qCG isDigit r;rw[qEe 137 _ _ rfl rfl (fun _=>rfl) (qIO isDigit 107 qE6 qF0 r) rfl,qBG,qAQ];unfold numberM;rw[hr];by_cases h:19<runLen isDigit r
 ·rw[if_pos (decide_eq_true (by omega)),qBU _ _ Tok.zero.cells rfl,qAX 4 2 _ _ _ _ _ (Heap.own_get _ _ _ _ (by decide) (fun e=>by cases e)) (by decide) rfl rfl,qAH,qAH,qAI _ _ rfl,if_pos h];rfl
 ·have hrl:r.length=s.length - neg s:=by rw[← hr]; simp
  rw[if_neg (by rw[decide_eq_true_eq]; omega),if_neg h,qAj,qAM _ (by omega) (by omega),← Int.natCast_add,qGv s (neg s) (neg s+runLen isDigit r) (by omega) (by omega),qJn];have ed:(s.take (neg s+runLen isDigit r)).drop (neg s)=r.take (runLen isDigit r):=by rw[← hr,List.drop_take]; simp
  rw[ed];have hall:=qJX isDigit r;generalize hds:r.take (runLen isDigit r)=ds at hall;have hdl:ds.length=runLen isDigit r:=by rw[← hds]; simp[hn]
  have hv:=qGo ds hall;have hp:(10:Nat) ^ ds.length≤10 ^ 19:=Nat.pow_le_pow_right (by decide) (by omega);have loop:∀ (m pos:Nat) (h:Heap) (cs:List Cell),ds.length - pos=m→pos≤ds.length→h.get (.own 29 1)=some (.siter ds pos)→h.get (.own 2 1)=some (.cells cs 0)→cs.length=4 →
    lim tab.get S 120 0 1 [.v (.c (.ptr (.own 2 1) 0)),kI (neg s:Int),kI (runLen isDigit r:Nat),kN .u64 (numVal (ds.take pos):Int),.v (.c (.ptr (.own 29 1) 0))] h =
     some ((if 9223372036854775807+neg s<numVal ds then bad 11 else ⟨⟨3,[],if 0<neg s then -(numVal ds:Int) else numVal ds,0⟩,((neg s+runLen isDigit r:Nat):Int),0⟩:One).val,[]):=by
   intro m
   induction m with
   |zero =>
    intro pos h cs hm hl hh1 hh2 hcl;rw[w120_1,b120_1,qFk ds pos _ hh1 (by omega),qAV _ 0 (.c (.p (.bool false))) rfl,qCN];have:ds.take pos=ds:=List.take_of_length_le (by omega);rw[this];exact qLC (neg s) (runLen isDigit r) (numVal ds) hg (by omega) (by omega) _ cs ((Heap.own_get_ne h 29 1 _ 2 1 (by decide)).trans hh2) hcl
   |succ m ih =>
    intro pos h cs hm hl hh1 hh2 hcl;obtain⟨b,hb⟩:∃ b,ds[pos]?=some b:=⟨ds[pos]'(by omega),by simp⟩;have hbd:=hall b (List.mem_of_getElem? hb);have hb2:=hbd;simp only[isDigit,Bool.and_eq_true,Nat.ble_eq] at hb2;have htk:ds.take (pos+1)=ds.take pos++[b]:=by rw[List.take_add_one,hb]; rfl
    have hx1:=qGo (ds.take (pos+1)) (fun c hc=>hall c (List.mem_of_mem_take hc));have hx2:(10:Nat) ^ (ds.take (pos+1)).length≤10 ^ 19:=Nat.pow_le_pow_right (by decide) (by simp; omega);rw[htk,qEd] at hx1;rw[htk] at hx2
    rw[w120_1,b120_1,qEO ds pos _ hh1 (by omega),qAV _ 0 (.c (.p (.bool true))) rfl,qFH,qFZ ds pos b hb (qF0 _ hbd),qAV _ 2 (.c (.p (.int .i32 (b.toNat:Int)))) rfl,
     qIe,qCf _ (by omega) (by omega),qE0]
    have e1:IntKind.i32.wrap ((b.toNat:Int) - 48)=(b.toNat:Int) - 48:=qC9 .i32 _ (by show(-2147483648:Int)≤_; omega) (by show _≤(2147483647:Int); omega);rw[e1,qCZ,qCf _ (by omega) (by omega),qAj,qCf _ (by omega) (by omega)];have e2:(10*(numVal (ds.take pos):Int)+((b.toNat:Int) - 48))=(numVal (ds.take (pos+1)):Int):=by rw[htk,qEd]; omega
    rw[e2];exact ih (pos+1) _ cs (by omega) (by omega) (Heap.own_get h 29 1 _ (by decide) (fun e=>by cases e)) ((Heap.own_get_ne h 29 1 _ 2 1 (by decide)).trans hh2) hcl
  refine(loop ds.length 0 _ _ (by omega) (by omega) (Heap.own_get _ 29 1 _ (by decide) (fun e=>by cases e)) ((Heap.own_get_ne _ 29 1 _ 2 1 (by decide)).trans (Heap.own_get _ 2 1 _ (by decide) (fun e=>by cases e))) rfl).trans ?_;rfl
def meantM(c:UInt8):Option UInt8:=if c.toNat=110 then some 10 else if c.toNat=116 then some 9 else if c.toNat=34 then some c else if c.toNat=92 then some c else none
def meantV(c:UInt8):TVal:=match meantM c with
 |some x => .tup [.c (.p (.int .u8 (x.toNat:Int))),.c (.p (.bool true))]
 |none => .tup [.c (.p (.int .u8 0)),.c (.p (.bool false))]
theorem qOH(c:UInt8):Om 146 [kU c] []=some (meantV c,[]):=by
 refine(qAB rfl).trans ?_;show lim tab.get S 146 0 0 [kU c] h0=_;rw[w146_0,b146_0,qAt,qAQ];unfold meantV meantM;by_cases h1:c.toNat=110
 ·rw[if_pos (decide_eq_true (by omega)),if_pos h1,qAH,qAH,qAI _ _ rfl]; rfl
 rw[if_neg (by rw[decide_eq_true_eq]; omega),if_neg h1,qAt,qAQ];by_cases h2:c.toNat=116
 ·rw[if_pos (decide_eq_true (by omega)),if_pos h2,qAH,qAH,qAI _ _ rfl]; rfl
 rw[if_neg (by rw[decide_eq_true_eq]; omega),if_neg h2,qAt,qAQ];by_cases h3:c.toNat=34
 ·rw[if_pos (decide_eq_true (by omega)),if_pos h3,qAH,qAH,qAI _ _ rfl]; rfl
 rw[if_neg (by rw[decide_eq_true_eq]; omega),if_neg h3,qAt,qAQ];by_cases h4:c.toNat=92
 ·rw[if_pos (decide_eq_true (by omega)),if_pos h4,qAH,qAH,qAI _ _ rfl]; rfl
 rw[if_neg (by rw[decide_eq_true_eq]; omega),if_neg h4,qAH,qAH,qAI _ _ rfl]; rfl
def textGo:List UInt8→List UInt8→Nat→One
 |[],_,_=>bad 11
 |[c],acc,i=>if c.toNat<32 then bad 11 else if c.toNat=34 then (if 200<acc.length then bad 4 else ⟨⟨2,acc,0,0⟩,((i+1:Nat):Int),0⟩) else bad 11
 |c::d::s,acc,i =>
  if c.toNat<32 then bad 11
  else if c.toNat=34 then (if 200<acc.length then bad 4 else ⟨⟨2,acc,0,0⟩,((i+1:Nat):Int),0⟩)
  else if c.toNat=92 then (match meantM d with
   |none=>bad 11
   |some x=>textGo s (acc++[x]) (i+2))
  else textGo (d::s) (acc++[c]) (i+1)
theorem qB4(h:Heap)(cs:List Cell)(e:Int)(hh:h.get (.own 2 1)=some (.cells cs 0))(hc:cs.length=4)(O:Oracle)(n:Nat) :
  (vop O (.build [(.p (.int .i64 0)),(.p (.str [])),(.p (.int .i64 0)),(.p (.int .i64 0))] []) h n fun x h=>vstore 4 (.v (.c (.ptr (.own 2 1) 0))) x h fun _ h=>vcell true 4 (.v (.c (.ptr (.own 2 1) 0))) h fun c0=>tcomp (kI 0) fun c1=>tcomp (kI e) fun c2=>vfin true 0 [c0,c1,c2] h)=some ((bad e).val,[]):=by
 rw[qBU _ _ Tok.zero.cells rfl,qAX 4 2 1 _ cs _ _ hh (by decide) hc rfl,qAH,qAH,qAI _ _ rfl];rfl
theorem qHB(s:List UInt8)(b:UInt8):byteRows s++[[.int .u8 (b.toNat:Int)]]=byteRows (s++[b]):=by simp[byteRows]
theorem qNM(s:List UInt8)(hs:s.length≤1073741824):∀ (m i:Nat) (acc:List UInt8) (v:Cell) (h:Heap) (cs:List Cell),s.length - i≤m→i≤s.length→acc.length≤i→Grow [22,68] 1 v (byteRows acc) h→h.get (.own 2 1)=some (.cells cs 0)→cs.length=4 →
  lim tab.get S 121 0 1 [kS s,.v (.c (.ptr (.own 2 1) 0)),.v (.c v),kI (i:Int)] h=some ((textGo (s.drop i) acc i).val,[]):=by
 intro m
 induction m with
 |zero =>
  intro i acc v h cs hm hl ha G hh hc;rw[w121_1,b121_1,qAY,qAi,qAQ,if_neg (by rw[decide_eq_true_eq]; omega),w121_3,b121_3,qB4 h cs 11 hh hc];rw[List.drop_eq_nil_of_le (by omega)]; rfl
 |succ m ih =>
  intro i acc v h cs hm hl ha G hh hc;by_cases hi:i<s.length
  ·obtain⟨c,hcb⟩:∃ c,s[i]?=some c:=⟨s[i]'hi,by simp⟩;have hd:s.drop i=c::s.drop (i+1):=by
    obtain⟨h1,h2⟩:=List.getElem?_eq_some_iff.1 hcb;rw[List.drop_eq_getElem_cons h1,h2]
   have hcc:cs≠[]:=fun e=>by rw[e] at hc; cases hc
   rw[w121_1,b121_1,qAY,qAi,qAQ,if_pos (decide_eq_true (by omega)),qCY s i c hcb,qAi,qAQ];rw[hd];by_cases h1:c.toNat<32
   ·rw[if_pos (decide_eq_true (by omega)),qB4 h cs 11 hh hc];cases s.drop (i+1) <;> simp[textGo,h1]
   rw[if_neg (by rw[decide_eq_true_eq]; omega),qAt];by_cases h2:c.toNat=34
   ·have e:decide ((c.toNat:Int)=34)=true:=decide_eq_true (by omega);have ea:(byteRows acc).length=acc.length:=by simp[byteRows]
    simp only[e,qBT,qGZ G,ea,qBG,qB9,qAQ,qAt];by_cases h3:200<acc.length
    ·rw[if_pos (decide_eq_true (by omega)),qB4 h cs 4 hh hc];cases s.drop (i+1) <;> simp[textGo,h1,h2,h3]
    ·rw[if_neg (by rw[decide_eq_true_eq]; omega),if_pos trivial,qI7 G,qBU _ _ (Tok.cells ⟨2,acc,0,0⟩) rfl,qAj,qAM _ (by omega) (by omega),qAX 4 2 1 _ cs _ _ hh (by decide) hc rfl,qAH,qAH,qAI _ _ rfl];cases s.drop (i+1) <;> simp[textGo,h1,h2,h3,One.val,oneOf]
   ·have e:decide ((c.toNat:Int)=34)=false:=decide_eq_false (by omega);simp only[e,qBA,qBh,qCN,qAt];have plain:∀ (hn:¬ (c.toNat=92∧i+1<s.length)),textGo (c::s.drop (i+1)) acc i=textGo (s.drop (i+1)) (acc++[c]) (i+1):=by
     intro hn;cases hr:s.drop (i+1) with
     |nil=>simp[textGo,h1,h2]
     |cons d t =>
      have:i+1<s.length:=by
       have:=congrArg List.length hr; simp at this; omega
      have:¬ c.toNat=92:=fun e=>hn ⟨e,this⟩
      simp[textGo,h1,h2,this]
    have go:∀ (x:UInt8) (j:Nat) (hj:i≤j) (hjl:j+1≤s.length) (dd:Nat) (hd0:dd∈[22,68]) (hd1:dd≠2) (hd2:dd+1<1048576) (t':Nat), 
      (vop (orc S (lim tab.get S)) (.bslice 1 1 [(.p (.int .u8 0))] [(0,(.k (kU x)))] false) h t' fun x67 h=>vop (orc S (lim tab.get S)) (.append 1 1 false (.k (.v (.c v))) (.k x67)) h dd fun x68 h=>lim tab.get S 121 0 2 [kS s,.v (.c (.ptr (.own 2 1) 0)),x68,kI (j:Int)] h)=some ((textGo (s.drop (j+1)) (acc++[x]) (j+1)).val,[]):=by
     intro x j hj hjl dd hd0 hd1 hd2 t';rw[qAU (.bslice 1 1 [(.p (.int .u8 0))] [(0,(.k (kU x)))] false) (kSl 1 true [[.int .u8 (x.toNat:Int)]]) rfl];obtain⟨v',h',G',e',keep⟩:=qDt (by':=1) (new:=[[.int .u8 (x.toNat:Int)]]) true G hd0 (by simp) (by simp) (by simp[byteRows]; omega) hd2;rw[e',w121_2,b121_2,qAj,qAM _ (by omega) (by omega)];rw[qHB] at G';have:=ih (j+1) (acc++[x]) v' h' cs (by omega) hjl (by simp; omega) G' (keep 2 1 _ (Ne.symm hd1) hh (fun e=>hcc (by cases e; rfl))) hc;rw[show((j:Int)+1)=((j+1:Nat):Int) by omega];exact this
    by_cases h4:c.toNat=92
    ·have e4:decide ((c.toNat:Int)=92)=true:=decide_eq_true (by omega);have ew:IntKind.i64.wrap ((i:Int)+1)=((i+1:Nat):Int):=by rw[qAM _ (by omega) (by omega)]; omega
     simp only[e4,qBT,qAj,qAY,qAi,qB9,qAQ,ew];by_cases h5:i+1<s.length
     ·obtain⟨d,hdb⟩:∃ d,s[i+1]?=some d:=⟨s[i+1]'h5,by simp⟩;have hd':s.drop (i+1)=d::s.drop (i+1+1):=by
       obtain⟨q1,q2⟩:=List.getElem?_eq_some_iff.1 hdb;rw[List.drop_eq_getElem_cons q1,q2]
      have key:textGo (c::s.drop (i+1)) acc i=match meantM d with|none=>bad 11|some x=>textGo (s.drop (i+1+1)) (acc++[x]) (i+2):=by
       rw[hd']; simp[textGo,h1,h2,h4]
      rw[if_pos (decide_eq_true (by omega)),qCY s (i+1) d hdb,qAE 146 _ _ rfl (qOH d) (by unfold meantV; split <;> rfl),key];unfold meantV;cases hmd:meantM d with
      |none =>
       dsimp only;rw[qAV _ 0 _ rfl,qAV _ 1 _ rfl,qH8];exact qB4 h cs 11 hh hc (orc S (lim tab.get S)) 64
      |some x =>
       dsimp only;rw[qAV _ 0 _ rfl,qAV _ 1 _ rfl,qH8,qAQ,if_neg (by decide)];exact go x (i+1) (by omega) (by omega) 68 (by decide) (by decide) (by decide) 67
     ·rw[if_neg (by rw[decide_eq_true_eq]; omega),plain (fun q=>h5 q.2)];exact go c i (by omega) (by omega) 22 (by decide) (by decide) (by decide) 21
    ·have e4:decide ((c.toNat:Int)=92)=false:=decide_eq_false (by omega);simp only[e4,qBA,qBh,qCN];rw[plain (fun q=>h4 q.1)];exact go c i (by omega) (by omega) 22 (by decide) (by decide) (by decide) 21
  ·rw[w121_1,b121_1,qAY,qAi,qAQ,if_neg (by rw[decide_eq_true_eq]; omega),w121_3,b121_3,qB4 h cs 11 hh hc];rw[List.drop_eq_nil_of_le (by omega)]; rfl
def textM(s:List UInt8):One:=textGo (s.drop 1) [] 1
theorem qOU(s:List UInt8)(hs:s.length≤1073741824)(h1:1≤s.length):Om 121 [kS s] []=some ((textM s).val,[]):=by
 refine(qAB rfl).trans ?_;show lim tab.get S 121 0 0 [kS s] h0=_;rw[w121_0,b121_0,qCd];exact qNM s hs s.length 1 [] _ _ _ (by omega) h1 (by simp) (Grow.nil _ 1 _) (Heap.own_get _ _ _ _ (by decide) (fun e=>by cases e)) rfl
open Go Go.AI
def isSingle(n:Nat):Bool:=Nat.beq n 123||Nat.beq n 125||Nat.beq n 60||Nat.beq n 62||Nat.beq n 44||Nat.beq n 58||Nat.beq n 40||Nat.beq n 41||Nat.beq n 46||Nat.beq n 36||Nat.beq n 124||Nat.beq n 61||Nat.beq n 59
def isBlank(n:Nat):Bool:=Nat.beq n 32||Nat.beq n 9||Nat.beq n 10||Nat.beq n 13
theorem qNP(b:UInt8):Om 84 [kS [123,125,60,62,44,58,40,41,46,36,124,61,59],kS [b]] []=some (kB (isSingle b.toNat),[]):=by
 refine(qAB rfl).trans ?_;have:=qFY (T:=tab.get) (S:=S) blks_ok (f:=84) (p:=isSingle) (N:=60) (av:=fun n=>[kS [123,125,60,62,44,58,40,41,46,36,124,61,59],kS [UInt8.ofNat n]]) (by kernel_rfl) b;rw[UInt8.ofNat_toNat] at this;exact this
theorem qOL(b:UInt8):Om 84 [kS [32,9,10,13],kS [b]] []=some (kB (isBlank b.toNat),[]):=by
 refine(qAB rfl).trans ?_;have:=qFY (T:=tab.get) (S:=S) blks_ok (f:=84) (p:=isBlank) (N:=60) (av:=fun n=>[kS [32,9,10,13],kS [UInt8.ofNat n]]) (by kernel_rfl) b;rw[UInt8.ofNat_toNat] at this;exact this
theorem qMj:Om 147 [kS [45,62,32,58,61]] []=some (.v (.c (.p (.slice 1 true [[.str [45,62]],[.str [58,61]]]))),[]) :=
 (qAB rfl).trans (qBz blks_ok 200 147 0 0 _ _ _ (by kernel_rfl))
def two1:List UInt8:=[45,62]
def two2:List UInt8:=[58,61]
def signM(s:List UInt8):One :=
 if s.take 2=two1 then ⟨⟨4,two1,0,0⟩,2,0⟩ else if s.take 2=two2 then ⟨⟨4,two2,0,0⟩,2,0⟩
 else match s with
  |[]=>bad 11
  |c::_=>if isSingle c.toNat then ⟨⟨4,[c],0,0⟩,1,0⟩ else bad 11
theorem qOc(s:List UInt8)(c:UInt8)(t:List UInt8)(hs:s=c::t)(h:Heap)(cs:List Cell)(hh:h.get (.own 2 1)=some (.cells cs 0))(hc:cs.length=4) :
  lim tab.get S 122 0 2 [kS s,.v (.c (.ptr (.own 2 1) 0))] h=some ((if isSingle c.toNat then ⟨⟨4,[c],0,0⟩,1,0⟩ else bad 11:One).val,[]):=by
 have hl:1≤s.length:=by rw[hs]; simp
 have e1:s.take 1=[c]:=by rw[hs]; rfl
 have e2:kI 1=kI ((1:Nat):Int):=rfl;have sl:=fun(O:Oracle) (h:Heap) (d:Nat) (k:TVal→Heap→Res1)=>qE2 (O:=O) (h:=h) (d:=d) (k:=k) s 1 hl
 rw[w122_2,b122_2];rw[show(∀ (O:Oracle) (h:Heap) (d:Nat) (k:TVal→Heap→Res1),vop O (.slice 0 true (.k (kS s)) none (some (.k (kI 1))) none) h d k=k (kS (s.take 1)) h) from sl];rw[e1,qAE 84 _ _ rfl (qNP c) rfl,qH8,qAQ];cases hp:isSingle c.toNat with
 |false=>rw[if_pos (show(!false)=true from rfl)]; exact qB4 h cs 11 hh hc (orc S (lim tab.get S)) 25
 |true =>
  rw[if_neg (show ¬ (!true)=true by decide)];rw[show(∀ (O:Oracle) (h:Heap) (d:Nat) (k:TVal→Heap→Res1),vop O (.slice 0 true (.k (kS s)) none (some (.k (kI 1))) none) h d k=k (kS (s.take 1)) h) from sl];rw[e1,qBU _ _ (Tok.cells ⟨4,[c],0,0⟩) rfl,qAX 4 2 1 _ cs _ _ hh (by decide) hc rfl,qAH,qAH,qAI _ _ rfl];rfl
theorem qPC(s:List UInt8)(hs:1≤s.length):Om 122 [kS s] []=some ((signM s).val,[]):=by
 obtain⟨c,t,hct⟩:∃ c t,s=c::t:=by cases s with
  |nil=>simp at hs
  |cons c t=>exact⟨c,t,rfl⟩
 refine(qAB rfl).trans ?_;show lim tab.get S 122 0 0 [kS s] h0=_;rw[w122_0,b122_0,qCd,qAE 147 _ _ rfl qMj rfl,qGD];have hh:=Heap.own_get h0 2 (h0.gen 2+1) (.cells [.p (.int .i64 0),.p (.str []),.p (.int .i64 0),.p (.int .i64 0)] 0) (by decide) (fun e=>by cases e);generalize (h0.own 2 (h0.gen 2+1) (.cells [.p (.int .i64 0),.p (.str []),.p (.int .i64 0),.p (.int .i64 0)] 0))=h at hh;have step:∀ (i:Nat) (two:List UInt8),[[PVal.str [45,62]],[PVal.str [58,61]]][i]?=some [.str two]→two.length=2→i≤1 →
   lim tab.get S 122 0 1 [kS s,.v (.c (.ptr (.own 2 (h0.gen 2+1)) 0)),.v (.c (.p (.slice 1 true [[.str [45,62]],[.str [58,61]]]))),kI (2:Nat),kI (i:Int)] h =
    if s.take 2=two then some ((⟨⟨4,two,0,0⟩,2,0⟩:One).val,[]) else lim tab.get S 122 0 1 [kS s,.v (.c (.ptr (.own 2 (h0.gen 2+1)) 0)),.v (.c (.p (.slice 1 true [[.str [45,62]],[.str [58,61]]]))),kI (2:Nat),kI ((i+1:Nat):Int)] h:=by
  intro i two hi htl hi1;rw[w122_1,b122_1,qAi,qAQ,if_pos (decide_eq_true (by omega)),qDp 1 _ _ i _ hi,qKx 1 0 _ (.str two) rfl,qAE 99 _ _ rfl (qG9 s two) rfl,qAQ,htl];by_cases he:s.take 2=two
  ·rw[if_pos (decide_eq_true he),if_pos he,qBU _ _ (Tok.cells ⟨4,two,0,0⟩) rfl,qAY,htl,qAX 4 2 _ _ _ _ _ hh (by decide) rfl rfl,qAH,qAH,qAI _ _ rfl];rfl
  ·rw[if_neg (by rw[decide_eq_true_eq]; exact he),if_neg he,qAj,qAM _ (by omega) (by omega)];rfl
 have s0:=step 0 [45,62] rfl rfl (by omega);have s1:=step 1 [58,61] rfl rfl (by omega);show lim tab.get S 122 0 1 [_,_,_,kI (2:Nat),kI ((0:Nat):Int)] h=_;rw[s0,s1];unfold signM two1 two2;split
 ·rfl
 split
 ·rfl
 rw[w122_1,b122_1,qAi,qAQ,if_neg (by rw[decide_eq_true_eq]; omega)];refine(qOc s c t hct h _ hh rfl).trans ?_;rw[hct]
open Go Go.AI
def numHead:List UInt8→Bool
 |[]=>false
 |c::t=>isDigit c.toNat||(decide (c.toNat=45)&&match t with|[]=>false|d::_=>isDigit d.toNat)
def oneM(s:List UInt8):One :=
 match s with
 |[]=>bad 11
 |c::_=>if isLetter c.toNat then wrdM s else if numHead s then numberM s else if c.toNat=34 then textM s else signM s
theorem qEC(r:One)(h:Heap)(cs:List Cell)(hh:h.get (.own 2 1)=some (.cells cs 0))(hc:cs.length=4) :
  (vext r.val 0 h fun x13 h=>vext r.val 1 h fun x14 h=>vext r.val 2 h fun x15 h=>vstore 4 (.v (.c (.ptr (.own 2 1) 0))) x13 h fun _ h=>vcell true 4 (.v (.c (.ptr (.own 2 1) 0))) h fun c0=>tcomp x14 fun c1=>tcomp x15 fun c2=>vfin true 0 [c0,c1,c2] h)=some (r.val,[]):=by
 rw[show r.val = .tup [.agg r.t.cells,.c (.p (.int .i64 r.n)),.c (.p (.int .i64 r.e))] from rfl,qAV _ 0 _ rfl,qAV _ 1 _ rfl,qAV _ 2 _ rfl,qAX 4 2 1 _ cs _ _ hh (by decide) hc rfl,qAH,qAH,qAI _ _ rfl];rfl
theorem qEH(s:List UInt8)(c:UInt8)(t:List UInt8)(hct:s=c::t)(hs:s.length≤1073741824)(b:Bool)(h:Heap)(cs:List Cell)(hh:h.get (.own 2 1)=some (.cells cs 0))(hc:cs.length=4) :
  lim tab.get S 85 0 1 [kS s,.v (.c (.ptr (.own 2 1) 0)),kU c,kB b] h=some ((if b then numberM s else if c.toNat=34 then textM s else signM s).val,[]):=by
 have hl:1≤s.length:=by rw[hct]; simp
 rw[w85_1,b85_1,qAQ];cases b with
 |true =>
  rw[if_pos rfl,qAE 120 _ _ rfl (qM5 s (by omega)) rfl];exact qEC _ h cs hh hc
 |false =>
  rw[if_neg (by decide),qAt,qAQ];by_cases h1:c.toNat=34
  ·rw[if_pos (decide_eq_true (by omega)),qAE 121 _ _ rfl (qOU s hs hl) rfl];simp only[h1,if_true];exact qEC _ h cs hh hc
  ·rw[if_neg (by rw[decide_eq_true_eq]; omega),qAE 122 _ _ rfl (qPC s hl) rfl];simp only[h1,if_false];exact qEC _ h cs hh hc
theorem qQn(s:List UInt8)(hs:s.length≤1073741824)(hl:1≤s.length):Om 85 [kS s] []=some ((oneM s).val,[]):=by
 obtain⟨c,t,hct⟩:∃ c t,s=c::t:=by cases s with
  |nil=>simp at hl
  |cons c t=>exact⟨c,t,rfl⟩
 have hc0:s[0]?=some c:=by rw[hct]; rfl
 refine(qAB rfl).trans ?_;show lim tab.get S 85 0 0 [kS s] h0=_;rw[w85_0,b85_0,qCd];have hh:(h0.own 2 (h0.gen 2+1) (.cells [.p (.int .i64 0),.p (.str []),.p (.int .i64 0),.p (.int .i64 0)] 0)).get (.own 2 1)=_:=Heap.own_get h0 2 (h0.gen 2+1) (.cells [.p (.int .i64 0),.p (.str []),.p (.int .i64 0),.p (.int .i64 0)] 0) (by decide) (fun e=>by cases e);generalize (h0.own 2 (h0.gen 2+1) (.cells [.p (.int .i64 0),.p (.str []),.p (.int .i64 0),.p (.int .i64 0)] 0))=h at hh;rw[show h0.gen 2+1=1 from rfl];have ei:∀ (k:TVal→Heap→Res1),vindex (kS s) (kI 0) h k=k (kU c) h:=fun k=>qCY s 0 c hc0
 rw[ei,qAE 118 _ _ rfl (qMb c) rfl,qAQ];have hO:oneM s=if isLetter c.toNat then wrdM s else if numHead s then numberM s else if c.toNat=34 then textM s else signM s:=by rw[hct]; rfl
 rw[hO];cases hL:isLetter c.toNat with
 |true =>
  rw[if_pos rfl,qAE 119 _ _ rfl (qQF s) rfl];exact qEC _ h _ hh rfl
 |false =>
  rw[if_neg (by decide),qAE 107 _ _ rfl (qE6 c) rfl,qAQ];simp only[Bool.false_eq_true,if_false];cases hD:isDigit c.toNat with
  |true =>
   have hN:numHead s=true:=by rw[hct]; simp[numHead,hD]
   rw[if_pos rfl,hN];exact qEH s c t hct hs true h _ hh rfl
  |false =>
   rw[if_neg (by decide),qAt];by_cases h45:c.toNat=45
   ·have e:decide ((c.toNat:Int)=45)=true:=decide_eq_true (by omega);simp only[e,qBT,qAY,qBG,qB9];cases t with
    |nil =>
     have e1:decide ((1:Int)<(s.length:Int))=false:=decide_eq_false (by rw[hct]; simp);have hN:numHead s=false:=by rw[hct]; simp[numHead,hD]
     simp only[e1,qBA,qBh];rw[hN];exact qEH s c [] hct hs false h _ hh rfl
    |cons d u =>
     have e1:decide ((1:Int)<(s.length:Int))=true:=decide_eq_true (by rw[hct]; simp; omega);have hN:numHead s=isDigit d.toNat:=by rw[hct]; show(isDigit c.toNat||(decide (c.toNat=45)&&isDigit d.toNat))=_; rw[hD,decide_eq_true h45]; rfl
     have ei1:∀ (k:TVal→Heap→Res1),vindex (kS s) (kI 1) h k=k (kU d) h:=fun k=>qCY s 1 d (by rw[hct]; rfl)
     simp only[e1,qBT,ei1,qB9];rw[qAE 107 _ _ rfl (qE6 d) rfl,hN];exact qEH s c (d::u) hct hs _ h _ hh rfl
   ·have e:decide ((c.toNat:Int)=45)=false:=decide_eq_false (by omega);have hN:numHead s=false:=by rw[hct]; simp[numHead,hD,h45]
    simp only[e,qBA,qBh];rw[hN];exact qEH s c t hct hs false h _ hh rfl
open Go Go.AI
theorem qHC:∀ (k:Nat) (s acc:List UInt8) (i:Nat),s.length≤k→(textGo s acc i).e=0→∃ n:Nat,(textGo s acc i).n=n∧i+1≤n∧n≤i+s.length:=by
 intro k
 induction k with
 |zero =>
  intro s acc i hk he;cases s with
  |nil=>simp[textGo,bad] at he
  |cons _ _=>simp at hk
 |succ k ih =>
  intro s acc i hk he
  match s,hk,he with
  |[],_,he=>simp[textGo,bad] at he
  |[c],_,he =>
   unfold textGo at he ⊢;by_cases h1:c.toNat<32
   ·rw[if_pos h1] at he; simp[bad] at he
   rw[if_neg h1] at he ⊢;by_cases h2:c.toNat=34
   ·rw[if_pos h2] at he ⊢;by_cases h3:200<acc.length
    ·rw[if_pos h3] at he; simp[bad] at he
    ·rw[if_neg h3]; exact⟨i+1,rfl,by omega,by simp⟩
   ·rw[if_neg h2] at he; simp[bad] at he
  |c::d::s,hk,he =>
   unfold textGo at he ⊢;by_cases h1:c.toNat<32
   ·rw[if_pos h1] at he; simp[bad] at he
   rw[if_neg h1] at he ⊢;by_cases h2:c.toNat=34
   ·rw[if_pos h2] at he ⊢;by_cases h3:200<acc.length
    ·rw[if_pos h3] at he; simp[bad] at he
    ·rw[if_neg h3]; exact⟨i+1,rfl,by omega,by simp⟩
   rw[if_neg h2] at he ⊢;by_cases h4:c.toNat=92
   ·rw[if_pos h4] at he ⊢;cases hm:meantM d with
    |none=>rw[hm] at he; simp[bad] at he
    |some x =>
     rw[hm] at he;obtain⟨n,e1,e2,e3⟩:=ih s (acc++[x]) (i+2) (by simp at hk; omega) he;exact⟨n,e1,by omega,by simp; omega⟩
   ·rw[if_neg h4] at he ⊢;obtain⟨n,e1,e2,e3⟩:=ih (d::s) (acc++[c]) (i+1) (by simp at hk ⊢; omega) he;exact⟨n,e1,by omega,by simp at e3 ⊢; omega⟩
theorem qKs(s:List UInt8)(hl:1≤s.length)(he:(oneM s).e=0):∃ n:Nat,(oneM s).n=n∧1≤n∧n≤s.length:=by
 obtain⟨c,t,hct⟩:∃ c t,s=c::t:=by cases s with
  |nil=>simp at hl
  |cons c t=>exact⟨c,t,rfl⟩
 have hO:oneM s=if isLetter c.toNat then wrdM s else if numHead s then numberM s else if c.toNat=34 then textM s else signM s:=by rw[hct]; rfl
 rw[hO] at he ⊢;by_cases h1:isLetter c.toNat=true
 ·rw[if_pos h1] at he ⊢;unfold wrdM at he ⊢;by_cases h2:16<runLen isWord s
  ·rw[if_pos h2] at he; simp[bad] at he
  ·rw[if_neg h2];refine⟨runLen isWord s,rfl,?_,qCG _ _⟩;rw[hct]; simp[runLen,isWord,h1]
 rw[if_neg h1] at he ⊢;by_cases h2:numHead s=true
 ·rw[if_pos h2] at he ⊢;unfold numberM at he ⊢;by_cases h3:19<runLen isDigit (s.drop (neg s))
  ·rw[if_pos h3] at he; simp[bad] at he
  rw[if_neg h3] at he ⊢;by_cases h4:9223372036854775807+neg s<numVal ((s.drop (neg s)).take (runLen isDigit (s.drop (neg s))))
  ·rw[if_pos h4] at he; simp[bad] at he
  rw[if_neg h4];refine⟨neg s+runLen isDigit (s.drop (neg s)),rfl,?_,?_⟩
  ·by_cases h45:c=45
   ·have:neg s=1:=by unfold neg; rw[hct,h45]; rfl
    omega
   ·have hn:neg s=0:=by unfold neg; rw[hct]; rw[if_neg (by simp[h45])]
    have hc45:¬ c.toNat=45:=fun e=>h45 (UInt8.toNat_inj.1 e)
    have hd:isDigit c.toNat=true:=by
     rw[hct] at h2;have h2':(isDigit c.toNat||(decide (c.toNat=45)&&_))=true:=h2;rw[decide_eq_false hc45] at h2'
     simpa using h2'
    rw[hn,hct];simp[runLen,hd]
  ·have:=qCG isDigit (s.drop (neg s));simp at this;unfold neg at this ⊢;split
   ·rename_i h; rw[if_pos h] at this; have:=congrArg List.length h; simp at this; omega
   ·rename_i h; rw[if_neg h] at this; omega
 rw[if_neg h2] at he ⊢;by_cases h3:c.toNat=34
 ·rw[if_pos h3] at he ⊢;obtain⟨n,e1,e2,e3⟩:=qHC _ (s.drop 1) [] 1 (Nat.le_refl _) he;exact⟨n,e1,by omega,by simp at e3; omega⟩
 rw[if_neg h3] at he ⊢;unfold signM at he ⊢;by_cases h4:s.take 2=two1
 ·rw[if_pos h4];have:=congrArg List.length h4;simp[two1] at this;exact⟨2,rfl,by omega,by omega⟩
 rw[if_neg h4] at he ⊢;by_cases h5:s.take 2=two2
 ·rw[if_pos h5];have:=congrArg List.length h5;simp[two2] at this;exact⟨2,rfl,by omega,by omega⟩
 rw[if_neg h5] at he ⊢;rw[hct] at he ⊢;dsimp only at he ⊢;by_cases h6:isSingle c.toNat=true
 ·rw[if_pos h6]; exact⟨1,rfl,by omega,by simp⟩
 ·rw[if_neg h6] at he; simp[bad] at he
def toksGo:Nat→List UInt8→Nat→List Tok→Except Int (List Tok)
 |0,_,_,acc => .ok acc
 |f+1,s,i,acc =>
  let k:=runLen isBlank s
  match s.drop k with
  |[] => .ok acc
  |c::r =>
   let o:=oneM (c::r)
   if o.e=0 then toksGo f ((c::r).drop o.n.toNat) (i+k+o.n.toNat) (acc++[{ o.t with pos:=((i+k:Nat):Int) }]) else .error o.e
def toksFin:Except Int (List Tok)→Except Int (List Tok)
 |.error e => .error e
 |.ok l=>if 400<l.length then .error 3 else .ok l
def tokensM(s:List UInt8):Except Int (List Tok):=if 1500<s.length then .error 4 else toksFin (toksGo (s.length+1) s 0 [])
def toksVal:Except Int (List Tok)→TVal
 |.error e => .tup [.c (.p .nilslice),.c (.p (.int .i64 e))]
 |.ok l => .tup [.c (.p (growP 4 (l.map Tok.row))),.c (.p (.int .i64 0))]
theorem qKX(s:List UInt8)(hs:s.length≤1500)(v:Cell)(h:Heap):∀ (m i:Nat),s.length - i≤m→i≤s.length →
  lim tab.get S 54 0 2 [kS s,.v (.c v),kI (i:Int)] h=lim tab.get S 54 0 3 [kS s,.v (.c v),kI ((i+runLen isBlank (s.drop i):Nat):Int)] h:=by
 intro m
 induction m with
 |zero =>
  intro i hm hl;have e:decide ((i:Int)<(s.length:Int))=false:=decide_eq_false (by omega);rw[w54_2,b54_2,qAY,qAi,e];simp only[qBA,qBh,qCN];rw[List.drop_eq_nil_of_le (by omega)]; rfl
 |succ m ih =>
  intro i hm hl;by_cases hi:i<s.length
  ·obtain⟨b,hb⟩:∃ b,s[i]?=some b:=⟨s[i]'hi,by simp⟩;have hd:s.drop i=b::s.drop (i+1):=by
    obtain⟨h1,h2⟩:=List.getElem?_eq_some_iff.1 hb;rw[List.drop_eq_getElem_cons h1,h2]
   have e:decide ((i:Int)<(s.length:Int))=true:=decide_eq_true (by omega);have ew:IntKind.i64.wrap ((i:Int)+1)=((i+1:Nat):Int):=by rw[qAM _ (by omega) (by omega)]; omega
   have e1:(s.take (i+1)).drop i=[b]:=by rw[List.drop_take,hd]; simp
   rw[w54_2,b54_2,qAY,qAi,e];simp only[qBT,qAj,ew,qGv s i (i+1) (by omega) (by omega),e1,qB9];rw[qAE 84 _ _ rfl (qOL b) rfl,qAQ,hd];cases hp:isBlank b.toNat with
   |true =>
    rw[if_pos rfl,ih (i+1) (by omega) (by omega)];simp only[runLen,hp,if_true];rw[show i+1+runLen isBlank (s.drop (i+1))=i+(runLen isBlank (s.drop (i+1))+1) by omega]
   |false =>
    rw[if_neg (by decide)];simp only[runLen,hp,Bool.false_eq_true,if_false];rfl
  ·have e:decide ((i:Int)<(s.length:Int))=false:=decide_eq_false (by omega);rw[w54_2,b54_2,qAY,qAi,e];simp only[qBA,qBh,qCN];rw[List.drop_eq_nil_of_le (by omega)]; rfl
theorem qKV(acc:List Tok)(v:Cell)(h:Heap)(G:Grow [46] 4 v (acc.map Tok.row) h):lim tab.get S 54 0 4 [.v (.c v)] h=some (toksVal (toksFin (.ok acc)),[]):=by
 rw[w54_4,b54_4,qGZ G,qBG,qAQ];show _=some (toksVal (if 400<acc.length then .error 3 else .ok acc),[]);by_cases h1:400<acc.length
 ·rw[if_pos (decide_eq_true (by simp; omega)),if_pos h1,qAH,qAH,qAI _ _ rfl]; rfl
 ·rw[if_neg (by rw[decide_eq_true_eq]; simp; omega),if_neg h1,qAH,qAH,qM3 _ G]; rfl
theorem qI5(s:List UInt8)(hs:s.length≤1500):∀ (f i:Nat) (acc:List Tok) (v:Cell) (h:Heap),s.length - i<f→i≤s.length→acc.length≤i→Grow [46] 4 v (acc.map Tok.row) h →
  lim tab.get S 54 0 1 [kS s,.v (.c v),kI (i:Int)] h=some (toksVal (toksFin (toksGo f (s.drop i) i acc)),[]):=by
 intro f
 induction f with
 |zero=>intro i acc v h hm; omega
 |succ f ih =>
  intro i acc v h hm hl ha G;rw[w54_1,b54_1,qKX s hs v h _ i (Nat.le_refl _) hl];unfold toksGo;dsimp only;have hk:=qCG isBlank (s.drop i);simp only[List.length_drop] at hk;generalize hkk:runLen isBlank (s.drop i)=k at hk;rw[w54_3,b54_3,qAY,qAt,qAQ,List.drop_drop];by_cases he:i+k=s.length
  ·rw[if_pos (decide_eq_true (by omega)),List.drop_eq_nil_of_le (by omega)];exact qKV acc v h G
  ·rw[if_neg (by rw[decide_eq_true_eq]; omega),qEx s (i+k) (by omega)];generalize hr:s.drop (i+k)=r;have hrl:r.length=s.length - (i+k):=by rw[← hr]; simp
   obtain⟨c,t,hct⟩:∃ c t,r=c::t:=by cases r with
    |nil=>simp at hrl; omega
    |cons c t=>exact⟨c,t,rfl⟩
   rw[qAE 85 _ _ rfl (qQn r (by omega) (by omega)) rfl];have hb:=qKs r (by omega);rw[hct];dsimp only;rw[← hct];generalize hom:oneM r=o at hb;rw[show o.val = .tup [.agg o.t.cells,.c (.p (.int .i64 o.n)),.c (.p (.int .i64 o.e))] from rfl,qAV _ 0 _ rfl,qAV _ 1 _ rfl,qAV _ 2 _ rfl,qCd];rw[qDJ 4 (.own 6 (h.gen 6+1)) 0 0 _ (.agg o.t.cells) (Heap.own_get _ _ _ _ (by decide) (fun e=>by cases e)) (by decide) rfl (by decide),Heap.put_own,qIB,qAQ];by_cases hoe:o.e=0
   ·obtain⟨n,e1,e2,e3⟩:=hb hoe;clear hb;have q1:s.length - (i+k+n)<f:=by omega
    have q2:i+k+n≤s.length:=by omega
    have q3:acc.length+1≤i+k+n:=by omega
    have q4:(acc.length+1)*40≤1099511627776:=by omega
    have q5:(-9223372036854775808:Int)≤((i+k:Nat):Int)+(n:Int):=by omega
    have q6:((i+k:Nat):Int)+(n:Int)≤9223372036854775807:=by omega
    have q7:(((i+k:Nat):Int)+(n:Int))=((i+k+n:Nat):Int):=by omega
    rw[if_neg (by simp[hoe]),if_pos hoe,qFu];rw[qDJ 1 (.own 6 (h.gen 6+1)) (0+3) 0 _ (.c (.p (.int .i64 ((i+k:Nat):Int)))) (Heap.own_get _ _ _ _ (by decide) (fun e=>by cases e)) (by decide) rfl (by exact Nat.le_refl 4),Heap.put_own];rw[qLv 4 (.own 6 (h.gen 6+1)) 0 0 _ (Heap.own_get _ _ _ _ (by decide) (fun e=>by cases e)) rfl];rw[qAU (.bslice 4 1 _ _ false) (kSl 4 true [Tok.row { o.t with pos:=((i+k:Nat):Int) }]) rfl];have G1:=((G.own (d:=6) (h.gen 6+1) (.cells [.p (.int .i64 0),.p (.str []),.p (.int .i64 0),.p (.int .i64 0)] 0) (by decide)).own (d:=6) (h.gen 6+1) (.cells (splice [.p (.int .i64 0),.p (.str []),.p (.int .i64 0),.p (.int .i64 0)] 0 (Comp.agg o.t.cells).cells) 0) (by decide)).own (d:=6) (h.gen 6+1) (.cells (splice (splice [.p (.int .i64 0),.p (.str []),.p (.int .i64 0),.p (.int .i64 0)] 0 (Comp.agg o.t.cells).cells) (0+3) (Comp.c (.p (.int .i64 ((i+k:Nat):Int)))).cells) 0) (by decide);obtain⟨v',h',G',e',_⟩:=qDt (d:=46) (by':=40) (new:=[Tok.row { o.t with pos:=((i+k:Nat):Int) }]) true G1 (by decide) (by simp) (by simp[Tok.row]) (by simpa using q4) (by decide);refine(e' _ _ _).trans ?_;rw[e1,qAj,qAM _ q5 q6,q7,Int.toNat_natCast];have:=ih (i+k+n) (acc++[{ o.t with pos:=((i+k:Nat):Int) }]) v' h' q1 q2 (by simpa using q3) (by simpa using G');rw[this,← hr,List.drop_drop]
   ·rw[if_pos (by simp[hoe]),if_neg hoe,qAH,qAH,qAI _ _ rfl];rfl
theorem qMR(s:List UInt8):Om 54 [kS s] []=some (toksVal (tokensM s),[]):=by
 refine(qAB rfl).trans ?_;show lim tab.get S 54 0 0 [kS s] h0=_;rw[w54_0,b54_0,qAY,qBG,qAQ];unfold tokensM;by_cases h1:1500<s.length
 ·rw[if_pos (decide_eq_true (by omega)),if_pos h1,qAH,qAH,qAI _ _ rfl]; rfl
 ·rw[if_neg (by rw[decide_eq_true_eq]; omega),if_neg h1];exact qI5 s (by omega) (s.length+1) 0 [] (.p .nilslice) h0 (by omega) (by omega) (by simp) (Grow.nil _ 4 _)
open Go Go.AI
def leadM(key:List UInt8):List (List UInt8)→Nat
 |[]=>0
 |a::l=>if bless a key then leadM key l+1 else 0
theorem qCj(key:List UInt8):∀ l:List (List UInt8),leadM key l≤l.length
 |[]=>Nat.le_refl _
 |a::l=>by
  unfold leadM;split
  ·have:=qCj key l; simp; omega
  ·exact Nat.zero_le _
def putM(v:TT)(key:List UInt8)(x:TT):TT :=
 if v.names.list[leadM key v.names.list]?=some key then v else
  .mk v.kind v.name (.mk false (v.names.list.take (leadM key v.names.list)++[key]++v.names.list.drop (leadM key v.names.list))) (.mk false (v.kids.list.take (leadM key v.names.list)++[x]++v.kids.list.drop (leadM key v.names.list)))
abbrev p3:TVal := .v (.c (.ptr (.own 3 1) 0))
abbrev p5:TVal := .v (.c (.ptr (.own 5 1) 0))
abbrev p6:TVal := .v (.c (.ptr (.own 6 1) 0))
theorem qNf(v:TT)(key:List UInt8)(x5 x6:TVal)(h:Heap)(hv:h.get (.own 3 1)=some (.cells (pcells v.row) 0))(hl:v.names.len≤1000) :
  ∀ i:Nat,lim tab.get S 28 0 1 [kS key,p3,x5,x6,kI (i:Int)] h=lim tab.get S 28 0 2 [kS key,p3,x5,x6,kI ((i+leadM key (v.names.list.drop i):Nat):Int)] h:=by
 refine qB7 v.names.len (fun i hi => ?_) (fun i hi ih => ?_) <;> rw[w28_1,b28_1]
 ·have h1:¬ (i:Int)<(v.names.len:Int):=by omega
  simp (maxSteps:=9999999) +contextual only[exa,ne_eq,not_false_eq_true,reduceAdd,reduceMul,reduceLT,reduceLeDiff,reduceEqDiff,Int.reduceLT,Int.reduceLE,Int.reduceEq,Int.reduceToNat,hv,h1,qBb hi,leadM]
 ·have h1:(i:Int)<(v.names.len:Int):=by omega
  obtain⟨s,hs,h2,_⟩:=qAd hi;cases h3:bless s key
  ·simp (maxSteps:=9999999) +contextual only[exa,ne_eq,not_false_eq_true,reduceAdd,reduceMul,reduceLT,reduceLeDiff,reduceEqDiff,Int.reduceLT,Int.reduceLE,Int.reduceEq,Int.reduceToNat,hv,h1,h2,hs,h3,leadM,Bool.false_eq_true,if_false]
  ·simp (maxSteps:=9999999) +contextual only[exa,ne_eq,not_false_eq_true,reduceAdd,reduceMul,reduceLT,reduceLeDiff,reduceEqDiff,Int.reduceLT,Int.reduceLE,Int.reduceEq,Int.reduceToNat,hv,h1,h2,hs,h3,leadM,if_true,qBW i (by omega),ih];rw[show i+1+leadM key (v.names.list.drop (i+1))=i+(leadM key (v.names.list.drop (i+1))+1) by omega]
def putK(v:TT)(key:List UInt8)(x:TT)(k:Nat):TT :=
 if v.names.list[k]?=some key then v else .mk v.kind v.name (.mk false (v.names.list.take k++[key]++v.names.list.drop k)) (.mk false (v.kids.list.take k++[x]++v.kids.list.drop k))
theorem qEL{β:Type}{O:Oracle}{h:Heap}{d:Nat}{op:AOp}{v':TVal}{h':Heap}{t:AI.Touch}(e:∀ (β:Type) (O:Oracle) (kt:TVal→Heap→AI.Touch→Option β),vtouch O op h d kt=kt v' h' t)(k:TVal→Heap→Option β):vop O op h d k=k v' h':=by
 rw[qGd,e]
theorem qPd(v x:TT)(key:List UInt8)(k:Nat)(h:Heap)(hv:h.get (.own 3 1)=some (.cells (pcells v.row) 0))(hx:h.get (.own 5 1)=some (.cells (pcells x.row) 0))(h6:∃ cs,cs.length=4∧h.get (.own 6 1)=some (.cells cs 0))
  (hk:k≤v.names.len) (hk2:k≤v.kids.len) (hl:v.names.len≤1000) (hl2:v.kids.len≤1000) :
  lim tab.get S 28 0 2 [kS key,p3,p5,p6,kI (k:Int)] h=some (kA (putK v key x k).row,[]):=by
 obtain⟨cs,hcs,h6⟩:=h6;rw[w28_2,b28_2];by_cases hkey:v.names.list[k]?=some key
 ·have h1:(k:Int)<(v.names.len:Int):=by
   have:=(List.getElem?_eq_some_iff.1 hkey).1;unfold Sl.len; omega
  simp (maxSteps:=9999999) +contextual only[exa,ne_eq,not_false_eq_true,reduceAdd,reduceMul,reduceLT,reduceLeDiff,reduceEqDiff,Int.reduceLT,Int.reduceLE,Int.reduceEq,Int.reduceToNat,hv,hx,h6,h1,hkey,hcs,BEq.rfl,putK,if_true,oneOf]
 ·obtain⟨bk,hbk,pk⟩:=qJe 1 sRow v.names k hk;obtain⟨dk,hdk,qk⟩:=qJJ 1 sRow v.names k hk;obtain⟨bl,hbl,pl⟩:=qJe 4 TT.row v.kids k hk2;obtain⟨dl,hdl,ql⟩:=qJJ 4 TT.row v.kids k hk2;have r1:∀ l:List (List UInt8),∀ r∈l.map sRow,r.length=1:=fun l r hr=>by obtain⟨_,_,rfl⟩:=List.mem_map.1 hr; rfl
  have r6:∀ l:List TT,∀ r∈l.map TT.row,r.length=4:=fun l r hr=>by obtain⟨a,_,rfl⟩:=List.mem_map.1 hr; exact TT.row_len a
  have n1:v.names.list.length≤1000:=hl;have n2:v.kids.list.length≤1000:=hl2;have m1:∀ l:List TT,(l.map TT.row).length=l.length:=fun l=>List.length_map _
  have m2:∀ l:List (List UInt8),(l.map sRow).length=l.length:=fun l=>List.length_map _
  obtain⟨c1,h1,t1,G1,e1,T1,K1,I1,X1⟩:=qCR (h:=h) (d:=46) (D:=[46,56,61]) (sz:=1) (by':=16) (v := .p (.slice 1 true [])) (rows:=[]) hbk (.inr (.inl rfl)) (by decide) (r1 _) (by simp[m2]; omega) (by decide);obtain⟨c2,h2,t2,G2,e2,T2,K2,I2,X2⟩:=qCR (h:=h1) (d:=52) (D:=[52,65,70]) (sz:=4) (by':=72) (v := .p (.slice 4 true [])) (rows:=[]) hbl (.inr (.inl rfl)) (by decide) (r6 _) (by simp[m1]; omega) (by decide);have G1':GS [46,56,61] 1 c1 ([]++(v.names.list.take k).map sRow) h2:=G1.keep fun e he g hh=>K2 e g _ (by revert he; simp; omega) hh
  obtain⟨c3,h3,t3,G3,e3,T3,K3,I3,X3⟩:=qCR (h:=h2) (d:=56) (sz:=1) (by':=16) (new:=[[.str key]]) (b := .slice 1 true [[.str key]]) (.inr ⟨_,rfl⟩) G1' (by decide) (fun r hr=>by simp at hr; rw[hr]; rfl) (by simp[m2]; omega) (by decide);obtain⟨c4,h4,t4,G4,e4,T4,K4,I4,X4⟩:=qCR (d:=61) (by':=16) hdk G3 (by decide) (r1 _) (by simp[m2]; omega) (by decide);have G2':GS [52,65,70] 4 c2 ([]++(v.kids.list.take k).map TT.row) h4:=G2.keep fun e he g hh=>K4 e g _ (by revert he; simp; omega) (K3 e g _ (by revert he; simp; omega) hh)
  obtain⟨c5,h5,t5,G5,e5,T5,K5,I5,X5⟩:=qCR (d:=65) (by':=72) (new:=[x.row]) (b := .slice 4 true [x.row]) (.inr ⟨_,rfl⟩) G2' (by decide) (fun r hr=>by simp at hr; rw[hr]; exact TT.row_len x) (by simp[m1]; omega) (by decide);obtain⟨c6,h6',t6,G6,e6,T6,K6,I6,X6⟩:=qCR (d:=70) (by':=72) hdl G5 (by decide) (r6 _) (by simp[m1]; omega) (by decide);obtain⟨ra,ea⟩:=X4 (.inr (X3 (.inl (by simp))));obtain⟨rb,eb⟩:=X6 (.inr (X5 (.inl (by simp))));have keep:∀ e o,e∉[46,56,61,52,65,70]→h.get (.own e 1)=some o→(h1.get (.own e 1)=some o∧h2.get (.own e 1)=some o)∧(h3.get (.own e 1)=some o∧h4.get (.own e 1)=some o)∧h5.get (.own e 1)=some o∧h6'.get (.own e 1)=some o:=by
   intro e o he ho;have a1:=K1 e 1 o (by revert he; simp <;> omega) ho;have a2:=K2 e 1 o (by revert he; simp <;> omega) a1;have a3:=K3 e 1 o (by revert he; simp <;> omega) a2;have a4:=K4 e 1 o (by revert he; simp <;> omega) a3;have a5:=K5 e 1 o (by revert he; simp <;> omega) a4;exact⟨⟨a1,a2⟩,⟨a3,a4⟩,a5,K6 e 1 o (by revert he; simp <;> omega) a5⟩
  obtain⟨⟨v1,v2⟩,⟨v3,v4⟩,v5,v6⟩:=keep 3 _ (by decide) hv;obtain⟨⟨x1,x2⟩,⟨x3,x4⟩,x5,x6⟩:=keep 5 _ (by decide) hx;obtain⟨⟨y1,y2⟩,⟨y3,y4⟩,y5,y6⟩:=keep 6 _ (by decide) h6;have A1:AI.Touch.apart t3 ⟨[(Ref.own 5 1).site],[],false⟩=true:=qAo T3 5 (by decide);have A2:AI.Touch.apart t4 ⟨[(Ref.own 5 1).site],[],false⟩=true:=qAo T4 5 (by decide);have A3:AI.Touch.apart t3 ⟨[(Ref.own 3 1).site],[],false⟩=true:=qAo T3 3 (by decide);have A4:AI.Touch.apart t4 ⟨[(Ref.own 3 1).site],[],false⟩=true:=qAo T4 3 (by decide);have A5:AI.Touch.apart t5 ⟨[(Ref.own 3 1).site],[],false⟩=true:=qAo T5 3 (by decide);have P1:put1 (pcells v.row) 2 [c4]=[.p (.int .i64 v.kind),.p (.str v.name),c4,.p (slP 4 TT.row v.kids)]:=by rw[TT.row_eq]; rfl
  have P2:∀ a b f:Cell,put1 [a,b,c4,f] 3 [c6]=[a,b,c4,c6]:=fun _ _ _=>rfl
  have P3:∀ a b c d:Cell,put1 cs 0 [a,b,c,d]=[a,b,c,d]:=fun _ _ _ _=>qBF _ _ (by rw[hcs]; rfl)
  have F:∀ h,vfin true 0 [.agg [.p (.int .i64 v.kind),.p (.str v.name),c4,c6]] h=some (kA (putK v key x k).row,[]):=by
   intro h;rw[ea,eb,qLg _ rfl,putK,if_neg hkey,TT.row_eq (TT.mk _ _ _ _)];show _=some (kA [.int .i64 v.kind,.str v.name,slP 1 sRow (.mk false (v.names.list.take k++[key]++v.names.list.drop k)),slP 4 TT.row (.mk false (v.kids.list.take k++[x]++v.kids.list.drop k))],[]);simp only[oneOf,slP,pcells,Comp.strip,Cell.strip,List.map_append,List.map_cons,List.map_nil,List.nil_append];rfl
  have B1:∀ {β:Type}{O:Oracle}{h:Heap}{d:Nat}{kt:TVal→Heap→AI.Touch→Option β},vtouch O (.bslice 1 1 [.p (.str [])] [(0,.k (kS key))] false) h d kt=kt (kSl 1 true [[.str key]]) h noTouch:=qD1 _ _ rfl;have B2:∀ {β:Type}{O:Oracle}{h:Heap}{d:Nat}{kt:TVal→Heap→AI.Touch→Option β},vtouch O (.bslice 4 1 [.p (.int .i64 0),.p (.str []),.p .nilslice,.p .nilslice] [(0,.k (.v (.agg (pcells x.row))))] false) h d kt=kt (kSl 4 true [x.row]) h noTouch:=qFB 4 _ _ rfl (TT.row_len x);by_cases hlt:(k:Int)<(v.names.len:Int)
  ·obtain⟨s,hs,_,_⟩:=qAd (l:=v.names.list) (i:=k) (by unfold Sl.len at hlt; omega);have hne:¬ s=key:=fun e=>hkey (by rw[hs,e])
   simp (maxSteps:=9999999) +contextual only[exa,ne_eq,not_false_eq_true,reduceAdd,reduceMul,reduceLT,reduceLeDiff,reduceEqDiff,Int.reduceLT,Int.reduceLE,Int.reduceEq,Int.reduceToNat,exY,hv,hx,h6,hlt,hs,hne,hcs,hkey,qAU _ _ pk,qAU _ _ pl,qA7 _ _ qk,qA7 _ _ ql,qEL e1,qEL e2,e3,e4,e5,e6,v1,v2,v3,v4,v5,v6,x1,x2,x3,x4,x5,x6,y6,B1,B2,qB1,A1,A2,A3,A4,A5,P1,P2,P3];exact F _
  ·simp (maxSteps:=9999999) +contextual only[exa,ne_eq,not_false_eq_true,reduceAdd,reduceMul,reduceLT,reduceLeDiff,reduceEqDiff,Int.reduceLT,Int.reduceLE,Int.reduceEq,Int.reduceToNat,exY,hv,hx,h6,hlt,hcs,hkey,qAU _ _ pk,qAU _ _ pl,qA7 _ _ qk,qA7 _ _ ql,qEL e1,qEL e2,e3,e4,e5,e6,v1,v2,v3,v4,v5,v6,x1,x2,x3,x4,x5,x6,y6,B1,B2,qB1,A1,A2,A3,A4,A5,P1,P2,P3];exact F _
def evenT(n:Nat)(v:TT):Prop:=v.names.len=v.kids.len∧v.names.len≤n
theorem qEB(v x:TT)(key:List UInt8)(hv:evenT 1000 v):Om 28 [kA v.row,kS key,kA x.row] []=some (kA (putM v key x).row,[]):=by
 obtain⟨e,hl⟩:=hv;refine(qAB rfl).trans ?_;show lim tab.get S 28 0 0 [kA v.row,kS key,kA x.row] h0=_;rw[w28_0,b28_0];have hk:leadM key v.names.list≤v.names.len:=qCj _ _;simp (maxSteps:=9999999) +contextual only[exa,ne_eq,not_false_eq_true,reduceAdd,reduceMul,reduceLT,reduceLeDiff,reduceEqDiff,Int.reduceLT,Int.reduceLE,Int.reduceEq,Int.reduceToNat];refine(qNf v key _ _ _ ?_ hl 0).trans ?_
 ·rfl
 rw[List.drop_zero,Nat.zero_add];exact qPd v x key _ _ rfl rfl ⟨_,rfl,rfl⟩ hk (e▸hk) hl (by omega)
theorem qND(n:Nat)(k:Int)(s:List UInt8)(p:List (List UInt8))(l:List TT)(x:TT)(key:List UInt8)(m:Nat)(hm:m≤p.length)(e:p.length=l.length)(hl:p.length≤n):evenT (n+1) (.mk k s (.mk false (p.take m++[key]++p.drop m)) (.mk false (l.take m++[x]++l.drop m))):=by
 have h1:(p.take m++[key]++p.drop m).length=p.length+1:=by simp; omega
 have h2:(l.take m++[x]++l.drop m).length=l.length+1:=by simp; omega
 constructor
 ·show(p.take m++[key]++p.drop m).length=(l.take m++[x]++l.drop m).length;omega
 ·show(p.take m++[key]++p.drop m).length≤n+1;omega
theorem qHj(n:Nat)(v x:TT)(key:List UInt8)(hv:evenT n v):evenT (n+1) (putM v key x):=by
 obtain⟨e,hl⟩:=hv;unfold putM;split
 ·exact⟨e,by omega⟩
 ·exact qND n _ _ _ _ _ _ _ (qCj _ _) e hl
open Go Go.AI
mutual
def fewR:RW→Int→Int
 |.mk k n s l,m=>if (((!decide (0<m))||decide (10<(l.len:Int)))||decide (20<(s.len:Int))) then 0 else fewS l (IntKind.i64.wrap (m - 1))
def fewS:Sl RW→Int→Int
 |.nil,m=>m
 |.mk _ l,m=>fewL l m
def fewL:List RW→Int→Int
 |[],m=>m
 |r::rs,m=>if 0<m then fewL rs (fewR r m) else m
end
theorem qPq(l:Sl RW)(m:Int):fewS l m=fewL l.list m:=by cases l <;> simp[fewS,fewL,Sl.list]
def bigR(r:RW)(m:Int):Bool:=((!decide (0<m))||decide (10<(r.kids.len:Int)))||decide (20<(r.names.len:Int))
theorem qJp(r:RW)(m:Int):fewR r m=if bigR r m then 0 else fewL r.kids.list (IntKind.i64.wrap (m - 1)):=by
 cases r with
 |mk k n s l=>rw[fewR,qPq]; rfl
theorem qNz(r:RW)(g:Nat)(h:Heap)(hv:h.get (.own 2 g)=some (.cells (pcells r.row) 0))(hl:r.kids.len≤12)
  (ih:∀ x∈r.kids.list,∀ m,Om 11 [kA x.row,kI m] []=some (kI (fewR x m),[])) :
  ∀ (i:Nat) (m:Int),lim tab.get S 11 0 1 [kI m,.v (.c (.ptr (.own 2 g) 0)),kI (i:Int)] h=some (kI (fewL (r.kids.list.drop i) m),[]):=by
 refine qB7 r.kids.len (fun i hi m => ?_) (fun i hi ihl m => ?_) <;> rw[w11_1,b11_1]
 ·have h1:¬ (i:Int)<(r.kids.len:Int):=by omega
  simp (maxSteps:=9999999) +contextual only[exa,ne_eq,not_false_eq_true,reduceAdd,reduceMul,reduceLT,reduceLeDiff,reduceEqDiff,Int.reduceLT,Int.reduceLE,Int.reduceEq,Int.reduceToNat,exR,exY,hv,h1,qBb hi,fewL,oneOf]
 ·have h1:(i:Int)<(r.kids.len:Int):=by omega
  obtain⟨x,hs,h2,hx⟩:=qAd hi;by_cases hm:0<m
  ·have cc:CAL 11 [kA x.row,kI m] (kI (fewR x m)):=qAE 11 _ _ (by simp only[exP]) (ih x hx m) rfl;simp (maxSteps:=9999999) +contextual only[exa,ne_eq,not_false_eq_true,reduceAdd,reduceMul,reduceLT,reduceLeDiff,reduceEqDiff,Int.reduceLT,Int.reduceLE,Int.reduceEq,Int.reduceToNat,exR,exY,hv,h1,hs,hm,cc,qBW i (by omega),ihl,h2,fewL,if_true]
  ·simp (maxSteps:=9999999) +contextual only[exa,ne_eq,not_false_eq_true,reduceAdd,reduceMul,reduceLT,reduceLeDiff,reduceEqDiff,Int.reduceLT,Int.reduceLE,Int.reduceEq,Int.reduceToNat,exR,exY,hv,h1,hs,hm,h2,fewL,if_false,oneOf]
theorem qQv:∀ (n:Nat) (r:RW),SizeOf.sizeOf r<n→∀ m,Om 11 [kA r.row,kI m] []=some (kI (fewR r m),[]):=by
 intro n
 induction n with
 |zero=>intro r h; omega
 |succ n ih =>
  intro r hs m;refine(qAB rfl).trans ?_;show lim tab.get S 11 0 0 [kA r.row,kI m] h0=_;rw[w11_0,b11_0,qJp];cases hb:bigR r m
  ·unfold bigR at hb;simp (maxSteps:=9999999) +contextual only[exa,ne_eq,not_false_eq_true,reduceAdd,reduceMul,reduceLT,reduceLeDiff,reduceEqDiff,Int.reduceLT,Int.reduceLE,Int.reduceEq,Int.reduceToNat,exR,exY,hb,if_false];have hl:r.kids.len≤12:=by simp only[Bool.or_eq_false_iff,decide_eq_false_iff_not] at hb; omega
   have:=qNz r _ _ (qCa h0 2 1 _ 0 (by decide)) hl (fun x hx=>ih x (by have:=RW.mem_size hx; omega)) 0 (IntKind.i64.wrap (m - 1));rw[List.drop_zero] at this;exact this
  ·unfold bigR at hb;simp (maxSteps:=9999999) +contextual only[exa,ne_eq,not_false_eq_true,reduceAdd,reduceMul,reduceLT,reduceLeDiff,reduceEqDiff,Int.reduceLT,Int.reduceLE,Int.reduceEq,Int.reduceToNat,exR,exY,hb,if_true,oneOf]
theorem u11{β:Type}{k:TVal→Heap→Option β}{h:Heap}{d:Nat}(r:RW)(m:Int):vcall Om (.v (.c (.func 11 []))) [kA r.row,kI m] h d k=k (kI (fewR r m)) h:=qAE 11 _ _ (by simp only[exP]) (qQv _ r (Nat.lt_succ_self _) m) rfl
mutual
def smR:RW→Prop
 |.mk k n s l=>l.len≤10∧s.len≤20∧smS l
def smS:Sl RW→Prop
 |.nil=>True
 |.mk _ l=>smL l
def smL:List RW→Prop
 |[]=>True
 |r::rs=>smR r∧smL rs
end
theorem qNR:∀ l:List RW,smL l↔∀ x∈l,smR x
 |[]=>by simp[smL]
 |r::l=>by simp[smL,qNR l]
theorem qDq(r:RW):smR r↔r.kids.len≤10∧r.names.len≤20∧∀ x∈r.kids.list,smR x:=by
 cases r with
 |mk k n s l =>
  rw[smR,← qNR];cases l <;> simp[smS,smL,Sl.list,RW.kids,RW.names]
theorem qQq:∀ (n:Nat) (r:RW),SizeOf.sizeOf r<n→∀ m:Int,m≤1000→0≤fewR r m∧(fewR r m≤m∨m<0)∧(fewR r m≠0→smR r):=by
 intro n
 induction n with
 |zero=>intro r h; omega
 |succ n ih =>
  intro r hs m hm;have hl:∀ l:List RW,(∀ x∈l,SizeOf.sizeOf x<n)→∀ m:Int,0≤m→m≤1000→0≤fewL l m∧fewL l m≤m∧(fewL l m≠0→∀ x∈l,smR x):=by
   intro l
   induction l with
   |nil=>intro _ m h0 _; exact⟨h0,Int.le_refl _,fun _ x hx=>by cases hx⟩
   |cons x l ihl =>
    intro hx m h0 h1;unfold fewL;by_cases hp:0<m
    ·rw[if_pos hp];obtain⟨a1,a2,a3⟩:=ih x (hx x (by simp)) m h1;have a2':fewR x m≤m:=by rcases a2 with a|a <;> omega
     obtain⟨b1,b2,b3⟩:=ihl (fun y hy=>hx y (by simp[hy])) (fewR x m) a1 (by omega);refine⟨b1,by omega,fun hz y hy => ?_⟩
     rcases List.mem_cons.1 hy with rfl|hy
     ·exact a3 (by omega)
     ·exact b3 hz y hy
    ·rw[if_neg hp];exact⟨h0,Int.le_refl _,fun hz=>by omega⟩
  rw[qJp];cases hb:bigR r m
  ·simp only[Bool.false_eq_true,if_false];have hb':=hb;simp only[bigR,Bool.or_eq_false_iff,decide_eq_false_iff_not,Bool.not_eq_false',decide_eq_true_eq] at hb';obtain⟨⟨h1,h2⟩,h3⟩:=hb';rw[qAM (m - 1) (by omega) (by omega)];obtain⟨c1,c2,c3⟩:=hl r.kids.list (fun x hx=>by have:=RW.mem_size hx; omega) (m - 1) (by omega) (by omega);exact⟨c1,by omega,fun hz=>(qDq r).2 ⟨by omega,by omega,c3 hz⟩⟩
  ·simp only[if_true];exact⟨Int.le_refl _,by omega,fun hz=>absurd rfl hz⟩
theorem qLm{r:RW}{m:Int}(hm:m≤1000)(h:fewR r m≠0):smR r:=(qQq _ r (Nat.lt_succ_self _) m hm).2.2 h
def kidM(r:RW)(i:Nat):RW:=match r.kids.list[i % r.kids.len]? with
 |some x=>x
 |none => .mk (IntKind.i64.wrap (r.n+(i:Int))) r.kind .nil .nil
theorem qFL{r:RW}(sm:smR r)(i:Nat):smR (kidM r i):=by
 unfold kidM;cases h:r.kids.list[i % r.kids.len]? with
 |none=>exact(qDq _).2 ⟨by show 0≤10; decide,by show 0≤20; decide,fun x hx=>by cases hx⟩
 |some x=>exact((qDq r).1 sm).2.2 x (List.mem_of_getElem? h)
theorem qLn(r:RW)(i:Nat)(sm:smR r):Om 27 [kA r.row,kI (i:Int)] []=some (kA (kidM r i).row,[]):=by
 obtain⟨s1,_,_⟩:=(qDq r).1 sm;refine(qAB rfl).trans ?_;show lim tab.get S 27 0 0 [kA r.row,kI (i:Int)] h0=_;rw[w27_0,b27_0];by_cases hz:r.kids.len=0
 ·have e:kidM r i = .mk (IntKind.i64.wrap (r.n+(i:Int))) r.kind .nil .nil:=by
   unfold kidM;rw[List.getElem?_eq_none (by show r.kids.len≤_; omega)]
  have h1:((r.kids.len:Nat):Int)=0:=by omega
  have P:∀ a b c d:Cell,put1 ([.p (.int .i64 0),.p (.int .i64 0),.p .nilslice,.p .nilslice]:List Cell) 0 [a,b,c,d]=[a,b,c,d]:=fun _ _ _ _=>rfl
  rw[e];simp (maxSteps:=9999999) +contextual only[exa,ne_eq,not_false_eq_true,reduceAdd,reduceMul,reduceLT,reduceLeDiff,reduceEqDiff,Int.reduceLT,Int.reduceLE,Int.reduceEq,Int.reduceToNat,exR,h1,P];rw[RW.row_eq]; rfl
 ·have h1:¬ ((r.kids.len:Nat):Int)=0:=by omega
  have hlt:i % r.kids.len<r.kids.len:=Nat.mod_lt _ (by omega);obtain⟨x,hs,_,hx⟩:=qAd (l:=r.kids.list) (i:=i % r.kids.len) hlt;have e:kidM r i=x:=by unfold kidM; rw[hs]
  have hm:(i:Int).tmod (r.kids.len:Int)=((i % r.kids.len:Nat):Int):=by
   rw[Int.tmod_eq_emod_of_nonneg (by omega)]; omega
  have P:put1 ([.p (.int .i64 0),.p (.int .i64 0),.p .nilslice,.p .nilslice]:List Cell) 0 (pcells x.row)=pcells x.row:=qBF _ _ (by simp[pcells,RW.row_len]);rw[e];simp (maxSteps:=9999999) +contextual only[exa,ne_eq,not_false_eq_true,reduceAdd,reduceMul,reduceLT,reduceLeDiff,reduceEqDiff,Int.reduceLT,Int.reduceLE,Int.reduceEq,Int.reduceToNat,exR,h1,qEn 0 .i64 (i:Int) (r.kids.len:Int) (by omega),hm,hs,P,oneOf]
theorem u27{β:Type}{k:TVal→Heap→Option β}{h:Heap}{d:Nat}(r:RW)(i:Nat)(sm:smR r):vcall Om (.v (.c (.func 27 []))) [kA r.row,kI (i:Int)] h d k=k (kA (kidM r i).row) h:=qAE 27 _ _ (by simp only[exP]) (qLn r i sm) (by simp only[exP])
def nameL:List (List UInt8):=[[97],[98],[99],[110,97,109,101],[110],[73,110,116],[116,121,112,101]]
def nameM(n:Int):List UInt8:=nameL.getD (withinM n 7).toNat []
theorem qHs(n:Int):nameL[(withinM n 7).toNat]?=some (nameM n):=by
 have h:=qAg n 7 (by decide);have h1:(withinM n 7).toNat<nameL.length:=by show _<7; omega
 unfold nameM;rw[List.getD_eq_getElem?_getD,List.getElem?_eq_getElem h1]; rfl
theorem qQs(n:Int):Om 21 [kI n] []=some (kS (nameM n),[]):=by
 have hw:=qAg n 7 (by decide);have e:(nameL.map sRow)[(withinM n 7).toNat]?=some (sRow (nameM n)):=by rw[List.getElem?_map,qHs]; rfl
 have w0:decide (0≤withinM n 7)=true:=decide_eq_true hw.1;have B:∀ {β:Type}{O:Oracle}{h:Heap}{d:Nat}{k:TVal→Heap→Option β},vop O (.bslice 1 7 [.p (.str [])] [(0,.k (kS [97])),(1,.k (kS [98])),(2,.k (kS [99])),(3,.k (kS [110,97,109,101])),(4,.k (kS [110])),(5,.k (kS [73,110,116])),(6,.k (kS [116,121,112,101]))] false) h d k=k (kSl 1 true (nameL.map sRow)) h:=fun{β O h d k}=>qAU _ _ rfl
 refine(qAB rfl).trans ?_;show lim tab.get S 21 0 0 [kI n] h0=_;rw[w21_0,b21_0];simp (maxSteps:=9999999) +contextual only[exa,ne_eq,not_false_eq_true,reduceAdd,reduceMul,reduceLT,reduceLeDiff,reduceEqDiff,Int.reduceLT,Int.reduceLE,Int.reduceEq,Int.reduceToNat,B,u19 n 7 (by decide) (by decide),e,w0,oneOf]
theorem u21{β:Type}{k:TVal→Heap→Option β}{h:Heap}{d:Nat}(n:Int):vcall Om (.v (.c (.func 21 []))) [kI n] h d k=k (kS (nameM n)) h:=qAE 21 _ _ rfl (qQs n) rfl
open Go Go.AI
def nmM(r:RW)(i:Nat):List UInt8:=match r.names.list[i]? with
 |some n=>nameM n
 |none=>[117]
def recM(r:RW)(sub:RW→TT):Nat→Nat→TT→TT
 |0,_,t=>t
 |c+1,i,t=>recM r sub c (i+1) (putM t (nmM r i) (sub (kidM r i)))
def cntM(r:RW)(k:Int):Nat:=if r.names.len=0 then (if k=8 then 1 else 0) else min r.names.len 4
def treeK(ns:List (List UInt8))(k:Int)(r:RW)(sub:RW→TT):TT :=
 if k=9 then .mk 9 (ns.getD (withinM r.n (ns.length:Int)).toNat []) .nil .nil
 else if k=4∨k=5∨k=6 then (if k=6∧(sub (kidM r 0)).kind=6 then sub (kidM r 0) else .mk k [] .nil (.mk true [sub (kidM r 0)]))
 else if k=7∨k=8 then recM r sub (cntM r k) 0 (.mk k [] .nil .nil)
 else .mk k [] .nil .nil
def kindT(r:RW)(d:Int):Int:=if d≤1∧4≤1+withinM r.kind 9∧1+withinM r.kind 9≤8 then 2 else 1+withinM r.kind 9
def treeM(ns:List (List UInt8)):Nat→RW→TT
 |0,r=>treeK ns (kindT r 0) r fun _ => .mk 0 [] .nil .nil
 |d+1,r=>treeK ns (kindT r ((d:Int)+1)) r (treeM ns d)
abbrev z4:List Cell:=[.p (.int .i64 0),.p (.str []),.p .nilslice,.p .nilslice]
abbrev t3:TVal := .v (.c (.ptr (.own 3 1) 0))
abbrev t6:TVal := .v (.c (.ptr (.own 6 1) 0))
abbrev t8:TVal := .v (.c (.ptr (.own 8 1) 0))
structure TreeH (r:RW) (t:TT) (h:Heap):Prop where
 a3:h.get (.own 3 1)=some (.cells (pcells r.row) 0)
 a6:h.get (.own 6 1)=some (.cells z4 0)
 a8:h.get (.own 8 1)=some (.cells (pcells t.row) 0)
theorem TreeH.put{r:RW}{t:TT}{h:Heap}(H:TreeH r t h)(t':TT):TreeH r t' (h.own 8 1 (.cells (pcells t'.row) 0)) :=
 ⟨(Heap.own_get_ne h 8 1 _ 3 1 (by decide)).trans H.a3,(Heap.own_get_ne h 8 1 _ 6 1 (by decide)).trans H.a6,qCa h 8 1 _ 0 (by decide)⟩
theorem qC0(row:List PVal)(h:row.length=4):put1 z4 0 (pcells row)=pcells row:=qBF _ _ (by simp[pcells,h])
theorem qQZ(a row:List PVal)(ha:a.length=4)(h:row.length=4):put1 (pcells a) 0 (pcells row)=pcells row:=qBF _ _ (by simp[pcells,h,ha])
theorem qDT(r:RW)(t:TT)(h:Heap)(H:TreeH r t h):lim tab.get S 12 0 6 [t6,t8] h=some (kA t.row,[]):=by
 rw[w12_6,b12_6];simp (maxSteps:=9999999) +contextual only[exa,ne_eq,not_false_eq_true,reduceAdd,reduceMul,reduceLT,reduceLeDiff,reduceEqDiff,Int.reduceLT,Int.reduceLE,Int.reduceEq,Int.reduceToNat,H.a6,H.a8,qC0 _ (TT.row_len t),oneOf]
def TreeOK(ns:Sl (List UInt8))(d:Int)(f:RW→TT):Prop:=∀ x:RW,smR x→Om 12 [kA x.row,kI d,.v (.c (.p (slP 1 sRow ns)))] []=some (kA (f x).row,[])
theorem y27{β:Type}{kt:TVal→Heap→AI.Touch→Option β}{h:Heap}{d:Nat}(r:RW)(i:Nat)(sm:smR r):vtouch Om (.call (.k (.v (.c (.func 27 [])))) [.k (kA r.row),.k (kI (i:Int))]) h d kt=kt (kA (kidM r i).row) h noTouch :=
 qCS 27 [kA r.row,kI (i:Int)] _ (by simp only[exP]) (qLn r i sm) (by simp only[exP])
theorem y12{β:Type}{kt:TVal→Heap→AI.Touch→Option β}{h:Heap}{d:Nat}{ns:Sl (List UInt8)}{m:Int}{f:RW→TT}(ok:TreeOK ns m f)(x:RW)(sm:smR x):vtouch Om (.call (.k (.v (.c (.func 12 [])))) [.k (kA x.row),.k (kI m),.k (.v (.c (.p (slP 1 sRow ns))))]) h d kt=kt (kA (f x).row) h noTouch :=
 qCS 12 [kA x.row,kI m,.v (.c (.p (slP 1 sRow ns)))] _ (by simp only[exP]) (ok x sm) (by simp only[exP])
theorem u12{β:Type}{k:TVal→Heap→Option β}{h:Heap}{d:Nat}{ns:Sl (List UInt8)}{m:Int}{f:RW→TT}(ok:TreeOK ns m f)(x:RW)(sm:smR x):vcall Om (.v (.c (.func 12 []))) [kA x.row,kI m,.v (.c (.p (slP 1 sRow ns)))] h d k=k (kA (f x).row) h :=
 qAE 12 _ _ (by simp only[exP]) (ok x sm) (by simp only[exP])
theorem y28{β:Type}{kt:TVal→Heap→AI.Touch→Option β}{h:Heap}{d:Nat}(v x:TT)(key:List UInt8)(hv:evenT 1000 v):vtouch Om (.call (.k (.v (.c (.func 28 [])))) [.k (kA v.row),.k (kS key),.k (kA x.row)]) h d kt=kt (kA (putM v key x).row) h noTouch :=
 qCS 28 [kA v.row,kS key,kA x.row] _ (by simp only[exP]) (qEB v x key hv) (by simp only[exP])
theorem qO7(ns:Sl (List UInt8))(d k:Int)(f:RW→TT)(ok:TreeOK ns (IntKind.i64.wrap (d - 1)) f)(r:RW)(sm:smR r)(i:Nat)(hi:i≤100)(nm:List UInt8)(t:TT)(ev:evenT 1000 t)(h:Heap)(H:TreeH r t h) :
  ∃ h',TreeH r (putM t nm (f (kidM r i))) h'∧lim tab.get S 12 0 5 [kI d,.v (.c (.p (slP 1 sRow ns))),t3,t6,kI k,t8,kI (i:Int),kS nm] h=lim tab.get S 12 0 4 [kI d,.v (.c (.p (slP 1 sRow ns))),t3,t6,kI k,t8,kI ((i+1:Nat):Int)] h':=by
 refine⟨_,H.put _,?_⟩;rw[w12_5,b12_5];simp (maxSteps:=9999999) +contextual only[exa,ne_eq,not_false_eq_true,reduceAdd,reduceMul,reduceLT,reduceLeDiff,reduceEqDiff,Int.reduceLT,Int.reduceLE,Int.reduceEq,Int.reduceToNat,exR,exY,H.a3,H.a8,y27 r i sm,y12 ok _ (qFL sm i),y28 _ _ _ ev,qB1,qQZ _ _ (TT.row_len t) (TT.row_len _),qBW i (by omega)]
theorem qPB(ns:Sl (List UInt8))(d k:Int)(hk:k=7∨k=8)(f:RW→TT)(ok:TreeOK ns (IntKind.i64.wrap (d - 1)) f)(r:RW)(sm:smR r) :
  ∀ (c i:Nat),i+c=cntM r k→∀ (t:TT) (h:Heap),evenT (i+1) t→TreeH r t h→lim tab.get S 12 0 4 [kI d,.v (.c (.p (slP 1 sRow ns))),t3,t6,kI k,t8,kI (i:Int)] h=some (kA (recM r f c i t).row,[]):=by
 obtain⟨_,s2,_⟩:=(qDq r).1 sm;have hc4:cntM r k≤4:=by unfold cntM; split <;> (try split) <;> omega
 intro c
 induction c with
 |zero =>
  intro i hi t h ev H;rw[w12_4,b12_4];have q:¬ (((i:Int)<(r.names.len:Int)∧(i:Int)<4)∨((i:Int)=0∧k=8)):=by
   unfold cntM at hi;split at hi
   ·split at hi <;> omega
   ·omega
  by_cases h1:(i:Int)<(r.names.len:Int)
  ·have h2:¬ (i:Int)<4:=by omega
   have h3:¬ (i:Int)=0:=by omega
   simp (maxSteps:=9999999) +contextual only[exa,ne_eq,not_false_eq_true,reduceAdd,reduceMul,reduceLT,reduceLeDiff,reduceEqDiff,Int.reduceLT,Int.reduceLE,Int.reduceEq,Int.reduceToNat,exR,H.a3,h1,h2,h3];exact qDT r t h H
  ·by_cases h3:(i:Int)=0
   ·have h4:¬ k=8:=by omega
    have h1':¬ (0:Int)<(r.names.len:Int):=by rw[← h3]; exact h1
    simp (maxSteps:=9999999) +contextual only[exa,ne_eq,not_false_eq_true,reduceAdd,reduceMul,reduceLT,reduceLeDiff,reduceEqDiff,Int.reduceLT,Int.reduceLE,Int.reduceEq,Int.reduceToNat,exR,H.a3,h1',h3,h4];exact qDT r t h H
   ·simp (maxSteps:=9999999) +contextual only[exa,ne_eq,not_false_eq_true,reduceAdd,reduceMul,reduceLT,reduceLeDiff,reduceEqDiff,Int.reduceLT,Int.reduceLE,Int.reduceEq,Int.reduceToNat,exR,H.a3,h1,h3];exact qDT r t h H
 |succ c ih =>
  intro i hi t h ev H;rw[w12_4,b12_4];have ev':evenT 1000 t:=⟨ev.1,by have:=ev.2; omega⟩;by_cases h1:(i:Int)<(r.names.len:Int)
  ·have h2:(i:Int)<4:=by omega
   obtain⟨n,hn,_,_⟩:=qAd (l:=r.names.list) (i:=i) (by show i<r.names.len; omega);have hnm:nmM r i=nameM n:=by unfold nmM; rw[hn]
   obtain⟨h',H',e'⟩:=qO7 ns d k f ok r sm i (by omega) (nameM n) t ev' h H;simp (maxSteps:=9999999) +contextual only[exa,ne_eq,not_false_eq_true,reduceAdd,reduceMul,reduceLT,reduceLeDiff,reduceEqDiff,Int.reduceLT,Int.reduceLE,Int.reduceEq,Int.reduceToNat,exR,H.a3,h1,h2,hn,u21];rw[e',recM,hnm];exact ih (i+1) (by omega) _ h' (qHj _ _ _ _ ev) H'
  ·have h3:i=0:=by
    unfold cntM at hi;split at hi
    ·split at hi <;> omega
    ·omega
   subst h3;have h4:k=8:=by
    unfold cntM at hi;split at hi
    ·split at hi
     ·assumption
     ·omega
    ·omega
   subst h4;have hnm:nmM r 0=[117]:=by
    unfold nmM;rw[List.getElem?_eq_none (by show r.names.len≤0; omega)]
   obtain⟨h',H',e'⟩:=qO7 ns d 8 f ok r sm 0 (by omega) [117] t ev' h H;have h1':¬ (0:Int)<(r.names.len:Int):=h1;have i0:((0:Nat):Int)=0:=rfl;rw[i0] at e' ⊢;simp (maxSteps:=9999999) +contextual only[exa,ne_eq,not_false_eq_true,reduceAdd,reduceMul,reduceLT,reduceLeDiff,reduceEqDiff,Int.reduceLT,Int.reduceLE,Int.reduceEq,Int.reduceToNat,exR,H.a3,h1'];rw[e',recM,hnm];exact ih 1 (by omega) _ h' (qHj _ _ _ _ ev) H'
theorem qEP(a:Int):1≤1+withinM a 9∧1+withinM a 9≤9:=by
 have:=qAg a 9 (by decide); omega
theorem qFw(ns:Sl (List UInt8))(hns:ns.len≤1000)(d k:Int)(f:RW→TT)(r:RW)(sm:smR r)(hk:1≤k∧k≤9)(h9:k=9→0<ns.len)(ok:4≤k→k≤8→TreeOK ns (IntKind.i64.wrap (d - 1)) f)(h:Heap)(a3:h.get (.own 3 1)=some (.cells (pcells r.row) 0))(a6:h.get (.own 6 1)=some (.cells z4 0))(g8:h.gen 8=0) :
  lim tab.get S 12 0 1 [kI d,.v (.c (.p (slP 1 sRow ns))),t3,t6,kI k] h=some (kA (treeK ns.list k r f).row,[]):=by
 have H:TreeH r (.mk k [] .nil .nil) ((h.own 8 1 (.cells z4 0)).own 8 1 (.cells (pcells (TT.mk k [] .nil .nil).row) 0)) :=
  ⟨(Heap.own_get_ne _ 8 1 _ 3 1 (by decide)).trans ((Heap.own_get_ne _ 8 1 _ 3 1 (by decide)).trans a3),(Heap.own_get_ne _ 8 1 _ 6 1 (by decide)).trans ((Heap.own_get_ne _ 8 1 _ 6 1 (by decide)).trans a6),qCa _ 8 1 _ 0 (by decide)⟩
 have PZ:∀ a b c d:Cell,put1 z4 0 [a,b,c,d]=[a,b,c,d]:=fun _ _ _ _=>rfl
 rw[w12_1,b12_1];unfold treeK;by_cases k9:k=9
 ·rw[if_pos k9];have hn:=h9 k9;have hw:=qAg r.n (ns.len:Int) (by omega);have w0:decide (0≤withinM r.n (ns.len:Int))=true:=decide_eq_true hw.1;obtain⟨s,hs,_,_⟩:=qAd (l:=ns.list) (i:=(withinM r.n (ns.len:Int)).toNat) (by show _<ns.len; omega);have hd:ns.list.getD (withinM r.n (ns.list.length:Int)).toNat []=s:=by
   rw[List.getD_eq_getElem?_getD];show(ns.list[(withinM r.n (ns.len:Int)).toNat]?).getD []=s;rw[hs]; rfl
  rw[hd];subst k9;simp (maxSteps:=9999999) +contextual only[exa,ne_eq,not_false_eq_true,reduceAdd,reduceMul,reduceLT,reduceLeDiff,reduceEqDiff,Int.reduceLT,Int.reduceLE,Int.reduceEq,Int.reduceToNat,exR,a3,g8,PZ,u19 r.n (ns.len:Int) (by omega) (by omega),hs,w0];exact qDT r (.mk 9 s .nil .nil) _ (H.put (.mk 9 s .nil .nil))
 rw[if_neg k9];have one:∀ (c:Int) (hc:k=c),(c=4∨c=5∨c=6)→lim tab.get S 12 0 2 [kI d,.v (.c (.p (slP 1 sRow ns))),t3,t6,kI k,t8,kI k,kB true] ((h.own 8 1 (.cells z4 0)).own 8 1 (.cells (pcells (TT.mk k [] .nil .nil).row) 0))=some (kA (if k=6∧(f (kidM r 0)).kind=6 then f (kidM r 0) else .mk k [] .nil (.mk true [f (kidM r 0)])).row,[]):=by
  intro c hc h456;have ok':=ok (by omega) (by omega);have i0:((0:Nat):Int)=0:=rfl;have k27:CAL 27 [kA r.row,kI 0] (kA (kidM r 0).row):=u27 r 0 sm;have B:∀ {β:Type}{O:Oracle}{h:Heap}{d:Nat}{k:TVal→Heap→Option β}(y:TT),vop O (.bslice 4 1 z4 [(0,.k (.v (.agg (pcells y.row))))] false) h d k=k (kSl 4 true [y.row]) h:=fun{β O h d k} y=>qE8 4 z4 _ rfl (TT.row_len y)
  have P3:∀ x:PVal,put1 (pcells (TT.mk k [] .nil .nil).row) 3 [.p x]=[.p (.int .i64 k),.p (.str []),.p .nilslice,.p x]:=fun _=>rfl
  have z0:∀ y:TT,([y.row]:List (List PVal))[(0:Int).toNat]?=some y.row:=fun _=>rfl
  rw[w12_2,b12_2];by_cases k6:k=6
  ·by_cases kk:(f (kidM r 0)).kind=6
   ·rw[if_pos ⟨k6,kk⟩];subst k6;simp (maxSteps:=9999999) +contextual only[exa,ne_eq,not_false_eq_true,reduceAdd,reduceMul,reduceLT,reduceLeDiff,reduceEqDiff,Int.reduceLT,Int.reduceLE,Int.reduceEq,Int.reduceToNat,exR,H.a3,H.a6,H.a8,k27,u12 ok' _ (qFL sm 0),B,P3,z0,kk,Int.toNat_zero,qC0 _ (TT.row_len _),TT.row_len,oneOf]
   ·rw[if_neg (fun e=>kk e.2)];subst k6;simp (maxSteps:=9999999) +contextual only[exa,ne_eq,not_false_eq_true,reduceAdd,reduceMul,reduceLT,reduceLeDiff,reduceEqDiff,Int.reduceLT,Int.reduceLE,Int.reduceEq,Int.reduceToNat,exR,H.a3,H.a6,H.a8,k27,u12 ok' _ (qFL sm 0),B,P3,z0,kk,Int.toNat_zero];exact qDT r (.mk 6 [] .nil (.mk true [f (kidM r 0)])) _ (H.put (.mk 6 [] .nil (.mk true [f (kidM r 0)])))
  ·rw[if_neg (fun e=>k6 e.1)];simp (maxSteps:=9999999) +contextual only[exa,ne_eq,not_false_eq_true,reduceAdd,reduceMul,reduceLT,reduceLeDiff,reduceEqDiff,Int.reduceLT,Int.reduceLE,Int.reduceEq,Int.reduceToNat,exR,H.a3,H.a6,H.a8,k27,u12 ok' _ (qFL sm 0),B,P3,z0,k6,Int.toNat_zero];exact qDT r (.mk k [] .nil (.mk true [f (kidM r 0)])) _ (H.put (.mk k [] .nil (.mk true [f (kidM r 0)])))
 by_cases k4:k=4
 ·rw[if_pos (.inl k4)];have:=one 4 k4 (by omega);subst k4;simp (maxSteps:=9999999) +contextual only[exa,ne_eq,not_false_eq_true,reduceAdd,reduceMul,reduceLT,reduceLeDiff,reduceEqDiff,Int.reduceLT,Int.reduceLE,Int.reduceEq,Int.reduceToNat,exR,a3,g8,PZ];exact this
 by_cases k5:k=5
 ·rw[if_pos (.inr (.inl k5))];have:=one 5 k5 (by omega);subst k5;simp (maxSteps:=9999999) +contextual only[exa,ne_eq,not_false_eq_true,reduceAdd,reduceMul,reduceLT,reduceLeDiff,reduceEqDiff,Int.reduceLT,Int.reduceLE,Int.reduceEq,Int.reduceToNat,exR,a3,g8,PZ];exact this
 by_cases k6:k=6
 ·rw[if_pos (.inr (.inr k6))];have:=one 6 k6 (by omega);subst k6;generalize (if (6:Int)=6∧(f (kidM r 0)).kind=6 then f (kidM r 0) else TT.mk 6 [] .nil (.mk true [f (kidM r 0)]))=q at this ⊢;simp (maxSteps:=9999999) +contextual only[exa,ne_eq,not_false_eq_true,reduceAdd,reduceMul,reduceLT,reduceLeDiff,reduceEqDiff,Int.reduceLT,Int.reduceLE,Int.reduceEq,Int.reduceToNat,exR,a3,g8,PZ];exact this
 rw[if_neg (by omega)];simp (maxSteps:=9999999) +contextual only[exa,ne_eq,not_false_eq_true,reduceAdd,reduceMul,reduceLT,reduceLeDiff,reduceEqDiff,Int.reduceLT,Int.reduceLE,Int.reduceEq,Int.reduceToNat,exR,a3,g8,PZ,k9,k4,k5,k6];rw[w12_2,b12_2];by_cases k7:k=7
 ·rw[if_pos (.inl k7)];have:=qPB ns d k (.inl k7) f (ok (by omega) (by omega)) r sm (cntM r k) 0 (by omega) (.mk k [] .nil .nil) _ ⟨rfl,by show 0≤_; omega⟩ H;subst k7;simp (maxSteps:=9999999) +contextual only[exa,ne_eq,not_false_eq_true,reduceAdd,reduceMul,reduceLT,reduceLeDiff,reduceEqDiff,Int.reduceLT,Int.reduceLE,Int.reduceEq,Int.reduceToNat,exR,a3];rw[w12_3,b12_3];simp (maxSteps:=9999999) +contextual only[exa,ne_eq,not_false_eq_true,reduceAdd,reduceMul,reduceLT,reduceLeDiff,reduceEqDiff,Int.reduceLT,Int.reduceLE,Int.reduceEq,Int.reduceToNat,exR,a3];exact this
 by_cases k8:k=8
 ·rw[if_pos (.inr k8)];have:=qPB ns d k (.inr k8) f (ok (by omega) (by omega)) r sm (cntM r k) 0 (by omega) (.mk k [] .nil .nil) _ ⟨rfl,by show 0≤_; omega⟩ H;subst k8;simp (maxSteps:=9999999) +contextual only[exa,ne_eq,not_false_eq_true,reduceAdd,reduceMul,reduceLT,reduceLeDiff,reduceEqDiff,Int.reduceLT,Int.reduceLE,Int.reduceEq,Int.reduceToNat,exR,a3];rw[w12_3,b12_3];simp (maxSteps:=9999999) +contextual only[exa,ne_eq,not_false_eq_true,reduceAdd,reduceMul,reduceLT,reduceLeDiff,reduceEqDiff,Int.reduceLT,Int.reduceLE,Int.reduceEq,Int.reduceToNat,exR,a3];exact this
 rw[if_neg (by omega)];simp (maxSteps:=9999999) +contextual only[exa,ne_eq,not_false_eq_true,reduceAdd,reduceMul,reduceLT,reduceLeDiff,reduceEqDiff,Int.reduceLT,Int.reduceLE,Int.reduceEq,Int.reduceToNat,exR,a3,k7,k8];rw[w12_3,b12_3];simp (maxSteps:=9999999) +contextual only[exa,ne_eq,not_false_eq_true,reduceAdd,reduceMul,reduceLT,reduceLeDiff,reduceEqDiff,Int.reduceLT,Int.reduceLE,Int.reduceEq,Int.reduceToNat,exR,a3];exact qDT r (.mk k [] .nil .nil) _ H
theorem qO6(ns:Sl (List UInt8))(hns:ns.len≤1000)(hn:0<ns.len)(d:Int)(f:RW→TT)(r:RW)(sm:smR r)(ok:1<d→TreeOK ns (IntKind.i64.wrap (d - 1)) f):Om 12 [kA r.row,kI d,.v (.c (.p (slP 1 sRow ns)))] []=some (kA (treeK ns.list (kindT r d) r f).row,[]):=by
 refine(qAB rfl).trans ?_;show lim tab.get S 12 0 0 [kA r.row,kI d,.v (.c (.p (slP 1 sRow ns)))] h0=_;rw[w12_0,b12_0];have hb:=qEP r.kind;have w:IntKind.i64.wrap (1+withinM r.kind 9)=1+withinM r.kind 9:=qAM _ (by omega) (by omega);have n0:¬ ((ns.len:Nat):Int)=0:=by omega
 unfold kindT;by_cases h9:1+withinM r.kind 9=9
 ·rw[if_neg (by omega)];have q8:¬ ((9:Int)≤8):=by decide
  by_cases hd:1<d
  ·have hd':¬ d<1+1:=by omega
   simp (maxSteps:=9999999) +contextual only[exa,ne_eq,not_false_eq_true,reduceAdd,reduceMul,reduceLT,reduceLeDiff,reduceEqDiff,Int.reduceLT,Int.reduceLE,Int.reduceEq,Int.reduceToNat,exR,u19 r.kind 9 (by decide) (by decide),w,h9,n0,hd];exact qFw ns hns d 9 f r sm (by omega) (fun _=>hn) (fun _ h=>absurd h (by decide)) _ rfl rfl rfl
  ·simp (maxSteps:=9999999) +contextual only[exa,ne_eq,not_false_eq_true,reduceAdd,reduceMul,reduceLT,reduceLeDiff,reduceEqDiff,Int.reduceLT,Int.reduceLE,Int.reduceEq,Int.reduceToNat,exR,u19 r.kind 9 (by decide) (by decide),w,h9,n0,hd];exact qFw ns hns d 9 f r sm (by omega) (fun _=>hn) (fun _ h=>absurd h (by decide)) _ rfl rfl rfl
 ·by_cases hd:1<d
  ·rw[if_neg (by omega)];simp (maxSteps:=9999999) +contextual only[exa,ne_eq,not_false_eq_true,reduceAdd,reduceMul,reduceLT,reduceLeDiff,reduceEqDiff,Int.reduceLT,Int.reduceLE,Int.reduceEq,Int.reduceToNat,exR,u19 r.kind 9 (by decide) (by decide),w,h9,n0,hd];exact qFw ns hns d _ f r sm hb (fun e=>absurd e h9) (fun _ _=>ok hd) _ rfl rfl rfl
  ·by_cases h4:1+withinM r.kind 9<4
   ·rw[if_neg (by omega)];simp (maxSteps:=9999999) +contextual only[exa,ne_eq,not_false_eq_true,reduceAdd,reduceMul,reduceLT,reduceLeDiff,reduceEqDiff,Int.reduceLT,Int.reduceLE,Int.reduceEq,Int.reduceToNat,exR,u19 r.kind 9 (by decide) (by decide),w,h9,n0,hd,h4];exact qFw ns hns d _ f r sm hb (fun e=>absurd e h9) (fun h=>absurd h (by omega)) _ rfl rfl rfl
   ·have h8:¬ (8:Int)<1+withinM r.kind 9:=by omega
    rw[if_pos (by omega)];simp (maxSteps:=9999999) +contextual only[exa,ne_eq,not_false_eq_true,reduceAdd,reduceMul,reduceLT,reduceLeDiff,reduceEqDiff,Int.reduceLT,Int.reduceLE,Int.reduceEq,Int.reduceToNat,exR,u19 r.kind 9 (by decide) (by decide),w,h9,n0,hd,h4,h8];exact qFw ns hns d 2 f r sm (by omega) (fun e=>absurd e (by decide)) (fun h=>absurd h (by decide)) _ rfl rfl rfl
theorem qJO(ns:Sl (List UInt8))(hns:ns.len≤1000)(hn:0<ns.len):∀ (d:Nat),d≤1000→TreeOK ns (d:Int) (treeM ns.list d)
 |0,_=>fun r sm=>qO6 ns hns hn 0 _ r sm (fun h=>absurd h (by decide))
 |d+1,hd=>fun r sm=>by
  have e:(((d+1:Nat):Int))=(d:Int)+1:=by omega
  rw[e];refine qO6 ns hns hn ((d:Int)+1) (treeM ns.list d) r sm (fun _ => ?_);rw[show(d:Int)+1 - 1=(d:Int) by omega,qAM _ (by omega) (by omega)];exact qJO ns hns hn d (by omega)
open Go Go.AI
mutual
def smT:TT→Prop
 |.mk k n ns l=>ns.len≤1000∧l.len≤1000∧smTS l
def smTS:Sl TT→Prop
 |.nil=>True
 |.mk _ l=>smTL l
def smTL:List TT→Prop
 |[]=>True
 |r::rs=>smT r∧smTL rs
end
theorem qJ2:∀ l:List TT,smTL l↔∀ x∈l,smT x
 |[]=>by simp[smTL]
 |r::l=>by simp[smTL,qJ2 l]
theorem qDx(t:TT):smT t↔t.names.len≤1000∧t.kids.len≤1000∧∀ x∈t.kids.list,smT x:=by
 cases t with
 |mk k n ns l =>
  rw[smT,← qJ2];cases l <;> simp[smTS,smTL,Sl.list,TT.kids,TT.names]
mutual
def sameT:TT→TT→Bool
 |.mk k n ns l,b=>((decide (k=b.kind)&&decide (n=b.name))&&decide (ns.list=b.names.list))&&sameS l b.kids.list
def sameS:Sl TT→List TT→Bool
 |.nil,m=>m.isEmpty
 |.mk _ l,m=>sameL l m
def sameL:List TT→List TT→Bool
 |[],[]=>true
 |a::l,b::m=>sameT a b&&sameL l m
 |_,_=>false
end
theorem qOs(l:Sl TT)(m:List TT):sameS l m=sameL l.list m:=by
 cases l with
 |nil=>cases m <;> simp[sameS,sameL,Sl.list]
 |mk t l=>simp[sameS,Sl.list]
theorem qHM(a b:TT):sameT a b=(((decide (a.kind=b.kind)&&decide (a.name=b.name))&&decide (a.names.list=b.names.list))&&sameL a.kids.list b.kids.list):=by
 cases a with
 |mk k n ns l=>rw[sameT,qOs]; rfl
theorem qGw:∀ (l m:List TT),l.length≠m.length→sameL l m=false
 |[],[],h=>absurd rfl h
 |[],_::_,_=>by simp[sameL]
 |_::_,[],_=>by simp[sameL]
 |a::l,b::m,h=>by
  rw[sameL,qGw l m (fun e=>h (by simp[e])),Bool.and_false]
abbrev tsP(s:Sl TT):TVal := .v (.c (.p (slP 4 TT.row s)))
open Go Go.AI
def sepC:List UInt8:=[44,32]
def colC:List UInt8:=[58,32]
def wordM(k:Int):List UInt8:=if k=1 then [66,111,111,108] else if k=2 then [73,110,116] else if k=3 then [84,101,120,116] else if k=4 then [76,105,115,116] else if k=5 then [77,97,112] else if k=6 then [79,112,116] else if k=8 then [85,110,105,111,110] else []
mutual
def txtM:TT→List UInt8
 |.mk k n ns l=>if k=9 then n else if k=7 then [123]++Lib.join (fldS ns.list l) sepC++[125] else if k=8 then [85,110,105,111,110,32]++([123]++Lib.join (fldS ns.list l) sepC++[125]) else wordM k++angS l
def fldS:List (List UInt8)→Sl TT→List (List UInt8)
 |_,.nil=>[]
 |ns,.mk _ l=>fldL ns l
def fldL:List (List UInt8)→List TT→List (List UInt8)
 |n::ns,t::l=>(n++colC++txtM t)::fldL ns l
 |_,_=>[]
def angS:Sl TT→List UInt8
 |.nil=>[]
 |.mk _ l=>angL l
def angL:List TT→List UInt8
 |[]=>[]
 |t::l=>[60]++txtM t++[62]++angL l
end
theorem qPe(ns:List (List UInt8))(l:Sl TT):fldS ns l=fldL ns l.list:=by
 cases l with
 |nil=>cases ns <;> simp[fldS,fldL,Sl.list]
 |mk t l=>simp[fldS,Sl.list]
theorem qP8(l:Sl TT):angS l=angL l.list:=by cases l <;> simp[angS,angL,Sl.list]
def brM(t:TT):List UInt8:=[123]++Lib.join (fldL t.names.list t.kids.list) sepC++[125]
theorem qBM(t:TT):txtM t=if t.kind=9 then t.name else if t.kind=7 then brM t else if t.kind=8 then [85,110,105,111,110,32]++brM t else wordM t.kind++angL t.kids.list:=by
 cases t with
 |mk k n ns l=>rw[txtM,qPe,qP8]; rfl
theorem qEo(l:List TT):fldL [] l=[]:=by cases l <;> simp[fldL]
theorem qGY(ns:List (List UInt8)):fldL ns []=[]:=by cases ns <;> simp[fldL]
theorem qGy:∀ (r:List (List UInt8)) (x:List UInt8),x∈r→x.length≤(Lib.joinTail sepC r).length
 |y::r,x,h=>by
  have e:Lib.joinTail sepC (y::r)=(sepC++y)++Lib.joinTail sepC r:=by simp[Lib.joinTail]
  rw[e,List.length_append,List.length_append]
  rcases List.mem_cons.1 h with rfl|h
  ·omega
  ·have:=qGy r x h; omega
theorem qNb(l:List (List UInt8))(x:List UInt8)(h:x∈l):x.length≤(Lib.join l sepC).length:=by
 cases l with
 |nil=>cases h
 |cons y r =>
  rw[Lib.join_cons,List.length_append]
  rcases List.mem_cons.1 h with rfl|h
  ·omega
  ·have:=qGy r x h; omega
theorem qH1:∀ (ns:List (List UInt8)) (l:List TT) (i:Nat) (n:List UInt8) (t:TT),ns[i]?=some n→l[i]?=some t→(n++colC++txtM t)∈fldL ns l
 |a::ns,b::l,0,n,t,h1,h2=>by
  obtain rfl:a=n:=by simpa using h1
  obtain rfl:b=t:=by simpa using h2
  rw[fldL]; exact List.mem_cons_self
 |a::ns,b::l,i+1,n,t,h1,h2=>by
  rw[fldL];exact List.mem_cons_of_mem _ (qH1 ns l i n t (by simpa using h1) (by simpa using h2))
 |[],_,i,n,t,h1,_=>by simp at h1
 |_::_,[],i,n,t,_,h2=>by simp at h2
theorem qH0:∀ (ns:List (List UInt8)) (l:List TT),(fldL ns l).length≤l.length
 |[],l=>by rw[qEo]; exact Nat.zero_le _
 |_::_,[]=>by rw[qGY]; exact Nat.le_refl _
 |a::ns,b::l=>by rw[fldL,List.length_cons,List.length_cons]; have:=qH0 ns l; omega
theorem qMs(k:Int)(hk:k≠7∧k≠9∨True):Om 32 [kI k] []=some (kS (wordM k),[]):=by
 refine(qAB rfl).trans ?_;show lim tab.get S 32 0 0 [kI k] h0=_;rw[w32_0,b32_0];unfold wordM;by_cases h1:k=1
 ·rw[if_pos h1]; simp (maxSteps:=9999999) +contextual only[exa,ne_eq,not_false_eq_true,reduceAdd,reduceMul,reduceLT,reduceLeDiff,reduceEqDiff,Int.reduceLT,Int.reduceLE,Int.reduceEq,Int.reduceToNat,h1,oneOf]
 rw[if_neg h1];by_cases h2:k=2
 ·rw[if_pos h2]; simp (maxSteps:=9999999) +contextual only[exa,ne_eq,not_false_eq_true,reduceAdd,reduceMul,reduceLT,reduceLeDiff,reduceEqDiff,Int.reduceLT,Int.reduceLE,Int.reduceEq,Int.reduceToNat,h2,oneOf]
 rw[if_neg h2];by_cases h3:k=3
 ·rw[if_pos h3]; simp (maxSteps:=9999999) +contextual only[exa,ne_eq,not_false_eq_true,reduceAdd,reduceMul,reduceLT,reduceLeDiff,reduceEqDiff,Int.reduceLT,Int.reduceLE,Int.reduceEq,Int.reduceToNat,h3,oneOf]
 rw[if_neg h3];by_cases h4:k=4
 ·rw[if_pos h4]; simp (maxSteps:=9999999) +contextual only[exa,ne_eq,not_false_eq_true,reduceAdd,reduceMul,reduceLT,reduceLeDiff,reduceEqDiff,Int.reduceLT,Int.reduceLE,Int.reduceEq,Int.reduceToNat,h4,oneOf]
 rw[if_neg h4];by_cases h5:k=5
 ·rw[if_pos h5]; simp (maxSteps:=9999999) +contextual only[exa,ne_eq,not_false_eq_true,reduceAdd,reduceMul,reduceLT,reduceLeDiff,reduceEqDiff,Int.reduceLT,Int.reduceLE,Int.reduceEq,Int.reduceToNat,h5,oneOf]
 rw[if_neg h5];by_cases h6:k=6
 ·rw[if_pos h6]; simp (maxSteps:=9999999) +contextual only[exa,ne_eq,not_false_eq_true,reduceAdd,reduceMul,reduceLT,reduceLeDiff,reduceEqDiff,Int.reduceLT,Int.reduceLE,Int.reduceEq,Int.reduceToNat,h6,oneOf]
 rw[if_neg h6];by_cases h8:k=8
 ·rw[if_pos h8]; simp (maxSteps:=9999999) +contextual only[exa,ne_eq,not_false_eq_true,reduceAdd,reduceMul,reduceLT,reduceLeDiff,reduceEqDiff,Int.reduceLT,Int.reduceLE,Int.reduceEq,Int.reduceToNat,h8,oneOf]
 rw[if_neg h8];simp (maxSteps:=9999999) +contextual only[exa,ne_eq,not_false_eq_true,reduceAdd,reduceMul,reduceLT,reduceLeDiff,reduceEqDiff,Int.reduceLT,Int.reduceLE,Int.reduceEq,Int.reduceToNat,h1,h2,h3,h4,h5,h6,h8,oneOf]
theorem u32{β:Type}{k:TVal→Heap→Option β}{h:Heap}{d:Nat}(a:Int):vcall Om (.v (.c (.func 32 []))) [kI a] h d k=k (kS (wordM a)) h:=qAE 32 _ _ rfl (qMs a (.inr trivial)) rfl
theorem y32{β:Type}{kt:TVal→Heap→AI.Touch→Option β}{h:Heap}{d:Nat}(a:Int):vtouch Om (.call (.k (.v (.c (.func 32 [])))) [.k (kI a)]) h d kt=kt (kS (wordM a)) h noTouch:=qCS 32 [kI a] _ rfl (qMs a (.inr trivial)) rfl
theorem qEg:∀ xs:List (List UInt8),strRows (xs.map sRow)=some xs
 |[]=>rfl
 |x::xs=>by
  show(bnd (strRow (sRow x)) fun s=>bnd (strRows (xs.map sRow)) fun t=>some (s::t))=_;rw[qEg xs]; rfl
theorem qQw(xs:List (List UInt8))(sep:List UInt8)(h1:(Lib.join xs sep).length≤140737488355328)(h2:xs.length≤140737488355328):Om 53 [.v (.c (.p (growP 1 (xs.map sRow)))),kS sep] []=some (kS (Lib.join xs sep),[]):=by
 have e:S 53 [.v (.c (.p (growP 1 (xs.map sRow)))),kS sep] []=some (kS (Lib.join xs sep),[]):=by
  show(match (none:Option (TVal×List AObj)) with|some r=>some r|none=>joinP (growP 1 (xs.map sRow)) sep)=_;cases xs with
  |nil=>rfl
  |cons x xs =>
   show bnd (strRows ((x::xs).map sRow)) (fun ys=>joinO ys sep)=_;rw[qEg];show(bif Nat.ble (lenF (Lib.join (x::xs) sep)) 140737488355328&&Nat.ble (lenF (x::xs)) 140737488355328 then _ else none)=_;rw[qAK,qAK,show Nat.ble (Lib.join (x::xs) sep).length 140737488355328=true from Nat.ble_eq_true_of_le h1,show Nat.ble (x::xs).length 140737488355328=true from Nat.ble_eq_true_of_le h2]; rfl
 show Option.rec (motive:=fun _=>Res1) _ some (S 53 _ [])=_;rw[e]
def TextOK(t:TT):Prop:=Om 14 [kA t.row] []=some (kS (txtM t),[])
abbrev q1:TVal := .v (.c (.ptr (.own 1 1) 0))
theorem qNc(w:List UInt8)(l:Sl TT)(hl:l.len≤1000)(ok:∀ x∈l.list,TextOK x):∀ (i:Nat) (acc:List UInt8) (h:Heap),(acc++angL (l.list.drop i)).length≤1000000000→lim tab.get S 14 0 1 [kS acc,tsP l,kI (l.len:Int),kI (i:Int)] h=some (kS (acc++angL (l.list.drop i)),[]):=by
 refine qB7 l.len (fun i hi acc h hs => ?_) (fun i hi ihl acc h hs => ?_) <;> rw[w14_1,b14_1]
 ·have h1:¬ (i:Int)<(l.len:Int):=by omega
  have e1:l.list.drop i=[]:=qBb hi;rw[e1];simp (maxSteps:=9999999) +contextual only[exa,ne_eq,not_false_eq_true,reduceAdd,reduceMul,reduceLT,reduceLeDiff,reduceEqDiff,Int.reduceLT,Int.reduceLE,Int.reduceEq,Int.reduceToNat,h1,oneOf,angL,List.append_nil]
 ·have h1:(i:Int)<(l.len:Int):=by omega
  obtain⟨x,hx,dx,mx⟩:=qAd (l:=l.list) (i:=i) hi;rw[dx,angL] at hs ⊢;have cc:CAL 14 [kA x.row] (kS (txtM x)):=qAE 14 _ _ (by simp only[exP]) (ok x mx) rfl;have hs':=hs;simp only[List.length_append,List.length_cons,List.length_nil] at hs';have s1:([60]:List UInt8).length+(txtM x).length≤4611686018427387904:=by simp; omega
  have s2:([60]++txtM x).length+([62]:List UInt8).length≤4611686018427387904:=by simp; omega
  have s3:acc.length+([60]++txtM x++[62]).length≤4611686018427387904:=by simp; omega
  have D1:decide (([60]:List UInt8).length+(txtM x).length≤4611686018427387904)=true:=decide_eq_true s1;have D2:decide (([60]++txtM x).length+([62]:List UInt8).length≤4611686018427387904)=true:=decide_eq_true s2;have D3:decide (acc.length+([60]++txtM x++[62]).length≤4611686018427387904)=true:=decide_eq_true s3;have A1:∀ {β:Type}{h:Heap}{k:TVal→Heap→Option β},vbin .add 0 (kS [60]) (kS (txtM x)) h k=k (kS ([60]++txtM x)) h:=fun{β h k}=>qA0 0 _ _ s1
  have A2:∀ {β:Type}{h:Heap}{k:TVal→Heap→Option β},vbin .add 0 (kS ([60]++txtM x)) (kS [62]) h k=k (kS ([60]++txtM x++[62])) h:=fun{β h k}=>qA0 0 _ _ s2
  have A3:∀ {β:Type}{h:Heap}{k:TVal→Heap→Option β},vbin .add 0 (kS acc) (kS ([60]++txtM x++[62])) h k=k (kS (acc++([60]++txtM x++[62]))) h:=fun{β h k}=>qA0 0 _ _ s3
  have:=ihl (acc++([60]++txtM x++[62])) ((h.own 5 (h.gen 5+1) (.cells z4 0)).own 5 (h.gen 5+1) (.cells (pcells x.row) 0)) (by simp only[List.append_assoc] at hs ⊢; exact hs);simp only[List.append_assoc] at this;simp (maxSteps:=9999999) +contextual only[h1,hx,cc,A1,A2,A3,qBW i (by omega),qC0 _ (TT.row_len _),exa,ne_eq,not_false_eq_true,reduceAdd,reduceMul,reduceLT,reduceLeDiff,reduceEqDiff,Int.reduceLT,Int.reduceLE,Int.reduceEq,Int.reduceToNat];simp only[List.append_assoc];exact this
end Go.Proofs.YtnlmlcfipbnpgaaDoor.Ab
set_option maxHeartbeats 4000000
namespace Go.Proofs.YtnlmlcfipbnpgaaDoor.Ab
open Go Go.AI
structure RS where
 p:Nat
 e:Int
 tw:Bool
def tksP(L:List Tok):PVal:=growP 4 (L.map Tok.row)
abbrev rO(L:List Tok)(s:RS):AObj := .cells [.p (tksP L),.p (.int .i64 (s.p:Int)),.p (.int .i64 s.e),.p (.bool s.tw)] 0
abbrev P0:TVal := .v (.c (.ptr (.im 0) 0))
theorem qAG(L:List Tok)(s:RS):plainO (rO L s):=qAN [tksP L,.int .i64 (s.p:Int),.int .i64 s.e,.bool s.tw] 0
theorem qCT{β:Type}{O:Oracle}{h:Heap}{d:Nat}{k:TVal→Heap→Option β}(L:List Tok):vlen O 2 (.v (.c (.p (tksP L)))) h d k=k (kI (L.length:Int)) h:=by
 cases L with
 |nil=>rfl
 |cons t L =>
  show vlen O 2 (.v (.c (.p (.slice 4 false ((t::L).map Tok.row))))) h d k=_;simp (maxSteps:=9999999) +contextual only[exa,ne_eq,not_false_eq_true,reduceAdd,reduceMul,reduceLT,reduceLeDiff,reduceEqDiff,Int.reduceLT,Int.reduceLE,Int.reduceEq,Int.reduceToNat,List.length_map]
theorem qRX{β:Type}{h:Heap}{k:TVal→Heap→Option β}(L:List Tok)(i:Nat)(t:Tok)(ht:L[i]?=some t):viaddr 4 (.v (.c (.p (tksP L)))) (kI (i:Int)) h k=k (.v (.c (.p (.pptr t.row 0)))) h:=by
 cases L with
 |nil=>cases ht
 |cons a L =>
  have:((a::L).map Tok.row)[i]?=some t.row:=by rw[List.getElem?_map,ht]; rfl
  show viaddr 4 (.v (.c (.p (.slice 4 false ((a::L).map Tok.row))))) (kI (i:Int)) h k=_;simp (maxSteps:=9999999) +contextual only[exa,ne_eq,not_false_eq_true,reduceAdd,reduceMul,reduceLT,reduceLeDiff,reduceEqDiff,Int.reduceLT,Int.reduceLE,Int.reduceEq,Int.reduceToNat,this,Int.toNat_natCast]
def peekM(L:List Tok)(s:RS):Tok:=if s.e=0 then (L[s.p]?).getD Tok.zero else Tok.zero
abbrev zT:List Cell:=[.p (.int .i64 0),.p (.str []),.p (.int .i64 0),.p (.int .i64 0)]
theorem qRY(L:List Tok)(s:RS):Om 55 [P0] [rO L s]=some (.v (.agg (peekM L s).cells),[rO L s]):=by
 refine(qAB rfl).trans ?_;show lim tab.get S 55 1 0 [P0] { ims:=[rO L s],owns := .nil }=_;have g0:∀ x:AObj,((Heap.mk [rO L s] .nil).own 2 1 x).get (.im 0)=some (rO L s):=fun _=>rfl
 have gn:(Heap.mk [rO L s] .nil).gen 2=0:=rfl;have fin:∀ (t:Tok) (x y:AObj),vfin true 1 [.agg t.cells] (((Heap.mk [rO L s] .nil).own 2 1 x).own 2 1 y)=some (.v (.agg t.cells),[rO L s]):=fun t x y=>qBP true [.agg t.cells] _ rfl rfl (qAG L s)
 have PT:∀ t:Tok,put1 zT 0 t.cells=t.cells:=fun _=>rfl
 have tl:∀ t:Tok,t.cells.length=4:=fun _=>rfl
 have tt:∀ t:Tok,t.cells.take 4=t.cells:=fun _=>rfl
 have BZ:∀ (β:Type) (k:TVal→Heap→Option β) (h:Heap),vop Om (.build zT []) h 20 k=k (.v (.agg Tok.zero.cells)) h:=fun _ _ _=>rfl
 rw[w55_0,b55_0];unfold peekM;by_cases he:s.e=0
 ·rw[if_pos he];by_cases hp:s.p<L.length
  ·have ht:L[s.p]?=some L[s.p]:=List.getElem?_eq_getElem hp;have AT:=fun(β:Type) (k:TVal→Heap→Option β) (h:Heap)=>qRX (h:=h) (k:=k) L s.p L[s.p] ht
   have q1:(s.p:Int)<(L.length:Int):=by omega
   have LD:∀ (β:Type) (k:TVal→Heap→Option β) (h:Heap),vload true 4 (.v (.c (.p (.pptr L[s.p].row 0)))) h k=k (.v (.agg L[s.p].cells)) h:=fun _ _ _=>rfl
   rw[ht,Option.getD_some];generalize L[s.p]=t at *;simp (maxSteps:=9999999) +contextual only[exa,ne_eq,not_false_eq_true,reduceAdd,reduceMul,reduceLT,reduceLeDiff,reduceEqDiff,Int.reduceLT,Int.reduceLE,Int.reduceEq,Int.reduceToNat,exW,gn,g0,he,q1,qCT,AT,LD,PT,tl,tt];exact fin t _ _
  ·have ht:L[s.p]?=none:=List.getElem?_eq_none (by omega);have q1:¬ (s.p:Int)<(L.length:Int):=by omega
   rw[ht,Option.getD_none];simp (maxSteps:=9999999) +contextual only[exa,ne_eq,not_false_eq_true,reduceAdd,reduceMul,reduceLT,reduceLeDiff,reduceEqDiff,Int.reduceLT,Int.reduceLE,Int.reduceEq,Int.reduceToNat,exW,gn,g0,he,q1,qCT,PT,tl,tt,BZ];exact fin _ _ _
 ·rw[if_neg he];simp (maxSteps:=9999999) +contextual only[exa,ne_eq,not_false_eq_true,reduceAdd,reduceMul,reduceLT,reduceLeDiff,reduceEqDiff,Int.reduceLT,Int.reduceLE,Int.reduceEq,Int.reduceToNat,exW,gn,g0,he,qCT,PT,tl,tt,BZ];exact fin _ _ _
theorem u55{β:Type}{k:TVal→Heap→Option β}{h:Heap}{d:Nat}{L:List Tok}{s:RS}(hg:h.get (.im 0)=some (rO L s)):vcall Om (.v (.c (.func 55 []))) [P0] h d k=k (.v (.agg (peekM L s).cells)) h :=
 (qAv 55 (.im 0) 0 [] [] _ _ _ rfl rfl hg (qAG L s) (qAG L s) rfl (qRY L s)).trans (by show k _ (h.put (.im 0) (rO L s))=k _ h; rw[qMW 0 _ hg])
def failM(s:RS)(e:Int):RS:=if s.e=0 then { s with e:=e } else s
theorem qQ5(L:List Tok)(s:RS)(e:Int):Om 56 [P0,kI e] [rO L s]=some (.tup [],[rO L (failM s e)]):=by
 refine(qAB rfl).trans ?_;show lim tab.get S 56 1 0 [P0,kI e] { ims:=[rO L s],owns := .nil }=_;have g0:(Heap.mk [rO L s] .nil).get (.im 0)=some (rO L s):=rfl;have P:∀ (a b c d x:Cell),put1 [a,b,c,d] 2 [x]=[a,b,x,d]:=fun _ _ _ _ _=>rfl
 rw[w56_0,b56_0];unfold failM;by_cases he:s.e=0
 ·rw[if_pos he];have fin:vfin true 1 [] ((Heap.mk [rO L s] .nil).put (.im 0) (rO L { s with e:=e }))=some (.tup [],[rO L { s with e:=e }]):=qBP true [] _ rfl rfl (qAG L _);simp (maxSteps:=9999999) +contextual only[exa,ne_eq,not_false_eq_true,reduceAdd,reduceMul,reduceLT,reduceLeDiff,reduceEqDiff,Int.reduceLT,Int.reduceLE,Int.reduceEq,Int.reduceToNat,exW,g0,he,P]
 ·rw[if_neg he];have fin:vfin true 1 [] (Heap.mk [rO L s] .nil)=some (.tup [],[rO L s]):=qBP true [] _ rfl rfl (qAG L _);simp (maxSteps:=9999999) +contextual only[exa,ne_eq,not_false_eq_true,reduceAdd,reduceMul,reduceLT,reduceLeDiff,reduceEqDiff,Int.reduceLT,Int.reduceLE,Int.reduceEq,Int.reduceToNat,exW,g0,he,P]
theorem u56{β:Type}{k:TVal→Heap→Option β}{h:Heap}{d:Nat}{L:List Tok}{s:RS}(e:Int)(hg:h.get (.im 0)=some (rO L s)):vcall Om (.v (.c (.func 56 []))) [P0,kI e] h d k=k (.tup []) (h.put (.im 0) (rO L (failM s e))) :=
 qAv 56 (.im 0) 0 [] [kI e] _ _ _ rfl rfl hg (qAG L s) (qAG L _) rfl (qQ5 L s e)
def mustM(s:RS)(b:Bool):RS:=if b=true then s else failM s 12
theorem qFP(L:List Tok)(s:RS)(b:Bool):Om 39 [P0,kB b] [rO L s]=some (.tup [],[rO L (mustM s b)]):=by
 refine(qAB rfl).trans ?_;show lim tab.get S 39 1 0 [P0,kB b] { ims:=[rO L s],owns := .nil }=_;have g0:(Heap.mk [rO L s] .nil).get (.im 0)=some (rO L s):=rfl;have U:=fun(β:Type) (k:TVal→Heap→Option β) (d:Nat)=>u56 (k:=k) (d:=d) 12 g0
 rw[w39_0,b39_0];unfold mustM;cases b with
 |true =>
  have fin:vfin true 1 [] (Heap.mk [rO L s] .nil)=some (.tup [],[rO L s]):=qBP true [] _ rfl rfl (qAG L _);simp (maxSteps:=9999999) +contextual only[exa,ne_eq,not_false_eq_true,reduceAdd,reduceMul,reduceLT,reduceLeDiff,reduceEqDiff,Int.reduceLT,Int.reduceLE,Int.reduceEq,Int.reduceToNat,exW];exact fin
 |false =>
  have fin:vfin true 1 [] ((Heap.mk [rO L s] .nil).put (.im 0) (rO L (failM s 12)))=some (.tup [],[rO L (failM s 12)]):=qBP true [] _ rfl rfl (qAG L _);simp (maxSteps:=9999999) +contextual only[exa,ne_eq,not_false_eq_true,reduceAdd,reduceMul,reduceLT,reduceLeDiff,reduceEqDiff,Int.reduceLT,Int.reduceLE,Int.reduceEq,Int.reduceToNat,exW,U];exact fin
theorem u39{β:Type}{k:TVal→Heap→Option β}{h:Heap}{d:Nat}{L:List Tok}{s:RS}(b:Bool)(hg:h.get (.im 0)=some (rO L s)):vcall Om (.v (.c (.func 39 []))) [P0,kB b] h d k=k (.tup []) (h.put (.im 0) (rO L (mustM s b))) :=
 qAv 39 (.im 0) 0 [] [kB b] _ _ _ rfl rfl hg (qAG L s) (qAG L _) rfl (qFP L s b)
def nextM(s:RS):RS:={ s with p:=s.p+1 }
def isM(k:Int)(L:List Tok)(s:RS)(x:List UInt8):Bool:=decide ((peekM L s).kind=k)&&decide ((peekM L s).text=x)
def takeM(k:Int)(L:List Tok)(s:RS)(x:List UInt8):RS:=if isM k L s x=true then nextM s else s
theorem qKy(t:Tok):t.cells=[.p (.int .i64 t.kind),.p (.str t.text),.p (.int .i64 t.n),.p (.int .i64 t.pos)]:=rfl
theorem qFX(L:List Tok)(s:RS)(hp:s.p≤1000000)(x:List UInt8):Om 41 [P0,kS x] [rO L s]=some (kB (isM 4 L s x),[rO L (takeM 4 L s x)]):=by
 refine(qAB rfl).trans ?_;show lim tab.get S 41 1 0 [P0,kS x] { ims:=[rO L s],owns := .nil }=_;have g0:(Heap.mk [rO L s] .nil).get (.im 0)=some (rO L s):=rfl;have U:=fun(β:Type) (k:TVal→Heap→Option β) (d:Nat)=>u55 (k:=k) (d:=d) g0
 have gn:(Heap.mk [rO L s] .nil).gen 5=0:=rfl;have g1:∀ a b:AObj,(((Heap.mk [rO L s] .nil).own 5 1 a).own 5 1 b).get (.im 0)=some (rO L s):=fun _ _=>rfl
 have P4:∀ a b c d:Cell,put1 zT 0 [a,b,c,d]=[a,b,c,d]:=fun _ _ _ _=>rfl
 have P1:∀ (a b c d y:Cell),put1 [a,b,c,d] 1 [y]=[a,y,c,d]:=fun _ _ _ _ _=>rfl
 have w1:IntKind.i64.wrap ((s.p:Int)+1)=((s.p+1:Nat):Int):=by rw[qAM _ (by omega) (by omega)]; omega
 unfold takeM isM;rw[w41_0,b41_0];rw[qKy] at U;generalize peekM L s=t at *;by_cases h1:t.kind=4
 ·by_cases h2:t.text=x
  ·simp (maxSteps:=9999999) +contextual only[exa,ne_eq,not_false_eq_true,reduceAdd,reduceMul,reduceLT,reduceLeDiff,reduceEqDiff,Int.reduceLT,Int.reduceLE,Int.reduceEq,Int.reduceToNat,exW,U,gn,g1,P4,P1,h1,h2,w1,Bool.and_true,decide_true];rfl
  ·simp (maxSteps:=9999999) +contextual only[exa,ne_eq,not_false_eq_true,reduceAdd,reduceMul,reduceLT,reduceLeDiff,reduceEqDiff,Int.reduceLT,Int.reduceLE,Int.reduceEq,Int.reduceToNat,exW,U,gn,g1,P4,P1,h1,h2,w1,Bool.and_false,decide_false,decide_true];rfl
 ·simp (maxSteps:=9999999) +contextual only[exa,ne_eq,not_false_eq_true,reduceAdd,reduceMul,reduceLT,reduceLeDiff,reduceEqDiff,Int.reduceLT,Int.reduceLE,Int.reduceEq,Int.reduceToNat,exW,U,gn,g1,P4,P1,h1,w1,Bool.false_and,decide_false];rfl
theorem u41{β:Type}{k:TVal→Heap→Option β}{h:Heap}{d:Nat}{L:List Tok}{s:RS}(hp:s.p≤1000000)(x:List UInt8)(hg:h.get (.im 0)=some (rO L s)):vcall Om (.v (.c (.func 41 []))) [P0,kS x] h d k=k (kB (isM 4 L s x)) (h.put (.im 0) (rO L (takeM 4 L s x))) :=
 qAv 41 (.im 0) 0 [] [kS x] _ _ _ rfl rfl hg (qAG L s) (qAG L _) rfl (qFX L s hp x)
theorem qBQ(s:RS)(b:Bool):(mustM s b).p=s.p:=by
 unfold mustM failM;split
 ·rfl
 ·split <;> rfl
theorem qMz(L:List Tok)(s:RS)(hp:s.p≤1000000):Om 65 [P0] [rO L s]=some (kS (peekM L s).text,[rO L (nextM (mustM s (decide ((peekM L s).kind=1))))]):=by
 refine(qAB rfl).trans ?_;show lim tab.get S 65 1 0 [P0] { ims:=[rO L s],owns := .nil }=_;have g0:(Heap.mk [rO L s] .nil).get (.im 0)=some (rO L s):=rfl;have U:=fun(β:Type) (k:TVal→Heap→Option β) (d:Nat)=>u55 (k:=k) (d:=d) g0
 have gn:(Heap.mk [rO L s] .nil).gen 3=0:=rfl;have g1:∀ a b:AObj,(((Heap.mk [rO L s] .nil).own 3 1 a).own 3 1 b).get (.im 0)=some (rO L s):=fun _ _=>rfl
 have P4:∀ a b c d:Cell,put1 zT 0 [a,b,c,d]=[a,b,c,d]:=fun _ _ _ _=>rfl
 have P1:∀ (a b c d y:Cell),put1 [a,b,c,d] 1 [y]=[a,y,c,d]:=fun _ _ _ _ _=>rfl
 have U39:=fun(a b:AObj) (c:Bool) (β:Type) (k:TVal→Heap→Option β) (d:Nat)=>u39 (k:=k) (d:=d) c (g1 a b)
 rw[qKy] at U;rw[w65_0,b65_0];generalize peekM L s=t at *;generalize hs:mustM s (decide (t.kind=1))=s';have hp':s'.p≤1000000:=by rw[← hs,qBQ]; exact hp
 have w1:IntKind.i64.wrap ((s'.p:Int)+1)=((s'.p+1:Nat):Int):=by rw[qAM _ (by omega) (by omega)]; omega
 have G2:∀ a b:AObj,((((Heap.mk [rO L s] .nil).own 3 1 a).own 3 1 b).put (.im 0) (rO L s')).get (.im 0)=some (rO L s'):=fun _ _=>rfl
 simp (maxSteps:=9999999) +contextual only[exa,ne_eq,not_false_eq_true,reduceAdd,reduceMul,reduceLT,reduceLeDiff,reduceEqDiff,Int.reduceLT,Int.reduceLE,Int.reduceEq,Int.reduceToNat,exW,U,U39,gn,P4,P1,hs,G2,w1];rfl
def endM(L:List Tok)(s:RS):RS:=mustM s (decide (L.length≤s.p))
def errM(s:RS):Int:=if s.e≠0 then s.e else if s.tw=true then 6 else 0
theorem qRp(L:List Tok)(s:RS):Om 35 [P0] [rO L s]=some (kI (errM (endM L s)),[rO L (endM L s)]):=by
 refine(qAB rfl).trans ?_;show lim tab.get S 35 1 0 [P0] { ims:=[rO L s],owns := .nil }=_;have g0:(Heap.mk [rO L s] .nil).get (.im 0)=some (rO L s):=rfl;have U39:=fun(c:Bool) (β:Type) (k:TVal→Heap→Option β) (d:Nat)=>u39 (k:=k) (d:=d) c g0
 have ed:(!decide ((s.p:Int)<(L.length:Int)))=decide (L.length≤s.p):=by
  by_cases h:L.length≤s.p
  ·rw[decide_eq_true h,decide_eq_false (by omega)]; rfl
  ·rw[decide_eq_false h,decide_eq_true (by omega)]; rfl
 rw[w35_0,b35_0];unfold endM;generalize hs:mustM s (decide (L.length≤s.p))=s';have G2:((Heap.mk [rO L s] .nil).put (.im 0) (rO L s')).get (.im 0)=some (rO L s'):=rfl;unfold errM;by_cases h1:s'.e=0
 ·cases h2:s'.tw with
  |true =>
   simp (maxSteps:=9999999) +contextual only[exa,ne_eq,not_false_eq_true,reduceAdd,reduceMul,reduceLT,reduceLeDiff,reduceEqDiff,Int.reduceLT,Int.reduceLE,Int.reduceEq,Int.reduceToNat,exW,g0,qCT,ed,U39,hs,G2,h1,h2];rfl
  |false =>
   simp (maxSteps:=9999999) +contextual only[exa,ne_eq,not_false_eq_true,reduceAdd,reduceMul,reduceLT,reduceLeDiff,reduceEqDiff,Int.reduceLT,Int.reduceLE,Int.reduceEq,Int.reduceToNat,exW,g0,qCT,ed,U39,hs,G2,h1,h2];rfl
 ·simp (maxSteps:=9999999) +contextual only[exa,ne_eq,not_false_eq_true,reduceAdd,reduceMul,reduceLT,reduceLeDiff,reduceEqDiff,Int.reduceLT,Int.reduceLE,Int.reduceEq,Int.reduceToNat,exW,g0,qCT,ed,U39,hs,G2,h1];rfl
theorem u35{β:Type}{k:TVal→Heap→Option β}{h:Heap}{d:Nat}{L:List Tok}{s:RS}(hg:h.get (.im 0)=some (rO L s)):vcall Om (.v (.c (.func 35 []))) [P0] h d k=k (kI (errM (endM L s))) (h.put (.im 0) (rO L (endM L s))) :=
 qAv 35 (.im 0) 0 [] [] _ _ _ rfl rfl hg (qAG L s) (qAG L _) rfl (qRp L s)
end Go.Proofs.YtnlmlcfipbnpgaaDoor.Ab
set_option maxHeartbeats 4000000
namespace Go.AI
section
variable {β:Type} {O:Oracle} {h:Heap} {d:Nat} {k:TVal→Heap→Option β} {kt:TVal→Heap→Touch→Option β}
theorem qJ8{sz by':Nat}{j lb:Nat}{capb:Option Nat}{ys:List Cell}{ib:Nat}(hb:lb≠0)(hm:lb*by'≤1099511627776)(gb:h.get (.im j)=some (.cells ys ib))(ly:ys.length=lb*sz) :
  vop O (.append sz by' true (.k (.v (.c (.p .nilslice)))) (.k (.v (.c (.sref (.im j) 0 lb capb sz))))) h d k=k (.v (.c (.sref (.im h.ims.length) 0 lb none sz))) (h.push (.cells ys 0)):=by
 have ea:appendTo sz by' true (.v (.c (.p .nilslice))) none ys lb=some ⟨fun r => .v (.c (.sref r 0 lb none sz)),[],some (.cells ys 0),true⟩:=by
  unfold appendTo;rw[if_neg hb];dsimp only;unfold freshRow;rw[if_pos rfl,if_pos (by omega)]
 show opK O _ .nil h d k=_;rw[qAs];have:slow O (.append sz by' true (.k (.v (.c (.p .nilslice)))) (.k (.v (.c (.sref (.im j) 0 lb capb sz))))) .nil h d=some (.v (.c (.sref (.im h.ims.length) 0 lb none sz)),h.push (.cells ys 0)):=by
  unfold slow;show((Plan.go [.im j] _).exec O d h).map _=_;simp only[Plan.exec,goOp,List.mapM_cons,List.mapM_nil,gb,Option.pure_def,Option.bind_eq_bind,Option.bind_some,dstRef,srcRef,splitNeeds,qHb sz j lb capb ys ib ly,ea];rfl
 rw[this]; rfl
theorem qFz(q:Nat)(h:Heap)(fr:List Ref)(e:reach h fuelReach ((ims (q+1)).flatMap fun r=>match h.get r with|some o=>o.refs|none=>[]) (ims (q+1))=fr):vfin true (q+1) [] h=some (.tup [],fr.map fun r=>match h.get r with|some o=>o.ren (inn fr)|none => .dead):=by
 letI:Sym:=⟨fun _=>0⟩
 rw[qCU];unfold finV;simp only[oneOf,freezeT,List.mapM_nil,Option.pure_def,Option.map_some,List.flatMap_nil,settle,TVal.refs,List.append_nil,List.map_nil,TVal.ren,if_true,ite_self];subst e;rfl
theorem qCV(g:FuncId)(r:Ref)(x v:TVal)(o o':AObj)(hx:pT x=true)(hv:pT v=true)(hg:h.get r=some o)(ho:plainO o)(ho':plainO o')(hc:O g [.v (.c (.ptr (.im 0) 0)),x] [o]=some (v,[o'])) :
  vtouch O (.call (.k (.v (.c (.func g [])))) [.k (.v (.c (.ptr r 0))),.k x]) h d kt=kt v (h.put r o') ⟨[r.site,r.site],[r.site],false⟩:=by
 obtain⟨q1,q2,q3,q4⟩:=qAb hx;obtain⟨p1,p2,p3,p4⟩:=qAb hv;have e2:reach h fuelReach ([TVal.v (.c (.ptr r 0)),x].flatMap TVal.refs) []=[r]:=by
  rw[List.flatMap_cons,List.flatMap_cons,List.flatMap_nil,q1];show reach h (398+1+1) [r] []=_;rw[qAP _ r [] [] o (by simp) hg,ho.1];exact qA8 _ _
 have e3:([r]:List Ref).mapM h.get=some [o]:=by simp only[List.mapM_cons,List.mapM_nil,hg,Option.pure_def,Option.bind_eq_bind,Option.bind_some]
 have ir:inn [r] r=some (.im 0):=by simp[inn,idx]
 have e4:([TVal.v (.c (.ptr r 0)),x]).map (TVal.ren (inn [r]))=[.v (.c (.ptr (.im 0) 0)),x]:=by
  show [TVal.v (.c (match inn [r] r with|some s => .ptr s 0|none => .junk)),x.ren (inn [r])]=_;rw[ir,q3]
 have co:=qHP (d:=d) (h:=h) (O:=O) g [.v (.c (.ptr r 0)),x] [.v (.c (.ptr r 0)),x] _ [r] [o] [o] [o'] v (by show [_,x.strip]=_; rw[q2]; rfl) e2 e3 e4 (by rw[List.map_cons,ho.2]; rfl) hc (Nat.le_refl _);have hp:plan .nil (.call (.k (.v (.c (.func g [])))) [.k (.v (.c (.ptr r 0))),.k x])=some (.call g [.v (.c (.ptr r 0)),x]):=rfl;show bnd (plan2 (.call (.k (.v (.c (.func g [])))) [.k (.v (.c (.ptr r 0))),.k x]) .nil) (fun p=>bnd (p.exec O d h) fun x=>kt x.1 x.2.1 x.2.2)=_;rw[qAc,hp];show bnd (callOp O g [.v (.c (.ptr r 0)),x] d h) _=_;rw[co,bnd_some];have h1:hAfter h [r] [o']=h.put r o':=by show h.put r (o'.ren _)=_; rw[ho'.2]
 have h2:gTouch h [.v (.c (.ptr r 0)),x] [o] [r] [o']=⟨[r.site,r.site],[r.site],false⟩:=by
  unfold gTouch;rw[List.flatMap_cons,List.flatMap_cons,List.flatMap_nil,q1,List.flatMap_cons,List.flatMap_nil,ho.1];rfl
 dsimp only;rw[h1,h2,p3]
theorem qHy(cs:List Cell):vop O (.alloc cs true) h d k=k (.v (.c (.ptr (.im h.ims.length) 0))) (h.push (.cells cs 0)):=by rw[qGd]; rfl
end
theorem qJw(h:Heap)(d g:Nat)(o x:AObj)(i:Nat):(h.own d g o).put (.im i) x=(h.put (.im i) x).own d g o:=id rfl
theorem qJW(h:Heap)(d g:Nat)(o:AObj):(h.own d g o).ims.length=h.ims.length:=id rfl
theorem push_len(h:Heap)(o:AObj):(h.push o).ims.length=h.ims.length+1:=by show(h.ims++[o]).length=_; simp
theorem qID(h:Heap)(cs:List Cell)(i n:Nat)(hn:h.ims.length=n):(h.push (.cells cs i)).get (.im n)=some (.cells cs i):=by rw[← hn]; exact qHr h _ (fun e=>by cases e)
theorem qER(h:Heap)(o:AObj)(i:Nat)(hi:i<h.ims.length):(h.push o).get (.im i)=h.get (.im i):=by
 unfold Heap.push Heap.get;simp only[List.getElem?_append_left hi]
theorem qHn(h:Heap)(o x:AObj)(i:Nat)(hi:i<h.ims.length):(h.push o).put (.im i) x=(h.put (.im i) x).push o:=by
 show Heap.mk ((h.ims++[o]).set i x) h.owns=Heap.mk (h.ims.set i x++[o]) h.owns;rw[List.set_append_left _ _ hi]
theorem qGS(h:Heap)(o x:AObj)(n:Nat)(hn:h.ims.length=n):(h.push o).put (.im n) x=h.push x:=by
 show Heap.mk ((h.ims++[o]).set n x) h.owns=Heap.mk (h.ims++[x]) h.owns;rw[← hn,List.set_append_right _ _ (Nat.le_refl _),Nat.sub_self]; rfl
end Go.AI
namespace Go.Proofs.YtnlmlcfipbnpgaaDoor.Ab
open Go Go.AI
def nmS1(L:List Tok)(s:RS):RS:=nextM (mustM s (decide ((peekM L s).kind=1)))
def colM(L:List Tok)(s:RS):RS:=mustM (takeM 4 L (nmS1 L s) [58]) (isM 4 L (nmS1 L s) [58])
structure Ent (d:Int) (L:List Tok) (s:RS) (v:TT) (s':RS):Prop where
 one:Om 34 [P0,kI (d+1)] [rO L (colM L s)]=some (kA v.row,[rO L s'])
 hd:0≤d∧d≤100
 hp:s.p≤900000
abbrev boxO(i:Nat):AObj := .cells [.ptr (.im i) 0] 0
abbrev intO(d:Int):AObj := .cells [.p (.int .i64 d)] 0
def eRow(key:List UInt8)(v:TT):List PVal := .str key::v.row
def H4(L:List Tok)(a:RS)(d:Int)(E:AObj):Heap := .mk [boxO 1,rO L a,intO d,E] .nil
section
variable (L:List Tok) (a b:RS) (d:Int) (E E':AObj) (i:Nat) (cs:List Cell)
theorem H4_0:(H4 L a d E).get (.im 0)=some (boxO 1):=id rfl
theorem H4_1:(H4 L a d E).get (.im 1)=some (rO L a):=id rfl
theorem H4_2:(H4 L a d E).get (.im 2)=some (intO d):=id rfl
theorem H4_3:(H4 L a d (.cells cs i)).get (.im 3)=some (.cells cs i):=id rfl
theorem qRw:(H4 L a d E).put (.im 1) (rO L b)=H4 L b d E:=id rfl
theorem qRv:(H4 L a d E).put (.im 3) E'=H4 L a d E':=id rfl
theorem H4_l:(H4 L a d E).ims.length=4:=id rfl
theorem qRO:(H4 L a d E).gen i=0:=id rfl
end
abbrev z5:List Cell:=[.p (.str []),.p (.int .i64 0),.p (.str []),.p .nilslice,.p .nilslice]
theorem qPA{β:Type}{k:TVal→Heap→Option β}{h:Heap}{d:Nat}(c0 c1 c2 c3 c4:Cell):vop Om (.bslice 5 1 z5 [(0,.k (.v (.agg [c0,c1,c2,c3,c4])))] true) h d k=k (.v (.c (.sref (.im h.ims.length) 0 1 (some 1) 5))) (h.push (.cells [c0,c1,c2,c3,c4] 0)):=by
 show opK Om _ .nil h d k=_;rw[qAs]; rfl
theorem qCH(L:List Tok)(s:RS):(nmS1 L s).p=s.p+1:=by
 unfold nmS1 nextM;show(mustM s _).p+1=_;rw[qBQ]
theorem qQG(d:Int)(L:List Tok)(s:RS)(v:TT)(s':RS)(E:Ent d L s v s') :
  Om 86 [P0,.v (.c (.ptr (.im 2) 0)),.v (.c (.ptr (.im 3) 0))] [boxO 1,rO L s,intO d,.cells [.p .nilslice] 0] =
   some (.tup [],[boxO 1,rO L s',intO d,.cells [.sref (.im 4) 0 1 none 5] 0,.cells (pcells (eRow (peekM L s).text v)) 0]):=by
 obtain⟨e1,hd,hp⟩:=E;refine(qAB rfl).trans ?_;show lim tab.get S 86 4 0 [P0,.v (.c (.ptr (.im 2) 0)),.v (.c (.ptr (.im 3) 0))] (H4 L s d (.cells [.p .nilslice] 0))=_;have c65:∀ {β:Type}{k:TVal→Heap→Option β}{h:Heap}{e:Nat},h.get (.im 1)=some (rO L s)→vcall Om (.v (.c (.func 65 []))) [.v (.c (.ptr (.im 1) 0))] h e k=k (kS (peekM L s).text) (h.put (.im 1) (rO L (nmS1 L s))):=fun{β k h e} hg =>
  qAv 65 (.im 1) 0 [] [] _ _ _ rfl rfl hg (qAG L s) (qAG L _) rfl (qMz L s (by omega))
 have hp1:(nmS1 L s).p≤1000000:=by rw[qCH]; omega
 have c41:∀ {β:Type}{h:Heap}{e:Nat}{kt:TVal→Heap→AI.Touch→Option β},h.get (.im 1)=some (rO L (nmS1 L s))→vtouch Om (.call (.k (.v (.c (.func 41 [])))) [.k (.v (.c (.ptr (.im 1) 0))),.k (kS [58])]) h e kt=kt (kB (isM 4 L (nmS1 L s) [58])) (h.put (.im 1) (rO L (takeM 4 L (nmS1 L s) [58]))) ⟨[(Ref.im 1).site,(Ref.im 1).site],[(Ref.im 1).site],false⟩:=fun{β h e kt} hg =>
  qCV 41 (.im 1) (kS [58]) _ _ _ rfl rfl hg (qAG L _) (qAG L _) (qFX L _ hp1 [58])
 have c39:∀ {β:Type}{h:Heap}{e:Nat}{kt:TVal→Heap→AI.Touch→Option β},h.get (.im 1)=some (rO L (takeM 4 L (nmS1 L s) [58]))→vtouch Om (.call (.k (.v (.c (.func 39 [])))) [.k (.v (.c (.ptr (.im 1) 0))),.k (kB (isM 4 L (nmS1 L s) [58]))]) h e kt=kt (.tup []) (h.put (.im 1) (rO L (colM L s))) ⟨[(Ref.im 1).site,(Ref.im 1).site],[(Ref.im 1).site],false⟩:=fun{β h e kt} hg =>
  qCV 39 (.im 1) (kB (isM 4 L (nmS1 L s) [58])) _ _ _ rfl rfl hg (qAG L _) (qAG L _) (qFP L _ _)
 have c34:∀ {β:Type}{k:TVal→Heap→Option β}{h:Heap}{e:Nat},h.get (.im 1)=some (rO L (colM L s))→vcall Om (.v (.c (.func 34 []))) [.v (.c (.ptr (.im 1) 0)),kI (d+1)] h e k=k (kA v.row) (h.put (.im 1) (rO L s')):=fun{β k h e} hg =>
  qAv 34 (.im 1) 0 [] [kI (d+1)] _ _ _ rfl rfl hg (qAG L _) (qAG L _) (by simp only[exP]) e1
 have ed:IntKind.i64.wrap (d+1)=d+1:=qAM _ (by omega) (by omega);obtain⟨a1,a2,a3,a4,hrow⟩:∃ a1 a2 a3 a4,v.row=[a1,a2,a3,a4]:=by cases v; exact⟨_,_,_,_,rfl⟩
 unfold eRow;rw[hrow] at c34 ⊢;have pr:pcells [a1,a2,a3,a4]=[.p a1,.p a2,.p a3,.p a4]:=rfl;generalize isM 4 L (nmS1 L s) [58]=bc at *;generalize hs2:takeM 4 L (nmS1 L s) [58]=s2 at *;generalize hs3:colM L s=s3 at *;generalize nmS1 L s=s1 at *;generalize (peekM L s).text=key at *;have ap:=fun{β:Type} {k:TVal→Heap→Option β} {h:Heap} {e:Nat} (gb:h.get (.im 5)=some (.cells [.p (.str key),.p a1,.p a2,.p a3,.p a4] 0))=>qJ8 (O:=Om) (k:=k) (d:=e) (sz:=5) (by':=88) (lb:=1) (capb:=some 1) (by omega) (by omega) gb rfl
 have P5:∀ a b c d e:Cell,put1 z5 0 [a,b,c,d,e]=[a,b,c,d,e]:=fun _ _ _ _ _=>rfl
 have P4:∀ a b c d e x y z w:Cell,put1 [a,b,c,d,e] 1 [x,y,z,w]=[a,x,y,z,w]:=fun _ _ _ _ _ _ _ _ _=>rfl
 rw[w86_0,b86_0];simp (maxSteps:=9999999) +contextual only[exa,ne_eq,not_false_eq_true,reduceAdd,reduceMul,reduceLT,reduceLeDiff,reduceEqDiff,Int.reduceLT,Int.reduceLE,Int.reduceEq,Int.reduceToNat,exW,exY,H4_0,H4_1,H4_2,H4_3,qRw,qRv,H4_l,qJw,c65,c41,c39,c34,ed,if_false,pr,qPA,qHy,qRO,qJW,push_len,qID,qHn,qGS,qER,ap,oneOf,P5,P4];exact(qFz 3 _ [.im 0,.im 1,.im 2,.im 3,.im 6] rfl).trans rfl
def H5(L:List Tok)(a:RS)(d:Int)(E F:AObj):Heap := .mk [boxO 1,rO L a,intO d,E,F] .nil
section
variable (L:List Tok) (a b:RS) (d:Int) (E E' F F':AObj) (i:Nat) (cs:List Cell)
theorem H5_0:(H5 L a d E F).get (.im 0)=some (boxO 1):=id rfl
theorem H5_1:(H5 L a d E F).get (.im 1)=some (rO L a):=id rfl
theorem H5_2:(H5 L a d E F).get (.im 2)=some (intO d):=id rfl
theorem H5_3:(H5 L a d (.cells cs i) F).get (.im 3)=some (.cells cs i):=id rfl
theorem H5_4:(H5 L a d E (.cells cs i)).get (.im 4)=some (.cells cs i):=id rfl
theorem qR5:(H5 L a d E F).put (.im 1) (rO L b)=H5 L b d E F:=id rfl
theorem qR3:(H5 L a d E F).put (.im 3) E'=H5 L a d E' F:=id rfl
theorem qRz:(H5 L a d E F).put (.im 4) F'=H5 L a d E F':=id rfl
theorem H5_l:(H5 L a d E F).ims.length=5:=id rfl
theorem qRK:(H5 L a d E F).gen i=0:=id rfl
end
theorem qN2(n:Nat)(xs:List PVal)(hx:xs.length=n*5)(hn:n≤100000)(d:Int)(L:List Tok)(s:RS)(v:TT)(s':RS)(E:Ent d L s v s') :
  Om 86 [P0,.v (.c (.ptr (.im 2) 0)),.v (.c (.ptr (.im 3) 0))] [boxO 1,rO L s,intO d,.cells [.sref (.im 4) 0 n none 5] 0,.cells (pcells xs) 0] =
   some (.tup [],[boxO 1,rO L s',intO d,.cells [.sref (.im 5) 0 (n+1) none 5] 0,.dead,.cells (pcells (xs++eRow (peekM L s).text v)) 0]):=by
 obtain⟨e1,hd,hp⟩:=E;refine(qAB rfl).trans ?_;show lim tab.get S 86 5 0 [P0,.v (.c (.ptr (.im 2) 0)),.v (.c (.ptr (.im 3) 0))] (H5 L s d (.cells [.sref (.im 4) 0 n none 5] 0) (.cells (pcells xs) 0))=_;have c65:∀ {β:Type}{k:TVal→Heap→Option β}{h:Heap}{e:Nat},h.get (.im 1)=some (rO L s)→vcall Om (.v (.c (.func 65 []))) [.v (.c (.ptr (.im 1) 0))] h e k=k (kS (peekM L s).text) (h.put (.im 1) (rO L (nmS1 L s))):=fun{β k h e} hg =>
  qAv 65 (.im 1) 0 [] [] _ _ _ rfl rfl hg (qAG L s) (qAG L _) rfl (qMz L s (by omega))
 have hp1:(nmS1 L s).p≤1000000:=by rw[qCH]; omega
 have c41:∀ {β:Type}{h:Heap}{e:Nat}{kt:TVal→Heap→AI.Touch→Option β},h.get (.im 1)=some (rO L (nmS1 L s))→vtouch Om (.call (.k (.v (.c (.func 41 [])))) [.k (.v (.c (.ptr (.im 1) 0))),.k (kS [58])]) h e kt=kt (kB (isM 4 L (nmS1 L s) [58])) (h.put (.im 1) (rO L (takeM 4 L (nmS1 L s) [58]))) ⟨[(Ref.im 1).site,(Ref.im 1).site],[(Ref.im 1).site],false⟩:=fun{β h e kt} hg =>
  qCV 41 (.im 1) (kS [58]) _ _ _ rfl rfl hg (qAG L _) (qAG L _) (qFX L _ hp1 [58])
 have c39:∀ {β:Type}{h:Heap}{e:Nat}{kt:TVal→Heap→AI.Touch→Option β},h.get (.im 1)=some (rO L (takeM 4 L (nmS1 L s) [58]))→vtouch Om (.call (.k (.v (.c (.func 39 [])))) [.k (.v (.c (.ptr (.im 1) 0))),.k (kB (isM 4 L (nmS1 L s) [58]))]) h e kt=kt (.tup []) (h.put (.im 1) (rO L (colM L s))) ⟨[(Ref.im 1).site,(Ref.im 1).site],[(Ref.im 1).site],false⟩:=fun{β h e kt} hg =>
  qCV 39 (.im 1) (kB (isM 4 L (nmS1 L s) [58])) _ _ _ rfl rfl hg (qAG L _) (qAG L _) (qFP L _ _)
 have c34:∀ {β:Type}{k:TVal→Heap→Option β}{h:Heap}{e:Nat},h.get (.im 1)=some (rO L (colM L s))→vcall Om (.v (.c (.func 34 []))) [.v (.c (.ptr (.im 1) 0)),kI (d+1)] h e k=k (kA v.row) (h.put (.im 1) (rO L s')):=fun{β k h e} hg =>
  qAv 34 (.im 1) 0 [] [kI (d+1)] _ _ _ rfl rfl hg (qAG L _) (qAG L _) (by simp only[exP]) e1
 have ed:IntKind.i64.wrap (d+1)=d+1:=qAM _ (by omega) (by omega);obtain⟨a1,a2,a3,a4,hrow⟩:∃ a1 a2 a3 a4,v.row=[a1,a2,a3,a4]:=by cases v; exact⟨_,_,_,_,rfl⟩
 unfold eRow;rw[hrow] at c34 ⊢;have pr:pcells [a1,a2,a3,a4]=[.p a1,.p a2,.p a3,.p a4]:=rfl;generalize isM 4 L (nmS1 L s) [58]=bc at *;generalize hs2:takeM 4 L (nmS1 L s) [58]=s2 at *;generalize hs3:colM L s=s3 at *;generalize nmS1 L s=s1 at *;generalize (peekM L s).text=key at *;have ap:=fun{β:Type} {k:TVal→Heap→Option β} {h:Heap} {e:Nat} (ga:h.get (.im 4)=some (.cells (pcells xs) 0)) (gb:h.get (.im 6)=some (.cells [.p (.str key),.p a1,.p a2,.p a3,.p a4] 0))=>qLE (O:=Om) (k:=k) (d:=e) (sz:=5) (by':=88) (la:=n) (lb:=1) (capb:=some 1) (by omega) (by omega) ga gb (by rw[qAS,hx]) rfl
 have P5:∀ a b c d e:Cell,put1 z5 0 [a,b,c,d,e]=[a,b,c,d,e]:=fun _ _ _ _ _=>rfl
 have P4:∀ a b c d e x y z w:Cell,put1 [a,b,c,d,e] 1 [x,y,z,w]=[a,x,y,z,w]:=fun _ _ _ _ _ _ _ _ _=>rfl
 rw[w86_0,b86_0];simp (maxSteps:=9999999) +contextual only[exa,ne_eq,not_false_eq_true,reduceAdd,reduceMul,reduceLT,reduceLeDiff,reduceEqDiff,Int.reduceLT,Int.reduceLE,Int.reduceEq,Int.reduceToNat,exW,exY,H5_0,H5_1,H5_2,H5_3,H5_4,qR5,qR3,qRz,H5_l,qJw,c65,c41,c39,c34,ed,if_false,pr,qPA,qHy,qRK,qJW,push_len,qID,qHn,qGS,qER,ap,oneOf,P5,P4];have T:AI.Touch.apart ⟨[(Ref.im 0).site],[],false⟩ ⟨[(Ref.im 1).site,(Ref.im 1).site],[(Ref.im 1).site],false⟩=true:=rfl;rw[T,cond_true];have pa:pcells xs++[.p (.str key),.p a1,.p a2,.p a3,.p a4]=pcells (xs++[.str key,a1,a2,a3,a4]):=by unfold pcells; simp
 rw[pa];have pl:=qAN (xs++[.str key,a1,a2,a3,a4]) 0;generalize pcells (xs++[.str key,a1,a2,a3,a4])=Y at pl;refine(qFz 4 _ [.im 0,.im 1,.im 2,.im 3,.im 4,.im 7] ?_).trans ?_
 ·show reach _ (397+1+1+1) [.im 1,.im 7] (ims 5)=_;rw[qBu _ _ _ _ (by decide),qAP _ (.im 7) [] (ims 5) (.cells Y 0) (by decide) rfl,pl.1];rfl
 ·show some (TVal.tup [],[boxO 1,rO L s',intO d,AObj.cells [Cell.sref (Ref.im 5) 0 (n+1) none 5] 0,AObj.dead,(AObj.cells Y 0).ren (inn [.im 0,.im 1,.im 2,.im 3,.im 4,.im 7])])=_;rw[pl.2]
end Go.Proofs.YtnlmlcfipbnpgaaDoor.Ab
set_option maxHeartbeats 4000000
namespace Go.Proofs.YtnlmlcfipbnpgaaDoor.Ab
open Go Go.AI
theorem qMa{β:Type}{O:Oracle}{k:TVal→Heap→Option β}{h:Heap}{d:Nat}(g:FuncId)(a b c:Ref):vcall O (.v (.c (.func g [a,b,c]))) [] h d k=vcall O (.v (.c (.func g []))) [.v (.c (.ptr a 0)),.v (.c (.ptr b 0)),.v (.c (.ptr c 0))] h d k:=rfl
structure St0 (h:Heap) (L:List Tok) (s:RS) (d:Int):Prop where
 g0:h.get (.im 0)=some (rO L s)
 g1:h.get (.im 1)=some (boxO 0)
 g2:h.get (.im 2)=some (intO d)
 g3:h.get (.im 3)=some (.cells [.p .nilslice] 0)
structure St1 (h:Heap) (L:List Tok) (s:RS) (d:Int) (n:Nat) (xs:List PVal) (j:Nat):Prop where
 g0:h.get (.im 0)=some (rO L s)
 g1:h.get (.im 1)=some (boxO 0)
 g2:h.get (.im 2)=some (intO d)
 hj:4≤j
 g3:h.get (.im 3)=some (.cells [.sref (.im j) 0 n none 5] 0)
 gj:h.get (.im j)=some (.cells (pcells xs) 0)
 hx:xs.length=n*5
 hn:n≤90000
theorem St0.put{h:Heap}{L:List Tok}{s t:RS}{d:Int}(A:St0 h L s d):St0 (h.put (.im 0) (rO L t)) L t d :=
 ⟨Heap.zput_self A.g0 (fun e=>by cases e),(Heap.zput_ne A.g0 (by decide)).trans A.g1,(Heap.zput_ne A.g0 (by decide)).trans A.g2,(Heap.zput_ne A.g0 (by decide)).trans A.g3⟩
theorem St1.put{h:Heap}{L:List Tok}{s t:RS}{d:Int}{n:Nat}{xs:List PVal}{j:Nat}(A:St1 h L s d n xs j):St1 (h.put (.im 0) (rO L t)) L t d n xs j :=
 ⟨Heap.zput_self A.g0 (fun e=>by cases e),(Heap.zput_ne A.g0 (by decide)).trans A.g1,(Heap.zput_ne A.g0 (by decide)).trans A.g2,A.hj,(Heap.zput_ne A.g0 (by decide)).trans A.g3,(Heap.zput_ne A.g0 (fun e=>by cases e; have:=A.hj; omega)).trans A.gj,A.hx,A.hn⟩
theorem qPN{h:Heap}{L:List Tok}{s t:RS}{v:TT}{d:Int}(A:St0 h L s d)(E:Ent d L s v t) :
  ∃ h' j,(∀ {β:Type}(e:Nat)(k:TVal→Heap→Option β),vcall Om (.v (.c (.func 86 [.im 1,.im 2,.im 3]))) [] h e k=k (.tup []) h')∧St1 h' L t d 1 (eRow (peekM L s).text v) j:=by
 have n0:(Ref.im 0)∉([.im 1]:List Ref):=by decide
 have hr:reach h fuelReach ([.v (.c (.ptr (.im 1) 0)),.v (.c (.ptr (.im 2) 0)),.v (.c (.ptr (.im 3) 0))].flatMap TVal.refs) []=[.im 1,.im 0,.im 2,.im 3]:=by
  show reach h (395+1+1+1+1+1) [.im 1,.im 2,.im 3] []=_;rw[qAP _ (.im 1) _ _ _ (by decide) A.g1];show reach h (395+1+1+1+1) [.im 0,.im 2,.im 3] [.im 1]=_;rw[qAP _ (.im 0) _ _ _ (by decide) A.g0];show reach h (395+1+1+1) [.im 2,.im 3] [.im 1,.im 0]=_;rw[qAP _ (.im 2) _ _ _ (by decide) A.g2];show reach h (395+1+1) [.im 3] [.im 1,.im 0,.im 2]=_;rw[qAP _ (.im 3) _ _ _ (by decide) A.g3];exact qA8 _ _
 have hm:([.im 1,.im 0,.im 2,.im 3]:List Ref).mapM h.get=some [boxO 0,rO L s,intO d,.cells [.p .nilslice] 0]:=by
  simp only[List.mapM_cons,List.mapM_nil,A.g0,A.g1,A.g2,A.g3,Option.pure_def,Option.bind_eq_bind,Option.bind_some]
 have pl:=qAN (eRow (peekM L s).text v) 0;obtain⟨h',hc,B⟩:=qC6 (O:=Om) (h:=h) 86 [.v (.c (.ptr (.im 1) 0)),.v (.c (.ptr (.im 2) 0)),.v (.c (.ptr (.im 3) 0))] _ [P0,.v (.c (.ptr (.im 2) 0)),.v (.c (.ptr (.im 3) 0))] _ _ _ _ _ (.tup []) rfl hr hm rfl rfl (qQG d L s v t E) (show(4:Nat)≤5 by decide) (by decide) rfl;refine⟨h',h.ims.length+0,fun e k=>(qMa 86 _ _ _).trans (hc e k),?_⟩;have hl:4≤h.ims.length:=by
  have:=(Heap.get_im_some A.g3).1;have:=(List.getElem?_eq_some_iff.1 this).1;omega
 exact⟨B.own 1 (.im 0) _ rfl rfl (fun e=>by cases e),B.own 0 (.im 1) _ rfl rfl (fun e=>by cases e),B.own 2 (.im 2) _ rfl rfl (fun e=>by cases e),by omega,B.own 3 (.im 3) _ rfl rfl (fun e=>by cases e),
  B.new 0 (.cells (pcells (eRow (peekM L s).text v)) 0) (congrArg some (pl.2 _)) (fun e=>by cases e),by unfold eRow; simp[TT.row_len],by omega⟩
theorem qRj{j:Nat}(hj:4≤j):inn [.im 1,.im 0,.im 2,.im 3,.im j] (.im j)=some (.im 4):=by
 have ne:∀ i:Nat,i<4→decide (Ref.im j=Ref.im i)=false:=fun i hi=>decide_eq_false (fun e=>by cases e; omega)
 unfold inn;simp only[idx,ne 1 (by decide),ne 0 (by decide),ne 2 (by decide),ne 3 (by decide),cond_false,decide_true,cond_true];rfl
theorem qNt{h:Heap}{L:List Tok}{s t:RS}{v:TT}{d:Int}{n j:Nat}{xs:List PVal}(A:St1 h L s d n xs j)(hn:n≤80000)(E:Ent d L s v t) :
  ∃ h' j,(∀ {β:Type}(e:Nat)(k:TVal→Heap→Option β),vcall Om (.v (.c (.func 86 [.im 1,.im 2,.im 3]))) [] h e k=k (.tup []) h')∧St1 h' L t d (n+1) (xs++eRow (peekM L s).text v) j:=by
 have hj:=A.hj;have nj:∀ i:Nat,i<4→Ref.im j≠Ref.im i:=fun i hi e=>by cases e; omega
 have nm:Ref.im j∉([.im 1,.im 0,.im 2,.im 3]:List Ref):=by
  simp only[List.mem_cons,List.not_mem_nil,or_false,not_or];exact⟨nj 1 (by decide),nj 0 (by decide),nj 2 (by decide),nj 3 (by decide)⟩
 have pl:=qAN (xs++eRow (peekM L s).text v) 0;have px:=qAN xs 0;have hr:reach h fuelReach ([.v (.c (.ptr (.im 1) 0)),.v (.c (.ptr (.im 2) 0)),.v (.c (.ptr (.im 3) 0))].flatMap TVal.refs) []=[.im 1,.im 0,.im 2,.im 3,.im j]:=by
  show reach h (394+1+1+1+1+1+1) [.im 1,.im 2,.im 3] []=_;rw[qAP _ (.im 1) _ _ _ (by decide) A.g1];show reach h (394+1+1+1+1+1) [.im 0,.im 2,.im 3] [.im 1]=_;rw[qAP _ (.im 0) _ _ _ (by decide) A.g0];show reach h (394+1+1+1+1) [.im 2,.im 3] [.im 1,.im 0]=_;rw[qAP _ (.im 2) _ _ _ (by decide) A.g2];show reach h (394+1+1+1) [.im 3] [.im 1,.im 0,.im 2]=_;rw[qAP _ (.im 3) _ _ _ (by decide) A.g3];show reach h (394+1+1) [.im j] [.im 1,.im 0,.im 2,.im 3]=_;rw[qAP _ (.im j) _ _ _ nm A.gj,px.1];exact qA8 _ _
 have hm:([.im 1,.im 0,.im 2,.im 3,.im j]:List Ref).mapM h.get=some [boxO 0,rO L s,intO d,.cells [.sref (.im j) 0 n none 5] 0,.cells (pcells xs) 0]:=by
  simp only[List.mapM_cons,List.mapM_nil,A.g0,A.g1,A.g2,A.g3,A.gj,Option.pure_def,Option.bind_eq_bind,Option.bind_some]
 have e5:([boxO 0,rO L s,intO d,.cells [.sref (.im j) 0 n none 5] 0,.cells (pcells xs) 0]:List AObj).map (AObj.ren (inn [.im 1,.im 0,.im 2,.im 3,.im j]))=[boxO 1,rO L s,intO d,.cells [.sref (.im 4) 0 n none 5] 0,.cells (pcells xs) 0]:=by
  show [boxO 1,rO L s,intO d,AObj.cells [match inn [.im 1,.im 0,.im 2,.im 3,.im j] (.im j) with|some s => .sref s 0 n none 5|none => .junk] 0,(AObj.cells (pcells xs) 0).ren _]=_;rw[qRj hj,px.2]
 have hnd:([.im 1,.im 0,.im 2,.im 3,.im j]:List Ref).Nodup:=by
  have:([.im 1,.im 0,.im 2,.im 3]:List Ref).Nodup:=by decide
  rw[show([.im 1,.im 0,.im 2,.im 3,.im j]:List Ref)=[.im 1,.im 0,.im 2,.im 3]++[.im j] from rfl,List.nodup_append];refine⟨this,by simp,?_⟩;intro a ha b hb e;rw[List.mem_singleton.1 hb] at e;exact nm (e▸ha)
 obtain⟨h',hc,B⟩:=qC6 (O:=Om) (h:=h) 86 [.v (.c (.ptr (.im 1) 0)),.v (.c (.ptr (.im 2) 0)),.v (.c (.ptr (.im 3) 0))] _ [P0,.v (.c (.ptr (.im 2) 0)),.v (.c (.ptr (.im 3) 0))] _ _ _ _ _ (.tup []) rfl hr hm rfl e5 (qN2 n xs A.hx (by have:=A.hn; omega) d L s v t E) (show(5:Nat)≤6 by decide) hnd rfl;refine⟨h',h.ims.length+0,fun e k=>(qMa 86 _ _ _).trans (hc e k),?_⟩;have hl:4≤h.ims.length:=by
  have:=(Heap.get_im_some A.g3).1;have:=(List.getElem?_eq_some_iff.1 this).1;omega
 exact⟨B.own 1 (.im 0) _ rfl rfl (fun e=>by cases e),B.own 0 (.im 1) _ rfl rfl (fun e=>by cases e),B.own 2 (.im 2) _ rfl rfl (fun e=>by cases e),by omega,B.own 3 (.im 3) _ rfl rfl (fun e=>by cases e),
  B.new 0 (.cells (pcells (xs++eRow (peekM L s).text v)) 0) (congrArg some (pl.2 _)) (fun e=>by cases e),by have:=A.hx; unfold eRow; simp[TT.row_len]; omega,by omega⟩
abbrev Es:=List (List UInt8×TT)
def eRows(es:Es):List PVal:=es.flatMap fun p=>eRow p.1 p.2
abbrev F86:TVal := .v (.c (.func 86 [.im 1,.im 2,.im 3]))
def fieldM(sub:RS→TT×RS)(L:List Tok)(s:RS):(List UInt8×TT)×RS:=(((peekM L s).text,(sub (colM L s)).1),(sub (colM L s)).2)
def loopM(sub:RS→TT×RS)(L:List Tok)(x:List UInt8):Nat→RS→Es→Es×RS
 |0,s,acc=>(acc,s)
 |f+1,s,acc=>if isM 4 L s [44]=true then loopM sub L x f (fieldM sub L (nextM s)).2 (acc++[(fieldM sub L (nextM s)).1]) else (acc,mustM (takeM 4 L s x) (isM 4 L s x))
def rowM(sub:RS→TT×RS)(L:List Tok)(x:List UInt8)(s:RS):Es×RS:=if isM 4 L s x=true then ([],nextM s) else loopM sub L x (L.length+2) (fieldM sub L s).2 [(fieldM sub L s).1]
def I1(L:List Tok)(s:RS):Prop:=(s.e=0→s.p≤L.length)∧s.p≤L.length+1
structure SubOK (d:Int) (L:List Tok) (sub:RS→TT×RS) (ok:RS→Prop):Prop where
 one:∀ s,I1 L s→ok s→Om 34 [P0,kI (d+1)] [rO L s]=some (kA (sub s).1.row,[rO L (sub s).2])
 inv:∀ s,I1 L s→I1 L (sub s).2∧s.p≤(sub s).2.p
def loopOK(sub:RS→TT×RS)(ok:RS→Prop)(L:List Tok):Nat→RS→Prop
 |0,_=>True
 |f+1,s=>isM 4 L s [44]=true→ok (colM L (nextM s))∧loopOK sub ok L f (fieldM sub L (nextM s)).2
def rowOK(sub:RS→TT×RS)(ok:RS→Prop)(L:List Tok)(x:List UInt8)(s:RS):Prop:=isM 4 L s x=false→ok (colM L s)∧loopOK sub ok L (L.length+2) (fieldM sub L s).2
theorem qBj{k:Int}{L:List Tok}{s:RS}{x:List UInt8}(hk:k≠0)(h:isM k L s x=true):s.e=0∧s.p<L.length:=by
 unfold isM peekM at h;rw[Bool.and_eq_true,decide_eq_true_eq] at h;by_cases he:s.e=0
 ·rw[if_pos he] at h;refine⟨he,?_⟩
  rcases Nat.lt_or_ge s.p L.length with h1|h1
  ·exact h1
  ·rw[List.getElem?_eq_none h1] at h;exact absurd h.1 (fun e=>hk e.symm)
 ·rw[if_neg he] at h;exact absurd h.1 (fun e=>hk e.symm)
theorem qBr{L:List Tok}{s:RS}(h:(peekM L s).kind≠0):s.e=0∧s.p<L.length:=by
 unfold peekM at h;by_cases he:s.e=0
 ·rw[if_pos he] at h;refine⟨he,?_⟩
  rcases Nat.lt_or_ge s.p L.length with h1|h1
  ·exact h1
  ·rw[List.getElem?_eq_none h1] at h;exact absurd rfl h
 ·rw[if_neg he] at h;exact absurd rfl h
theorem qFs(s:RS)(e:Int)(he:e≠0):(failM s e).e≠0:=by
 unfold failM;split
 ·exact he
 ·assumption
theorem qH9{L:List Tok}{s:RS}(b:Bool)(h:I1 L s):I1 L (mustM s b):=by
 refine⟨fun e => ?_,by rw[qBQ]; exact h.2⟩;rw[qBQ];unfold mustM at e;split at e
 ·exact h.1 e
 ·exact absurd e (qFs _ _ (by decide))
theorem qHX{k:Int}{L:List Tok}{s:RS}{x:List UInt8}(hk:k≠0)(h:I1 L s):I1 L (takeM k L s x)∧s.p≤(takeM k L s x).p:=by
 unfold takeM;split
 ·rename_i hi;obtain⟨h1,h2⟩:=qBj hk hi;refine⟨⟨fun _ => ?_,?_⟩,?_⟩
  ·show s.p+1≤_; omega
  ·show s.p+1≤_; omega
  ·show s.p≤s.p+1; omega
 ·exact⟨h,Nat.le_refl _⟩
theorem nm_I{L:List Tok}{s:RS}(h:s.p≤L.length):I1 L (nmS1 L s):=by
 refine⟨fun e => ?_,by rw[qCH]; omega⟩;rw[qCH];by_cases h1:(peekM L s).kind=1
 ·have:=(qBr (L:=L) (s:=s) (by rw[h1]; decide)).2;omega
 ·exfalso;have:(mustM s (decide ((peekM L s).kind=1))).e=0:=e;rw[decide_eq_false h1] at this;unfold mustM at this;rw[if_neg (by decide)] at this;exact qFs _ _ (by decide) this
theorem qFl{L:List Tok}{s:RS}(h:s.p≤L.length):I1 L (colM L s)∧s.p+1≤(colM L s).p:=by
 have h1:=nm_I h;obtain⟨h2,h3⟩:=qHX (k:=4) (x:=[58]) (by decide) h1;refine⟨qH9 _ h2,?_⟩;unfold colM;rw[qBQ];rw[qCH] at h3;omega
theorem qM8{d:Int}{L:List Tok}{sub:RS→TT×RS}{okP:RS→Prop}(ok:SubOK d L sub okP)(hd:0≤d∧d≤100)(hL:L.length≤1000){s:RS}(h:s.p≤L.length)(hc:okP (colM L s)):Ent d L s (fieldM sub L s).1.2 (fieldM sub L s).2∧I1 L (fieldM sub L s).2∧s.p+1≤(fieldM sub L s).2.p:=by
 obtain⟨h1,h2⟩:=qFl h;obtain⟨h4,h5⟩:=ok.inv _ h1;exact⟨⟨ok.one _ h1 hc,hd,by omega⟩,h4,by show s.p+1≤(sub (colM L s)).2.p; omega⟩
theorem qQP{h:Heap}{L:List Tok}{s:RS}{d:Int}{n j:Nat}{xs:List PVal}(hp:s.p≤1000000)(x:List UInt8)(A:St1 h L s d n xs j) :
  lim tab.get S 66 4 2 [P0,kS x] h=some (.tup [],[rO L (mustM (takeM 4 L s x) (isM 4 L s x)),boxO 0,intO d,.cells [.sref (.im 4) 0 n none 5] 0,.cells (pcells xs) 0]):=by
 have hj:=A.hj;have A1:=A.put (t:=takeM 4 L s x);rw[w66_2,b66_2,u41 hp x A.g0,u39 _ A1.g0];have B:=A1.put (t:=mustM (takeM 4 L s x) (isM 4 L s x));generalize mustM (takeM 4 L s x) (isM 4 L s x)=t at B ⊢;have px:=qAN xs 0;have nm:Ref.im j∉(ims 4:List Ref):=by
  show Ref.im j∉[.im 0,.im 1,.im 2,.im 3];simp only[List.mem_cons,List.not_mem_nil,or_false,not_or,Ref.im.injEq];omega
 generalize (h.put (.im 0) (rO L (takeM 4 L s x))).put (.im 0) (rO L t)=h at B;have e:(ims (3+1)).flatMap (fun r=>match h.get r with|some o=>o.refs|none=>[])=[.im 0,.im j]:=by
  show([.im 0,.im 1,.im 2,.im 3]:List Ref).flatMap _=_;simp only[List.flatMap_cons,List.flatMap_nil,B.g0,B.g1,B.g2,B.g3];rw[(qAG L t).1];rfl
 refine(qFz 3 h [.im 0,.im 1,.im 2,.im 3,.im j] ?_).trans ?_
 ·refine(congrArg (fun l=>reach h fuelReach l (ims 4)) e).trans ?_;show reach h (397+1+1+1) [.im 0,.im j] (ims 4)=_;rw[qBu _ _ _ _ (by decide),qAP _ (.im j) [] (ims 4) _ nm B.gj,px.1];exact qA8 _ _
 ·have ij:inn [.im 0,.im 1,.im 2,.im 3,.im j] (.im j)=some (.im 4):=by
   have ne:∀ i:Nat,i<4→decide (Ref.im j=Ref.im i)=false:=fun i hi=>decide_eq_false (fun e=>by cases e; omega)
   unfold inn;simp only[idx,ne 1 (by decide),ne 0 (by decide),ne 2 (by decide),ne 3 (by decide),cond_false,decide_true,cond_true];rfl
  simp only[List.map_cons,List.map_nil,B.g0,B.g1,B.g2,B.g3,B.gj,px.2,(qAG L t).2];show some (TVal.tup [],[rO L t,boxO 0,intO d,AObj.cells [match inn [.im 0,.im 1,.im 2,.im 3,.im j] (.im j) with|some s => .sref s 0 n none 5|none => .junk] 0,AObj.cells (pcells xs) 0])=_;rw[ij]
theorem qKW(l:Es)(p:List UInt8×TT):eRows (l++[p])=eRows l++eRow p.1 p.2:=by unfold eRows; simp
theorem qIY{d:Int}{L:List Tok}{sub:RS→TT×RS}{okP:RS→Prop}(ok:SubOK d L sub okP)(hd:0≤d∧d≤100)(hL:L.length≤1000)(x:List UInt8):∀ (f:Nat) (s:RS) (acc:Es) (h:Heap) (j:Nat),I1 L s→loopOK sub okP L f s→L.length - s.p<f→acc.length+(L.length - s.p)≤L.length+2→St1 h L s d acc.length (eRows acc) j →
  lim tab.get S 66 4 1 [P0,kS x,F86] h=some (.tup [],[rO L (loopM sub L x f s acc).2,boxO 0,intO d,.cells [.sref (.im 4) 0 (loopM sub L x f s acc).1.length none 5] 0,.cells (pcells (eRows (loopM sub L x f s acc).1)) 0])
 |0,s,acc,h,j,I,lo,hf,ha,A=>by omega
 |f+1,s,acc,h,j,I,lo,hf,ha,A=>by
  have hp:s.p≤1000000:=by have:=I.2; omega
  unfold loopM;rw[w66_1,b66_1,u41 hp [44] A.g0];cases hi:isM 4 L s [44] with
  |false =>
   have ht:takeM 4 L s [44]=s:=by unfold takeM; rw[hi]; rfl
   rw[qCN,if_neg (by decide),ht];exact qQP hp x (A.put (t:=s))
  |true =>
   obtain⟨h1,h2⟩:=qBj (by decide) hi;have ht:takeM 4 L s [44]=nextM s:=by unfold takeM; rw[hi]; rfl
   rw[qFH,if_pos rfl,ht];have hn:(nextM s).p≤L.length:=by show s.p+1≤_; omega
   obtain⟨lo1,lo2⟩:=lo hi;obtain⟨E,I',q⟩:=qM8 ok hd hL hn lo1;obtain⟨h1',j1,hc,B⟩:=qNt (A.put (t:=nextM s)) (by omega) E;show vcall Om F86 [] (h.put (.im 0) (rO L (nextM s))) 14 _=_;rw[hc];have q':s.p+2≤(fieldM sub L (nextM s)).2.p:=q;refine qIY ok hd hL x f _ (acc++[(fieldM sub L (nextM s)).1]) h1' j1 I' lo2 (by omega) (by rw[List.length_append]; show acc.length+1+_≤_; omega) ?_;rw[List.length_append,qKW];exact B
theorem qOe{d:Int}{L:List Tok}{sub:RS→TT×RS}{okP:RS→Prop}(ok:SubOK d L sub okP)(hd:0≤d∧d≤100)(hL:L.length≤1000)(x:List UInt8)(s:RS)(h:s.p≤L.length)(ro:rowOK sub okP L x s)(hx:isM 4 L s x=false) :
  Om 66 [P0,kS x,F86] [rO L s,boxO 0,intO d,.cells [.p .nilslice] 0]=some (.tup [],[rO L (rowM sub L x s).2,boxO 0,intO d,.cells [.sref (.im 4) 0 (rowM sub L x s).1.length none 5] 0,.cells (pcells (eRows (rowM sub L x s).1)) 0]):=by
 refine(qAB rfl).trans ?_;show lim tab.get S 66 4 0 [P0,kS x,F86] (Heap.mk [rO L s,boxO 0,intO d,.cells [.p .nilslice] 0] .nil)=_;have A:St0 (Heap.mk [rO L s,boxO 0,intO d,.cells [.p .nilslice] 0] .nil) L s d:=⟨rfl,rfl,rfl,rfl⟩;generalize Heap.mk [rO L s,boxO 0,intO d,.cells [.p .nilslice] 0] .nil=H at A;have ht:takeM 4 L s x=s:=by unfold takeM; rw[hx]; rfl
 obtain⟨ro1,ro2⟩:=ro hx;obtain⟨E,I',q⟩:=qM8 ok hd hL h ro1;rw[w66_0,b66_0,u41 (by omega) x A.g0,hx,qCN,ht];obtain⟨h1,j1,hc,B⟩:=qPN (A.put (t:=s)) E;show vcall Om F86 [] (H.put (.im 0) (rO L s)) 10 _=_;rw[hc];unfold rowM;rw[if_neg (by rw[hx]; decide)];refine qIY ok hd hL x (L.length+2) _ [(fieldM sub L s).1] h1 j1 I' ro2 (by omega) (by show 1+_≤_; omega) ?_;show St1 h1 L _ d 1 (eRow (fieldM sub L s).1.1 (fieldM sub L s).1.2++[]) j1;rw[List.append_nil];exact B
theorem qNr{d:Int}{L:List Tok}{sub:RS→TT×RS}(hL:L.length≤1000)(x:List UInt8)(s:RS)(h:s.p≤L.length)(hx:isM 4 L s x=true) :
  Om 66 [P0,kS x,F86] [rO L s,boxO 0,intO d,.cells [.p .nilslice] 0]=some (.tup [],[rO L (rowM sub L x s).2,boxO 0,intO d,.cells [.p .nilslice] 0]):=by
 refine(qAB rfl).trans ?_;show lim tab.get S 66 4 0 [P0,kS x,F86] (Heap.mk [rO L s,boxO 0,intO d,.cells [.p .nilslice] 0] .nil)=_;have A:St0 (Heap.mk [rO L s,boxO 0,intO d,.cells [.p .nilslice] 0] .nil) L s d:=⟨rfl,rfl,rfl,rfl⟩;generalize Heap.mk [rO L s,boxO 0,intO d,.cells [.p .nilslice] 0] .nil=H at A;have ht:takeM 4 L s x=nextM s:=by unfold takeM; rw[hx]; rfl
 rw[w66_0,b66_0,u41 (by omega) x A.g0,hx,qFH,ht];unfold rowM;rw[if_pos hx];have A2:=A.put (t:=nextM s);generalize H.put (.im 0) (rO L (nextM s))=h at A2;generalize nextM s=t at *;have e:(ims (3+1)).flatMap (fun r=>match h.get r with|some o=>o.refs|none=>[])=[.im 0]:=by
  show([.im 0,.im 1,.im 2,.im 3]:List Ref).flatMap _=_;simp only[List.flatMap_cons,List.flatMap_nil,A2.g0,A2.g1,A2.g2,A2.g3];rw[(qAG L t).1];rfl
 refine(qFz 3 h [.im 0,.im 1,.im 2,.im 3] ?_).trans ?_
 ·refine(congrArg (fun l=>reach h fuelReach l (ims 4)) e).trans ?_;show reach h (398+1+1) [.im 0] (ims 4)=_;rw[qBu _ _ _ _ (by decide)];exact qA8 _ _
 ·simp only[List.map_cons,List.map_nil,A2.g0,A2.g1,A2.g2,A2.g3,(qAG L t).2];rfl
end Go.Proofs.YtnlmlcfipbnpgaaDoor.Ab
set_option maxHeartbeats 4000000
namespace Go.Proofs.YtnlmlcfipbnpgaaDoor.Ab
open Go Go.AI
def cmpM(x y:List UInt8):Int:=if bless x y=true then -1 else if (!(bless x y||x==y))=true then 1 else 0
theorem qIF(x y:List UInt8):decide (cmpM x y<0)=bless x y:=by
 unfold cmpM;cases bless x y
 ·rw[if_neg (by decide)];split <;> rfl
 ·rfl
theorem qRm(x:List UInt8):Om 69 [kS x] []=some (kB false,[]):=by
 refine(qAB rfl).trans ?_;show lim tab.get S 69 0 0 [kS x] h0=_;rw[w69_0,b69_0];simp (maxSteps:=9999999) +contextual only[exa,ne_eq,not_false_eq_true,reduceAdd,reduceMul,reduceLT,reduceLeDiff,reduceEqDiff,Int.reduceLT,Int.reduceLE,Int.reduceEq,Int.reduceToNat,oneOf]
theorem qQi(x y:List UInt8):Om 46 [kS x,kS y] []=some (kI (cmpM x y),[]):=by
 refine(qAB rfl).trans ?_;show lim tab.get S 46 0 0 [kS x,kS y] h0=_;have c:=fun{β:Type} {k:TVal→Heap→Option β} {h:Heap} {d:Nat} (x:List UInt8)=>qAE (O:=Om) (k:=k) (h:=h) (d:=d) 69 [kS x] _ rfl (qRm x) rfl
 rw[w46_0,b46_0];unfold cmpM;cases h1:bless x y
 ·cases h2:(x==y)
  ·simp (maxSteps:=9999999) +contextual only[exa,ne_eq,not_false_eq_true,reduceAdd,reduceMul,reduceLT,reduceLeDiff,reduceEqDiff,Int.reduceLT,Int.reduceLE,Int.reduceEq,Int.reduceToNat,c,h1,h2,oneOf,if_true,if_false,Bool.false_eq_true]
  ·simp (maxSteps:=9999999) +contextual only[exa,ne_eq,not_false_eq_true,reduceAdd,reduceMul,reduceLT,reduceLeDiff,reduceEqDiff,Int.reduceLT,Int.reduceLE,Int.reduceEq,Int.reduceToNat,c,h1,h2,oneOf,if_true,if_false,Bool.false_eq_true]
 ·simp (maxSteps:=9999999) +contextual only[exa,ne_eq,not_false_eq_true,reduceAdd,reduceMul,reduceLT,reduceLeDiff,reduceEqDiff,Int.reduceLT,Int.reduceLE,Int.reduceEq,Int.reduceToNat,c,h1,oneOf,if_true]
theorem qJf(v:TT):∃ a1 a2 a3 a4,v.row=[a1,a2,a3,a4]:=by cases v; exact⟨_,_,_,_,rfl⟩
theorem qRa(p q:List UInt8×TT):Om 88 [kA (eRow p.1 p.2),kA (eRow q.1 q.2)] []=some (kI (cmpM p.1 q.1),[]):=by
 refine(qAB rfl).trans ?_;obtain⟨a1,a2,a3,a4,ha⟩:=qJf p.2;obtain⟨b1,b2,b3,b4,hb⟩:=qJf q.2;unfold eRow;rw[ha,hb];show lim tab.get S 88 0 0 [.v (.agg [.p (.str p.1),.p a1,.p a2,.p a3,.p a4]),.v (.agg [.p (.str q.1),.p b1,.p b2,.p b3,.p b4])] h0=_;have c:=fun{β:Type} {k:TVal→Heap→Option β} {h:Heap} {d:Nat}=>qAE (O:=Om) (k:=k) (h:=h) (d:=d) 46 [kS p.1,kS q.1] _ rfl (qQi p.1 q.1) rfl
 rw[w88_0,b88_0];simp (maxSteps:=9999999) +contextual only[exa,ne_eq,not_false_eq_true,reduceAdd,reduceMul,reduceLT,reduceLeDiff,reduceEqDiff,Int.reduceLT,Int.reduceLE,Int.reduceEq,Int.reduceToNat,c,oneOf]
theorem qAp(k:List UInt8)(v:TT):(eRow k v).length=5:=by unfold eRow; simp[TT.row_len]
theorem qCt:∀ l:Es,(eRows l).length=l.length*5
 |[]=>rfl
 |p::l=>by
  have:=qCt l;show(eRow p.1 p.2++eRows l).length=_;rw[List.length_append,qAp,this,List.length_cons]; omega
theorem qDR:∀ (l:Es) (i:Nat),(eRows l).drop (i*5)=eRows (l.drop i)
 |l,0=>by simp
 |[],i+1=>by simp[eRows]
 |p::l,i+1=>by
  show(eRow p.1 p.2++eRows l).drop ((i+1)*5)=_;rw[List.drop_append,List.drop_eq_nil_of_le (by rw[qAp]; omega),qAp,List.nil_append,show(i+1)*5 - 5=i*5 by omega,qDR l i];rfl
theorem qFU:∀ (l:Es) (i:Nat),(eRows l).take (i*5)=eRows (l.take i)
 |l,0=>by simp[eRows]
 |[],i+1=>by simp[eRows]
 |p::l,i+1=>by
  show(eRow p.1 p.2++eRows l).take ((i+1)*5)=_;rw[List.take_append,List.take_of_length_le (by rw[qAp]; omega),qAp,show(i+1)*5 - 5=i*5 by omega,qFU l i];rfl
theorem qCx(l:Es)(i:Nat)(p:List UInt8×TT)(h:l[i]?=some p):((pcells (eRows l)).drop (i*5)).take 5=pcells (eRow p.1 p.2):=by
 have hd:l.drop i=p::l.drop (i+1):=by
  obtain⟨h1,h2⟩:=List.getElem?_eq_some_iff.1 h;rw[List.drop_eq_getElem_cons h1,h2]
 unfold pcells;rw[← List.map_drop,← List.map_take,qDR,hd];show((eRow p.1 p.2++eRows (l.drop (i+1))).take 5).map _=_;rw[List.take_append,List.take_of_length_le (by rw[qAp]; omega),qAp,Nat.sub_self,List.take_zero,List.append_nil]
theorem qMq(a b:Es):eRows (a++b)=eRows a++eRows b:=by unfold eRows; rw[List.flatMap_append]
theorem qGr(l:Es)(i:Nat)(p:List UInt8×TT)(h:i<l.length):put1 (pcells (eRows l)) (i*5) (pcells (eRow p.1 p.2))=pcells (eRows (l.set i p)):=by
 unfold put1 splice pcells;have ll:(List.map Cell.p (eRow p.1 p.2)).length=5:=by rw[List.length_map,qAp]
 rw[ll,← List.map_take,← List.map_drop,qFU,show i*5+5=(i+1)*5 by omega,qDR,← List.map_append,← List.map_append]
 congr 1
 have hs:l.set i p=l.take i++p::l.drop (i+1):=by
  rw[List.set_eq_take_append_cons_drop,if_pos h]
 rw[hs,qMq];show _=eRows (l.take i)++(eRow p.1 p.2++eRows (l.drop (i+1)));rw[List.append_assoc]
def down:Nat→Es→Es
 |0,l=>l
 |i+1,l=>match l[i+1]?,l[i]? with
  |some p,some q=>if bless p.1 q.1=true then down i ((l.set (i+1) q).set i p) else l
  |_,_=>l
theorem qEk:∀ (i:Nat) (l:Es),(down i l).length=l.length
 |0,_=>rfl
 |i+1,l=>by
  unfold down;split
  ·split
   ·rw[qEk]; simp
   ·rfl
  ·rfl
def sortM:Nat→Nat→Es→Es
 |0,_,l=>l
 |m+1,i,l=>sortM m (i+1) (down i l)
abbrev sE0(n:Nat):TVal := .v (.c (.sref (.im 0) 0 n none 5))
abbrev F88:TVal := .v (.c (.func 88 []))
theorem v88{β:Type}{k:TVal→Heap→Option β}{h:Heap}{d:Nat}(p q:List UInt8×TT):vcall Om F88 [.v (.agg (pcells (eRow p.1 p.2))),.v (.agg (pcells (eRow q.1 q.2)))] h d k=k (kI (cmpM p.1 q.1)) h:=qAE 88 _ _ (by simp only[exP]) (qRa p q) rfl
theorem qG5(n:Nat)(i0:Nat):∀ (i:Nat) (l:Es) (h:Heap),l.length=n→n≤1000→i<n→h.get (.im 0)=some (.cells (pcells (eRows l)) 0) →
  ∃ h',h'.get (.im 0)=some (.cells (pcells (eRows (down i l))) 0)∧lim tab.get S 148 1 2 [sE0 n,kI 0,kI (n:Int),F88,kI (i0:Int),kI (i:Int)] h=lim tab.get S 148 1 3 [sE0 n,kI 0,kI (n:Int),F88,kI (i0:Int)] h'
 |0,l,h,hl,hn,hi,hg=>by
  refine⟨h,hg,?_⟩;have q:¬ (0:Int)<((0:Nat):Int):=by decide
  rw[w148_2,b148_2];simp (maxSteps:=9999999) +contextual only[exa,ne_eq,not_false_eq_true,reduceAdd,reduceMul,reduceLT,reduceLeDiff,reduceEqDiff,Int.reduceLT,Int.reduceLE,Int.reduceEq,Int.reduceToNat,q,if_false]
 |i+1,l,h,hl,hn,hi,hg=>by
  obtain⟨p,hp⟩:∃ p,l[i+1]?=some p:=⟨l[i+1]'(by omega),by simp⟩;obtain⟨q,hq⟩:∃ q,l[i]?=some q:=⟨l[i]'(by omega),by simp⟩;have t1:(0:Int)<((i+1:Nat):Int):=by omega
  have t2:(0:Int)≤((i+1:Nat):Int):=by omega
  have t3:(0:Int)≤((i:Nat):Int):=by omega
  have t4:i<n:=by omega
  have ew:IntKind.i64.wrap (((i+1:Nat):Int) - 1)=((i:Nat):Int):=by rw[qAM _ (by omega) (by omega)]; omega
  have gp:=qCx l (i+1) p hp;have gq:=qCx l i q hq;have pp:(pcells (eRow p.1 p.2)).length=5:=by rw[qAS,qAp]
  have pq:(pcells (eRow q.1 q.2)).length=5:=by rw[qAS,qAp]
  have le1:(i+1)*5+5≤(eRows l).length:=by rw[qCt]; omega
  have le2:i*5+5≤(eRows l).length:=by rw[qCt]; omega
  have s1:=qGr l (i+1) q (by omega);have s2:=qGr (l.set (i+1) q) i p (by simp; omega);have le3:i*5+5≤(eRows (l.set (i+1) q)).length:=by rw[qCt]; simp; omega
  have hgp:(h.put (.im 0) (.cells (pcells (eRows (l.set (i+1) q))) 0)).get (.im 0)=some (.cells (pcells (eRows (l.set (i+1) q))) 0):=Heap.zput_self hg (fun e=>by cases e);cases hb:bless p.1 q.1
  ·refine⟨h,?_,?_⟩
   ·rw[hg]; unfold down; simp[hp,hq,hb]
   ·rw[w148_2,b148_2];simp (maxSteps:=9999999) +contextual only[exa,ne_eq,not_false_eq_true,reduceAdd,reduceMul,reduceLT,reduceLeDiff,reduceEqDiff,Int.reduceLT,Int.reduceLE,Int.reduceEq,Int.reduceToNat,exW,exY,t1,t2,t3,t4,hi,ew,Int.toNat_natCast,hg,gp,gq,pp,pq,v88,qIF,hb,if_false]
  ·have hg2:((h.put (.im 0) (.cells (pcells (eRows (l.set (i+1) q))) 0)).put (.im 0) (.cells (pcells (eRows ((l.set (i+1) q).set i p))) 0)).get (.im 0)=some (.cells (pcells (eRows ((l.set (i+1) q).set i p))) 0):=Heap.zput_self hgp (fun e=>by cases e);obtain⟨h',a1,a2⟩:=qG5 n i0 i ((l.set (i+1) q).set i p) _ (by simp[hl]) hn (by omega) hg2;refine⟨h',?_,?_⟩
   ·rw[a1];have:down (i+1) l=down i ((l.set (i+1) q).set i p):=by rw[down]; simp[hp,hq,hb]
    rw[this]
   ·rw[← a2,w148_2,b148_2];simp (maxSteps:=9999999) +contextual only[exa,ne_eq,not_false_eq_true,reduceAdd,reduceMul,reduceLT,reduceLeDiff,reduceEqDiff,Int.reduceLT,Int.reduceLE,Int.reduceEq,Int.reduceToNat,exW,exY,t1,t2,t3,t4,hi,ew,Int.toNat_natCast,hg,gp,gq,pp,pq,v88,qIF,hb,le1,le2,le3,s1,s2,hgp,Nat.zero_le,if_false]
theorem qGa(n:Nat)(hn:n≤1000):∀ (m i:Nat) (l:Es) (h:Heap),i+m=n→l.length=n→h.get (.im 0)=some (.cells (pcells (eRows l)) 0) →
  lim tab.get S 148 1 1 [sE0 n,kI 0,kI (n:Int),F88,kI (i:Int)] h=some (.tup [],[.cells (pcells (eRows (sortM m i l))) 0])
 |0,i,l,h,hi,hl,hg=>by
  have t:¬ (i:Int)<(n:Int):=by omega
  have fin:=qBP true [] _ rfl hg (qAN (eRows l) 0);rw[w148_1,b148_1];simp (maxSteps:=9999999) +contextual only[exa,ne_eq,not_false_eq_true,reduceAdd,reduceMul,reduceLT,reduceLeDiff,reduceEqDiff,Int.reduceLT,Int.reduceLE,Int.reduceEq,Int.reduceToNat,t,fin,sortM,if_false,oneOf]
 |m+1,i,l,h,hi,hl,hg=>by
  have t:(i:Int)<(n:Int):=by omega
  have ew:IntKind.i64.wrap ((i:Int)+1)=((i+1:Nat):Int):=by rw[qAM _ (by omega) (by omega)]; omega
  obtain⟨h',a1,a2⟩:=qG5 n i i l h hl hn (by omega) hg;have ih:=qGa n hn m (i+1) (down i l) h' (by omega) (by rw[qEk,hl]) a1;rw[w148_1,b148_1,qAi,qAQ,if_pos (decide_eq_true t),a2,w148_3,b148_3,qAj,ew];exact ih
theorem qP7(n:Nat)(hn:n≤1000)(l:Es)(hl:l.length=n)(h1:1≤n):Om 148 [sE0 n,kI 0,kI (n:Int),F88] [.cells (pcells (eRows l)) 0]=some (.tup [],[.cells (pcells (eRows (sortM (n - 1) 1 l))) 0]):=by
 refine(qAB rfl).trans ?_;show lim tab.get S 148 1 0 [sE0 n,kI 0,kI (n:Int),F88] (Heap.mk [.cells (pcells (eRows l)) 0] .nil)=_;rw[w148_0,b148_0];simp (maxSteps:=9999999) +contextual only[exa,ne_eq,not_false_eq_true,reduceAdd,reduceMul,reduceLT,reduceLeDiff,reduceEqDiff,Int.reduceLT,Int.reduceLE,Int.reduceEq,Int.reduceToNat];exact qGa n hn (n - 1) 1 l _ (by omega) hl rfl
theorem qGF{β:Type}{O:Oracle}{k:TVal→Heap→Option β}{h:Heap}{d:Nat}(g:FuncId)(r:Ref)(args as':List TVal)(o o':AObj)(v:TVal)(s1:args.map TVal.strip=args)(s2:args.flatMap TVal.refs=[r])(s3:args.map (TVal.ren (inn [r]))=as')(hg:h.get r=some o)(ho:plainO o)(ho':plainO o')(hv:∀ σ,v.ren σ=v)
  (hc:O g as' [o]=some (v,[o'])):vcall O (.v (.c (.func g []))) args h d k=k v (h.put r o'):=by
 have e2:reach h fuelReach (args.flatMap TVal.refs) []=[r]:=by
  rw[s2];show reach h (398+1+1) [r] []=_;rw[qAP _ r [] [] o (by simp) hg,ho.1];exact qA8 _ _
 have e3:([r]:List Ref).mapM h.get=some [o]:=by simp only[List.mapM_cons,List.mapM_nil,hg,Option.pure_def,Option.bind_eq_bind,Option.bind_some]
 rw[qGG g args args as' [r] [o] [o] [o'] v s1 e2 e3 s3 (by rw[List.map_cons,ho.2]; rfl) hc (Nat.le_refl _),hv];show k v (h.put r (o'.ren _))=_;rw[ho'.2]
theorem v148{β:Type}{k:TVal→Heap→Option β}{h:Heap}{d:Nat}(n:Nat)(hn:n≤1000)(l:Es)(hl:l.length=n)(h1:1≤n)(hg:h.get (.im 0)=some (.cells (pcells (eRows l)) 0)):vcall Om (.v (.c (.func 148 []))) [sE0 n,kI 0,kI (n:Int),F88] h d k=k (.tup []) (h.put (.im 0) (.cells (pcells (eRows (sortM (n - 1) 1 l))) 0)) :=
 qGF 148 (.im 0) [sE0 n,kI 0,kI (n:Int),F88] _ _ _ _ rfl rfl rfl hg (qAN _ 0) (qAN _ 0) (fun _=>rfl) (qP7 n hn l hl h1)
theorem qMm(n:Nat)(hn:n<20)(l:Es)(hl:l.length=n)(h1:1≤n):Om 123 [sE0 n,kI (n:Int),F88] [.cells (pcells (eRows l)) 0]=some (.tup [],[.cells (pcells (eRows (sortM (n - 1) 1 l))) 0]):=by
 refine(qAB rfl).trans ?_;show lim tab.get S 123 1 0 [sE0 n,kI (n:Int),F88] (Heap.mk [.cells (pcells (eRows l)) 0] .nil)=_;have t:(n:Int)<20:=by omega
 have t2:¬ (20:Int)<(n:Int):=by omega
 have hg:(Heap.mk [.cells (pcells (eRows l)) 0] .nil).get (.im 0)=some (.cells (pcells (eRows l)) 0):=rfl;have fin:=qBP true [] _ rfl (Heap.zput_self (o := .cells (pcells (eRows (sortM (n - 1) 1 l))) 0) hg (fun e=>by cases e)) (qAN _ 0);rw[w123_0,b123_0,w123_1,b123_1];simp (maxSteps:=9999999) +contextual only[exa,ne_eq,not_false_eq_true,reduceAdd,reduceMul,reduceLT,reduceLeDiff,reduceEqDiff,Int.reduceLT,Int.reduceLE,Int.reduceEq,Int.reduceToNat,t,if_false];rw[w123_2,b123_2,v148 n (by omega) l hl h1 hg,w123_3,b123_3];simp (maxSteps:=9999999) +contextual only[exa,ne_eq,not_false_eq_true,reduceAdd,reduceMul,reduceLT,reduceLeDiff,reduceEqDiff,Int.reduceLT,Int.reduceLE,Int.reduceEq,Int.reduceToNat,t2,fin,if_false,oneOf]
theorem qRD(n:Nat)(hn:n<20)(l:Es)(hl:l.length=n)(h1:1≤n):Om 87 [sE0 n,F88] [.cells (pcells (eRows l)) 0]=some (.tup [],[.cells (pcells (eRows (sortM (n - 1) 1 l))) 0]):=by
 refine(qAB rfl).trans ?_;show lim tab.get S 87 1 0 [sE0 n,F88] (Heap.mk [.cells (pcells (eRows l)) 0] .nil)=_;have hg:(Heap.mk [.cells (pcells (eRows l)) 0] .nil).get (.im 0)=some (.cells (pcells (eRows l)) 0):=rfl;have fin:=qBP true [] _ rfl (Heap.zput_self (o := .cells (pcells (eRows (sortM (n - 1) 1 l))) 0) hg (fun e=>by cases e)) (qAN _ 0);have c:=fun{β:Type} {k:TVal→Heap→Option β} {d:Nat}=>qGF (O:=Om) (k:=k) (d:=d) 123 (.im 0) [sE0 n,kI (n:Int),F88] _ _ _ (.tup []) rfl rfl rfl hg (qAN _ 0) (qAN _ 0) (fun _=>rfl) (qMm n hn l hl h1)
 rw[w87_0,b87_0,qLM];refine c.trans ?_;exact fin
end Go.Proofs.YtnlmlcfipbnpgaaDoor.Ab
set_option maxHeartbeats 4000000
namespace Go.AI
theorem qPU{h:Heap}(vs:List Comp)(o:AObj)(hv:vs.all compPT=true)(hg:h.get (.im 0)=some o)(ho:plainO o):vfin true 1 vs h=some (oneOf (vs.map Comp.strip),[o]):=by
 letI:Sym:=⟨fun _=>0⟩
 rw[qCU];obtain⟨e1,e2⟩:=qEU h vs hv;have ef:freezeT h (oneOf vs)=some (oneOf (vs.map Comp.strip),[]):=by
  match vs,hv,e1,e2 with
  |[],_,_,_=>rfl
  |[x],hv,_,_ =>
   rw[List.all_cons,Bool.and_eq_true] at hv;show(freezeC h x).map _=_;rw[(qDQ h x hv.1).1]; rfl
  |x::y::vs,_,e1,_ =>
   show((x::y::vs).mapM (freezeC h)).map _=_;rw[e1];show some (TVal.tup (((x::y::vs).map fun x=>(x.strip,([]:List Ref))).map (·.1)),((x::y::vs).map fun x=>(x.strip,([]:List Ref))).flatMap (·.2))=_
   congr 2
   ·rw[List.map_map]; rfl
   ·generalize (x::y::vs)=l
    induction l with
    |nil=>rfl
    |cons a l ih=>rw[List.map_cons,List.flatMap_cons,ih]; rfl
 obtain⟨q1,q2,q3,q4⟩:=qAb (qC2 e2);unfold finV;rw[show ims 1=[Ref.im 0] from rfl];simp[ef,settle,hg,ho.1,q1,q3,reach,fuelReach,ho.2]
end Go.AI
namespace Go.Proofs.YtnlmlcfipbnpgaaDoor.Ab
open Go Go.AI
def kRow(p:List UInt8×TT):List PVal:=sRow p.1
def vRow(p:List UInt8×TT):List PVal:=p.2.row
abbrev q3:TVal := .v (.c (.ptr (.own 3 1) 0))
abbrev q6:TVal := .v (.c (.ptr (.own 6 1) 0))
abbrev q7:TVal := .v (.c (.ptr (.own 7 1) 0))
abbrev q8:TVal := .v (.c (.ptr (.own 8 1) 0))
abbrev sE1(n:Nat):TVal := .v (.c (.sref (.im 1) 0 n none 5))
structure TS (h:Heap) (L:List Tok) (s:RS) (kd:Int) (l:Es) (i:Nat):Prop where
 g0:h.get (.im 0)=some (rO L s)
 g1:h.get (.im 1)=some (.cells (pcells (eRows l)) 0)
 o3:h.get (.own 3 1)=some (boxO 0)
 o6:h.get (.own 6 1)=some (.cells z4 0)
 o7:h.get (.own 7 1)=some (.cells [.sref (.im 1) 0 l.length none 5] 0)
 o8:∃ K E,h.get (.own 8 1)=some (.cells [.p (.int .i64 kd),.p (.str []),K,E] 0)∧(GS [56] 1 K ((l.take i).map kRow) h∧Bears 1 K ((l.take i).map kRow))∧GS [62] 4 E ((l.take i).map vRow) h∧Bears 4 E ((l.take i).map vRow)
theorem qDZ{α β:Type}(f:α→β)(l:List α)(i:Nat)(a:α)(h:l[i]?=some a):(l.take (i+1)).map f=(l.take i).map f++[f a]:=by
 rw[List.take_add_one,h,List.map_append]; rfl
def adjM(l:Es):Nat→Bool
 |0=>false
 |j+1=>match l[j]?,l[j+1]? with
  |some q,some p=>decide (q.1=p.1)
  |_,_=>false
theorem qN9{h:Heap}{L:List Tok}{s:RS}{kd:Int}{l:Es}{i:Nat}(A:TS h L s kd l i)(p:List UInt8×TT)(hp:l[i]?=some p)(hl:l.length≤1000) :
  ∃ h',TS h' L { s with tw:=s.tw||adjM l i } kd l (i+1)∧lim tab.get S 57 1 1 [q3,q6,q7,q8,sE1 l.length,kI (l.length:Int),kI (i:Int)] h=lim tab.get S 57 1 1 [q3,q6,q7,q8,sE1 l.length,kI (l.length:Int),kI ((i+1:Nat):Int)] h':=by
 obtain⟨K,E,o8,⟨GK,BK⟩,GE,BE⟩:=A.o8;have hi:i<l.length:=(List.getElem?_eq_some_iff.1 hp).1;have lt:(i:Int)<(l.length:Int):=by omega
 have tl:(l.take i).length≤1000:=by simp; omega
 have gp:=qCx l i p hp;have pp:(pcells (eRow p.1 p.2)).length=5:=by rw[qAS,qAp]
 have PA:put1 z5 0 (pcells (eRow p.1 p.2))=pcells (eRow p.1 p.2):=qBF _ _ (by rw[pp]; rfl);generalize hb:(s.tw||adjM l i)=b;generalize hH1:(h.own 10 (h.gen 10+1) (.cells z5 0)).own 10 (h.gen 10+1) (.cells (pcells (eRow p.1 p.2)) 0)=H1;have k1:∀ (d:Nat) (o:AObj),d≠10→h.get (.own d 1)=some o→H1.get (.own d 1)=some o:=fun d o hd ho=>by rw[← hH1,Heap.own_get_ne _ _ _ _ _ _ (Ne.symm hd),Heap.own_get_ne _ _ _ _ _ _ (Ne.symm hd),ho]
 have H1i:∀ j,H1.get (.im j)=h.get (.im j):=fun j=>by rw[← hH1]; rfl
 have a0:H1.get (.im 0)=some (rO L s):=(H1i 0).trans A.g0;have a1:H1.get (.im 1)=some (.cells (pcells (eRows l)) 0):=(H1i 1).trans A.g1;have a3:=k1 3 _ (by decide) A.o3;have a7:=k1 7 _ (by decide) A.o7;have a8:=k1 8 _ (by decide) o8;have a10:H1.get (.own 10 (h.gen 10+1))=some (.cells (pcells (eRow p.1 p.2)) 0):=by rw[← hH1]; exact Heap.own_get _ _ _ _ (by decide) (fun e=>by cases e)
 generalize hH2:H1.put (.im 0) (rO L { s with tw:=b })=H2;have b0:H2.get (.im 0)=some (rO L { s with tw:=b }):=by rw[← hH2]; exact Heap.zput_self a0 (fun e=>by cases e)
 have b1:H2.get (.im 1)=some (.cells (pcells (eRows l)) 0):=by rw[← hH2]; exact(Heap.zput_ne a0 (by decide)).trans a1
 have ko:∀ d g,H2.get (.own d g)=H1.get (.own d g):=fun d g=>by rw[← hH2]; rfl
 have b8:H2.get (.own 8 1)=some (.cells [.p (.int .i64 kd),.p (.str []),K,E] 0):=(ko 8 1).trans (k1 8 _ (by decide) o8);have b10:H2.get (.own 10 (h.gen 10+1))=some (.cells (pcells (eRow p.1 p.2)) 0):=(ko 10 _).trans a10;have GK2:GS [56] 1 K ((l.take i).map kRow) H2:=by
  rw[← hH2,← hH1]; exact((GK.own _ _ (by decide)).own _ _ (by decide)).keep fun _ _ _ hh=>hh
 have GE2:GS [62] 4 E ((l.take i).map vRow) H2:=by
  rw[← hH2,← hH1]; exact((GE.own _ _ (by decide)).own _ _ (by decide)).keep fun _ _ _ hh=>hh
 obtain⟨c1,h1,t1,G1,e1,T1,K1,I1',X1⟩:=qCR (h:=H2) (d:=56) (D:=[56]) (sz:=1) (by':=16) (new:=[[.str p.1]]) (b := .slice 1 true [[.str p.1]]) (.inr ⟨true,rfl⟩) GK2 (by decide) (fun r hr=>by simp at hr; rw[hr]; rfl) (by simp; omega) (by decide);have GE3:GS [62] 4 E ((l.take i).map vRow) h1:=GE2.keep fun e he g hh=>K1 e g _ (by revert he; simp; omega) hh
 obtain⟨c2,h2,t2,G2,e2,T2,K2,I2',X2⟩:=qCR (h:=h1) (d:=62) (D:=[62]) (sz:=4) (by':=72) (new:=[p.2.row]) (b := .slice 4 true [p.2.row]) (.inr ⟨true,rfl⟩) GE3 (by decide) (fun r hr=>by simp at hr; rw[hr]; exact TT.row_len _) (by simp; omega) (by decide);have G1':=G1.keep (h':=h2) fun e he g hh=>K2 e g _ (by revert he; simp; omega) hh
 have k8:=K1 8 1 _ (by decide) b8;have k10:=K1 10 _ _ (by decide) b10;have k82:=K2 8 1 _ (by decide) k8;have B1:∀ {β:Type}{O:Oracle}{h:Heap}{d:Nat}{kt:TVal→Heap→AI.Touch→Option β},vtouch O (.bslice 1 1 [.p (.str [])] [(0,.k (kS p.1))] false) h d kt=kt (kSl 1 true [[.str p.1]]) h noTouch:=qD1 _ _ rfl;have B2:∀ {β:Type}{O:Oracle}{h:Heap}{d:Nat}{kt:TVal→Heap→AI.Touch→Option β},vtouch O (.bslice 4 1 z4 [(0,.k (.v (.agg (pcells p.2.row))))] false) h d kt=kt (kSl 4 true [p.2.row]) h noTouch:=qFB 4 _ _ rfl (TT.row_len p.2);have A1:AI.Touch.apart t1 ⟨[(Ref.own 8 1).site],[],false⟩=true:=qAo T1 8 (by decide);have A2:AI.Touch.apart t1 ⟨[(Ref.own 10 (h.gen 10+1)).site],[],false⟩=true:=qAo T1 10 (by decide);have R1:(pcells (eRow p.1 p.2))[0]?=some (.p (.str p.1)):=rfl;have R2:((pcells (eRow p.1 p.2)).drop 1).take 4=pcells p.2.row:=by
  show(pcells p.2.row).take 4=_;exact List.take_of_length_le (Nat.le_of_eq (by rw[qAS,TT.row_len]))
 have R3:(pcells p.2.row).length=4:=by rw[qAS,TT.row_len]
 have P1:∀ a b d:Cell,put1 [a,b,K,d] 2 [c1]=[a,b,c1,d]:=fun _ _ _=>rfl
 have P2:∀ a b:Cell,put1 [a,b,c1,E] 3 [c2]=[a,b,c1,c2]:=fun _ _=>rfl
 have P3:∀ a b c d x:Cell,put1 [a,b,c,d] 3 [x]=[a,b,c,x]:=fun _ _ _ _ _=>rfl
 refine⟨(h2.own 8 1 (.cells [.p (.int .i64 kd),.p (.str []),c1,E] 0)).own 8 1 (.cells [.p (.int .i64 kd),.p (.str []),c1,c2] 0),?_,?_⟩
 ·have mk:=qDZ kRow l i p hp;have mv:=qDZ vRow l i p hp;obtain⟨r1,er1⟩:=X1 (.inl (by simp));obtain⟨r2,er2⟩:=X2 (.inl (by simp));have own2:∀ (d:Nat) (o x y:AObj),d≠8→d∉[56]→d∉[62]→d≠10→h.get (.own d 1)=some o→((h2.own 8 1 x).own 8 1 y).get (.own d 1)=some o:=fun d o x y hd h56 h62 h10 ho=>by
   rw[Heap.own_get_ne _ _ _ _ _ _ (Ne.symm hd),Heap.own_get_ne _ _ _ _ _ _ (Ne.symm hd)];exact K2 d 1 _ h62 (K1 d 1 _ h56 ((ko d 1).trans (k1 d _ h10 ho)))
  refine⟨?_,?_,own2 3 _ _ _ (by decide) (by decide) (by decide) (by decide) A.o3,own2 6 _ _ _ (by decide) (by decide) (by decide) (by decide) A.o6,own2 7 _ _ _ (by decide) (by decide) (by decide) (by decide) A.o7,c1,c2,Heap.own_get _ 8 1 _ (by decide) (fun e=>by cases e),?_,?_⟩
  ·exact(I2' 0).trans ((I1' 0).trans b0)
  ·exact(I2' 1).trans ((I1' 1).trans b1)
  ·rw[mk];exact⟨(G1'.own 1 _ (by decide)).own 1 _ (by decide),.inr ⟨by simp,r1,er1⟩⟩
  ·rw[mv];exact⟨(G2.own 1 _ (by decide)).own 1 _ (by decide),.inr ⟨by simp,r2,er2⟩⟩
 ·have AB:∀ (T:AI.Touch),AI.Touch.apart noTouch noTouch=true:=fun _=>rfl
  rw[w57_1,b57_1];cases ht:s.tw with
  |true =>
   rw[ht,Bool.true_or] at hb;subst hb;simp (maxSteps:=9999999) +contextual only[exa,ne_eq,not_false_eq_true,reduceAdd,reduceMul,reduceLT,reduceLeDiff,reduceEqDiff,Int.reduceLT,Int.reduceLE,Int.reduceEq,Int.reduceToNat,exW,exY,lt,hi,A.g1,gp,pp,PA,Int.toNat_natCast,hH1,hH2,a0,a3,A.o3,A.o7,A.g0,a7,a1,a8,a10,ht,b8,b10,k8,k10,k82,e1,e2,qB1,B1,B2,A1,A2,R1,R2,R3,P1,P2,P3,qBW i (by omega),Nat.le_refl,oneOf]
  |false =>
   rw[ht,Bool.false_or] at hb;cases i with
   |zero =>
    have hb':b=false:=hb.symm;subst hb';have z:¬ (0:Int)<((0:Nat):Int):=by decide
    rw[Nat.zero_mul,List.drop_zero] at gp;have w0:IntKind.i64.wrap (((0:Nat):Int)+1)=((0+1:Nat):Int):=by decide
    simp (maxSteps:=9999999) +contextual only[exa,ne_eq,not_false_eq_true,reduceAdd,reduceMul,reduceLT,reduceLeDiff,reduceEqDiff,Int.reduceLT,Int.reduceLE,Int.reduceEq,Int.reduceToNat,exW,exY,lt,hi,A.g1,gp,pp,PA,Int.toNat_natCast,hH1,hH2,a0,a3,A.o3,A.o7,A.g0,a7,a1,a8,a10,ht,b8,b10,k8,k10,k82,e1,e2,qB1,B1,B2,A1,A2,R1,R2,R3,P1,P2,P3,z,w0,Nat.zero_mul,Nat.le_refl,oneOf]
   |succ j =>
    obtain⟨q,hq⟩:∃ q,l[j]?=some q:=⟨l[j]'(by omega),by simp⟩;have gq:=qCx l j q hq;have gq0:(pcells (eRows l))[j*5]?=some (.p (.str q.1)):=by
     have:(((pcells (eRows l)).drop (j*5)).take 5)[0]?=(pcells (eRows l))[j*5]?:=by
      rw[List.getElem?_take,if_pos (by decide),List.getElem?_drop,Nat.add_zero]
     rw[← this,gq]; rfl
    have z:(0:Int)<((j+1:Nat):Int):=by omega
    have ew:IntKind.i64.wrap (((j+1:Nat):Int) - 1)=((j:Nat):Int):=by rw[qAM _ (by omega) (by omega)]; omega
    have t3:(0:Int)≤((j:Nat):Int):=by omega
    have t5:j<l.length:=by omega
    have ha:adjM l (j+1)=decide (q.1=p.1):=by
     show(match l[j]?,l[j+1]? with|some q,some p=>decide (q.1=p.1)|_,_=>false)=_;rw[hq,hp]
    rw[ha] at hb;by_cases hk:q.1=p.1
    ·rw[decide_eq_true hk] at hb;subst hb;simp (maxSteps:=9999999) +contextual only[exa,ne_eq,not_false_eq_true,reduceAdd,reduceMul,reduceLT,reduceLeDiff,reduceEqDiff,Int.reduceLT,Int.reduceLE,Int.reduceEq,Int.reduceToNat,exW,exY,lt,hi,A.g1,gp,pp,PA,Int.toNat_natCast,hH1,hH2,a0,a3,A.o3,A.o7,A.g0,a7,a1,a8,a10,ht,b8,b10,k8,k10,k82,e1,e2,qB1,B1,B2,A1,A2,R1,R2,R3,P1,P2,P3,z,ew,t3,t5,gq0,hk,qBW (j+1) (by omega),Nat.le_refl,oneOf]
    ·rw[decide_eq_false hk] at hb;subst hb;simp (maxSteps:=9999999) +contextual only[exa,ne_eq,not_false_eq_true,reduceAdd,reduceMul,reduceLT,reduceLeDiff,reduceEqDiff,Int.reduceLT,Int.reduceLE,Int.reduceEq,Int.reduceToNat,exW,exY,lt,hi,A.g1,gp,pp,PA,Int.toNat_natCast,hH1,hH2,a0,a3,A.o3,A.o7,A.g0,a7,a1,a8,a10,ht,b8,b10,k8,k10,k82,e1,e2,qB1,B1,B2,A1,A2,R1,R2,R3,P1,P2,P3,z,ew,t3,t5,gq0,hk,qBW (j+1) (by omega),Nat.le_refl,oneOf]
end Go.Proofs.YtnlmlcfipbnpgaaDoor.Ab
set_option maxHeartbeats 4000000
namespace Go.Proofs.YtnlmlcfipbnpgaaDoor.Ab
open Go Go.AI
def twM(l:Es)(b:Bool):Nat→Bool
 |0=>b
 |i+1=>twM l b i||adjM l i
theorem qHh{L:List Tok}{s:RS}{kd:Int}{l:Es}(hl:l.length≤1000):∀ (m i:Nat) (h:Heap),i+m=l.length→TS h L { s with tw:=twM l s.tw i } kd l i →
  ∃ h',TS h' L { s with tw:=twM l s.tw l.length } kd l l.length∧lim tab.get S 57 1 1 [q3,q6,q7,q8,sE1 l.length,kI (l.length:Int),kI (i:Int)] h=lim tab.get S 57 1 2 [q6,q8] h'
 |0,i,h,hi,A=>by
  have hi:i=l.length:=by omega
  subst hi;refine⟨h,A,?_⟩;have lt:¬ (l.length:Int)<(l.length:Int):=by omega
  rw[w57_1,b57_1];simp (maxSteps:=9999999) +contextual only[exa,ne_eq,not_false_eq_true,reduceAdd,reduceMul,reduceLT,reduceLeDiff,reduceEqDiff,Int.reduceLT,Int.reduceLE,Int.reduceEq,Int.reduceToNat,lt,if_false]
 |m+1,i,h,hi,A=>by
  obtain⟨p,hp⟩:∃ p,l[i]?=some p:=⟨l[i]'(by omega),by simp⟩;obtain⟨h1,A1,e1⟩:=qN9 A p hp hl;obtain⟨h2,A2,e2⟩:=qHh (L:=L) (s:=s) (kd:=kd) hl m (i+1) h1 (by omega) A1;exact⟨h2,A2,e1.trans e2⟩
def recT(kd:Int)(l:Es):TT := .mk kd [] (grown (l.map (·.1))) (grown (l.map (·.2)))
theorem qOG(kd:Int)(l:Es):(recT kd l).row=[.int .i64 kd,.str [],growP 1 (l.map kRow),growP 4 (l.map vRow)]:=by
 have e1:growP 1 (l.map kRow)=slP 1 sRow (grown (l.map (·.1))):=by
  rw[← qGc,List.map_map]; rfl
 have e2:growP 4 (l.map vRow)=slP 4 TT.row (grown (l.map (·.2))):=by
  rw[← qGc,List.map_map]; rfl
 rw[e1,e2];unfold recT;rw[TT.row_eq];rfl
theorem qP2{h:Heap}{L:List Tok}{s:RS}{kd:Int}{l:Es}(A:TS h L s kd l l.length):lim tab.get S 57 1 2 [q6,q8] h=some (kA (recT kd l).row,[rO L s]):=by
 obtain⟨K,E,o8,⟨GK,BK⟩,GE,BE⟩:=A.o8;rw[List.take_length] at BK BE;have P:∀ a b c d:Cell,put1 z4 0 [a,b,c,d]=[a,b,c,d]:=fun _ _ _ _=>qBF _ _ rfl
 have fin:∀ h:Heap,h.get (.im 0)=some (rO L s)→vfin true 1 [.agg [.p (.int .i64 kd),.p (.str []),K,E]] h=some (kA (recT kd l).row,[rO L s]):=by
  intro h hg;rw[qPU _ (rO L s) (by show([Cell.p (.int .i64 kd),.p (.str []),K,E].all isPT&&true)=true; simp only[List.all_cons,List.all_nil,BK.pt,BE.pt]; rfl) hg (qAG L s)];show some (TVal.v (.agg [.p (.int .i64 kd),.p (.str []),K.strip,E.strip]),_)=_;rw[BK.strip,BE.strip,qOG];rfl
 rw[w57_2,b57_2];simp (maxSteps:=9999999) +contextual only[exa,ne_eq,not_false_eq_true,reduceAdd,reduceMul,reduceLT,reduceLeDiff,reduceEqDiff,Int.reduceLT,Int.reduceLE,Int.reduceEq,Int.reduceToNat,exW,exY,o8,A.o6,P,Nat.le_refl,oneOf];exact fin _ A.g0
def opnM(L:List Tok)(s:RS):RS:=mustM (takeM 4 L s [123]) (isM 4 L s [123])
theorem qFI{L:List Tok}{s:RS}(h:s.p≤L.length):(opnM L s).p≤L.length:=by
 unfold opnM;rw[qBQ];unfold takeM;split
 ·rename_i hi;have:=(qBj (by decide) hi).2;show s.p+1≤_; omega
 ·exact h
def sortedM(l:Es):Es:=sortM (l.length - 1) 1 l
theorem qGt:∀ (m i:Nat) (l:Es),(sortM m i l).length=l.length
 |0,_,_=>rfl
 |m+1,i,l=>by rw[sortM,qGt m,qEk]
theorem qCQ(l:Es):(sortedM l).length=l.length:=qGt _ _ l
def recdM(sub:RS→TT×RS)(L:List Tok)(kd:Int)(s:RS):TT×RS :=
 (recT kd (sortedM (rowM sub L [125] (opnM L s)).1),{ (rowM sub L [125] (opnM L s)).2 with tw:=twM (sortedM (rowM sub L [125] (opnM L s)).1) (rowM sub L [125] (opnM L s)).2.tw (sortedM (rowM sub L [125] (opnM L s)).1).length })
theorem qPa{β:Type}{O:Oracle}{k:TVal→Heap→Option β}{h:Heap}{d:Nat}(f:FuncId)(a b c:Ref):vop O (.mkfn f [.k (.v (.c (.ptr a 0))),.k (.v (.c (.ptr b 0))),.k (.v (.c (.ptr c 0)))]) h d k=k (.v (.c (.func f [a,b,c]))) h:=qAU _ _ rfl
theorem qPK:Om 87 [.v (.c (.p .nilslice)),F88] []=some (.tup [],[]):=(qAB rfl).trans (qBz blks_ok 300 87 0 0 _ _ _ (by kernel_rfl))
theorem c87n{β:Type}{k:TVal→Heap→Option β}{h:Heap}{e:Nat}:vcall Om (.v (.c (.func 87 []))) [.v (.c (.p .nilslice)),F88] h e k=k (.tup []) h:=by
 have e2:reach h fuelReach ([TVal.v (.c (.p .nilslice)),F88].flatMap TVal.refs) []=[]:=qA8 _ _;rw[qGG 87 _ _ _ [] [] [] [] (.tup []) rfl e2 rfl rfl rfl qPK (Nat.le_refl _)];rfl
theorem qRf{d:Int}{L:List Tok}{sub:RS→TT×RS}{okP:RS→Prop}(ok:SubOK d L sub okP)(hd:0≤d∧d≤100)(hL:L.length≤1000)(kd:Int)(s:RS)(hs:s.p≤L.length)(ro:rowOK sub okP L [125] (opnM L s))(hn:(rowM sub L [125] (opnM L s)).1.length<20) :
  Om 57 [P0,kI kd,kI d] [rO L s]=some (kA (recdM sub L kd s).1.row,[rO L (recdM sub L kd s).2]):=by
 refine(qAB rfl).trans ?_;show lim tab.get S 57 1 0 [P0,kI kd,kI d] (Heap.mk [rO L s] .nil)=_;have hp0:=qFI hs;have c41:∀ {β:Type}{h:Heap}{e:Nat}{kt:TVal→Heap→AI.Touch→Option β},h.get (.im 0)=some (rO L s)→vtouch Om (.call (.k (.v (.c (.func 41 [])))) [.k (.v (.c (.ptr (.im 0) 0))),.k (kS [123])]) h e kt=kt (kB (isM 4 L s [123])) (h.put (.im 0) (rO L (takeM 4 L s [123]))) ⟨[(Ref.im 0).site,(Ref.im 0).site],[(Ref.im 0).site],false⟩:=fun{β h e kt} hg =>
  qCV 41 (.im 0) (kS [123]) _ _ _ rfl rfl hg (qAG L _) (qAG L _) (qFX L _ (by omega) [123])
 have c39:∀ {β:Type}{h:Heap}{e:Nat}{kt:TVal→Heap→AI.Touch→Option β},h.get (.im 0)=some (rO L (takeM 4 L s [123]))→vtouch Om (.call (.k (.v (.c (.func 39 [])))) [.k (.v (.c (.ptr (.im 0) 0))),.k (kB (isM 4 L s [123]))]) h e kt=kt (.tup []) (h.put (.im 0) (rO L (opnM L s))) ⟨[(Ref.im 0).site,(Ref.im 0).site],[(Ref.im 0).site],false⟩:=fun{β h e kt} hg =>
  qCV 39 (.im 0) (kB (isM 4 L s [123])) _ _ _ rfl rfl hg (qAG L _) (qAG L _) (qFP L _ _)
 unfold recdM;have hrm:=qOe ok hd hL [125] (opnM L s) hp0 ro;have hrn:=qNr (d:=d) (sub:=sub) hL [125] (opnM L s) hp0;have hr0:isM 4 L (opnM L s) [125]=true→(rowM sub L [125] (opnM L s)).1=[]:=fun e=>by unfold rowM; rw[if_pos e]
 have hr1:isM 4 L (opnM L s) [125]=false→(rowM sub L [125] (opnM L s)).1≠[]:=fun e=>by
  unfold rowM;rw[if_neg (by rw[e]; decide)];have:∀ (f:Nat) (s:RS) (acc:Es),acc≠[]→(loopM sub L [125] f s acc).1≠[]:=by
   intro f
   induction f with
   |zero=>intro s acc h; exact h
   |succ f ih =>
    intro s acc h;unfold loopM;split
    ·exact ih _ _ (by simp)
    ·exact h
  exact this _ _ _ (by simp)
 generalize hr:rowM sub L [125] (opnM L s)=r at *;generalize hs0:opnM L s=s0 at *;generalize hbc:isM 4 L s [123]=bc at *;generalize hs2:takeM 4 L s [123]=s2 at *;have T:AI.Touch.apart ⟨[(Ref.own 3 1).site],[],false⟩ ⟨[(Ref.im 0).site,(Ref.im 0).site],[(Ref.im 0).site],false⟩=true:=rfl;rw[w57_0,b57_0];simp (maxSteps:=9999999) +contextual only[exa,ne_eq,not_false_eq_true,reduceAdd,reduceMul,reduceLT,reduceLeDiff,reduceEqDiff,Int.reduceLT,Int.reduceLE,Int.reduceEq,Int.reduceToNat,exW,exY,qPa,c41,c39,oneOf,T];generalize hh:((((((Heap.mk [rO L s] .nil).own 3 1 (.cells [.ptr (.im 0) 0] 0)).own 5 1 (.cells [.p (.int .i64 d)] 0)).own 6 1 (.cells z4 0)).own 7 1 (.cells [.p .nilslice] 0)).put (.im 0) (rO L s2)).put (.im 0) (rO L s0)=h;have F0:h.get (.im 0)=some (rO L s0):=by rw[← hh]; rfl
 have F3:h.get (.own 3 1)=some (boxO 0):=by rw[← hh]; rfl
 have F5:h.get (.own 5 1)=some (intO d):=by rw[← hh]; rfl
 have F6:h.get (.own 6 1)=some (.cells z4 0):=by rw[← hh]; rfl
 have F7:h.get (.own 7 1)=some (.cells [.p .nilslice] 0):=by rw[← hh]; rfl
 have Fl:h.ims.length=1:=by rw[← hh]; rfl
 have F8:h.gen 8=0:=by rw[← hh]; rfl
 clear hh;have hreach:reach h fuelReach ([P0,kS [125],.v (.c (.func 86 [.own 3 1,.own 5 1,.own 7 1]))].flatMap TVal.refs) []=[.im 0,.own 3 1,.own 5 1,.own 7 1]:=by
  show reach h (394+1+1+1+1+1+1) [.im 0,.own 3 1,.own 5 1,.own 7 1] []=_;rw[qAP _ (.im 0) _ _ _ (by decide) F0,(qAG L s0).1];show reach h (394+1+1+1+1+1) [.own 3 1,.own 5 1,.own 7 1] [.im 0]=_;rw[qAP _ (.own 3 1) _ _ _ (by decide) F3];show reach h (394+1+1+1+1) [.im 0,.own 5 1,.own 7 1] [.im 0,.own 3 1]=_;rw[qBu _ _ _ _ (by decide),qAP _ (.own 5 1) _ _ _ (by decide) F5];show reach h (394+1+1) [.own 7 1] [.im 0,.own 3 1,.own 5 1]=_;rw[qAP _ (.own 7 1) _ _ _ (by decide) F7];exact qA8 _ _
 have hm:([.im 0,.own 3 1,.own 5 1,.own 7 1]:List Ref).mapM h.get=some [rO L s0,boxO 0,intO d,.cells [.p .nilslice] 0]:=by
  simp only[List.mapM_cons,List.mapM_nil,F0,F3,F5,F7,Option.pure_def,Option.bind_eq_bind,Option.bind_some]
 have e5:([rO L s0,boxO 0,intO d,.cells [.p .nilslice] 0]:List AObj).map (AObj.ren (inn [.im 0,.own 3 1,.own 5 1,.own 7 1]))=[rO L s0,boxO 0,intO d,.cells [.p .nilslice] 0]:=by
  rw[List.map_cons,(qAG L s0).2]; rfl
 cases hx:isM 4 L s0 [125] with
 |true =>
  have hc66:=hrn hx;have h10:=hr0 hx;have e6:∀ σ:Ref→Option Ref,([rO L r.2,boxO 0,intO d,.cells [.p .nilslice] 0]:List AObj).length=4:=fun _=>rfl
  obtain⟨h1,hc,B⟩:=qC6 (O:=Om) (h:=h) 66 [P0,kS [125],.v (.c (.func 86 [.own 3 1,.own 5 1,.own 7 1]))] _ [P0,kS [125],F86] _ _ _ _ _ (.tup []) rfl hreach hm rfl e5 hc66 (Nat.le_refl 4) (by decide) rfl;have G0:h1.get (.im 0)=some (rO L r.2):=B.own 0 (.im 0) _ rfl (by show some ((rO L r.2).ren _)=_; rw[(qAG L r.2).2]) (fun e=>by cases e);have G3:h1.get (.own 3 1)=some (boxO 0):=B.own 1 (.own 3 1) _ rfl rfl (fun e=>by cases e);have G6:h1.get (.own 6 1)=some (.cells z4 0):=B.old (.own 6 1) _ (by decide) F6;have G7:h1.get (.own 7 1)=some (.cells [.p .nilslice] 0):=B.own 3 (.own 7 1) _ rfl rfl (fun e=>by cases e);have G8:h1.gen 8=0:=(B.gen 8).trans F8;rw[hc];have z:¬ (0:Int)<(0:Int):=by decide
  have P:∀ a b c d:Cell,put1 z4 0 [a,b,c,d]=[a,b,c,d]:=fun _ _ _ _=>qBF _ _ rfl
  rw[h10];simp (maxSteps:=9999999) +contextual only[exa,ne_eq,not_false_eq_true,reduceAdd,reduceMul,reduceLT,reduceLeDiff,reduceEqDiff,Int.reduceLT,Int.reduceLE,Int.reduceEq,Int.reduceToNat,exW,exY,G7,c87n,G8,oneOf];rw[w57_1,b57_1];simp (maxSteps:=9999999) +contextual only[exa,ne_eq,not_false_eq_true,reduceAdd,reduceMul,reduceLT,reduceLeDiff,reduceEqDiff,Int.reduceLT,Int.reduceLE,Int.reduceEq,Int.reduceToNat,exW,exY,z,if_false,oneOf];rw[w57_2,b57_2];simp (maxSteps:=9999999) +contextual only[exa,ne_eq,not_false_eq_true,reduceAdd,reduceMul,reduceLT,reduceLeDiff,reduceEqDiff,Int.reduceLT,Int.reduceLE,Int.reduceEq,Int.reduceToNat,exW,exY,G6,P,Nat.le_refl,oneOf];exact qBP true [.agg (pcells (recT kd []).row)] _ (by simp only[exP]) G0 (qAG L r.2)
 |false =>
  have hc66:=hrm hx;have hne:=hr1 hx;have hl0:1≤r.1.length:=List.length_pos_iff.2 hne;have pl:=qAN (eRows r.1) 0;have so:=qCQ r.1;obtain⟨h1,hc,B⟩:=qC6 (O:=Om) (h:=h) 66 [P0,kS [125],.v (.c (.func 86 [.own 3 1,.own 5 1,.own 7 1]))] _ [P0,kS [125],F86] _ _ _ _ _ (.tup []) rfl hreach hm rfl e5 hc66 (show(4:Nat)≤5 by decide) (by decide) rfl;have G0:h1.get (.im 0)=some (rO L r.2):=B.own 0 (.im 0) _ rfl (by show some ((rO L r.2).ren _)=_; rw[(qAG L r.2).2]) (fun e=>by cases e);have G3:h1.get (.own 3 1)=some (boxO 0):=B.own 1 (.own 3 1) _ rfl rfl (fun e=>by cases e);have G6:h1.get (.own 6 1)=some (.cells z4 0):=B.old (.own 6 1) _ (by decide) F6;have G7:h1.get (.own 7 1)=some (.cells [.sref (.im (h.ims.length+0)) 0 r.1.length none 5] 0):=B.own 3 (.own 7 1) _ rfl rfl (fun e=>by cases e);have G1:h1.get (.im (h.ims.length+0))=some (.cells (pcells (eRows r.1)) 0):=B.new 0 _ (congrArg some (pl.2 _)) (fun e=>by cases e);have G8:h1.gen 8=0:=(B.gen 8).trans F8;rw[Fl] at G7 G1;rw[hc];have c87:=fun{β:Type} {k:TVal→Heap→Option β} {e:Nat}=>qGF (O:=Om) (k:=k) (d:=e) 87 (.im 1) [sE1 r.1.length,F88] [sE0 r.1.length,F88] _ _ (.tup []) rfl rfl rfl G1 (qAN _ 0) (qAN (eRows (sortM (r.1.length - 1) 1 r.1)) 0) (fun _=>rfl) (qRD r.1.length hn r.1 rfl hl0)
  simp (maxSteps:=9999999) +contextual only[exa,ne_eq,not_false_eq_true,reduceAdd,reduceMul,reduceLT,reduceLeDiff,reduceEqDiff,Int.reduceLT,Int.reduceLE,Int.reduceEq,Int.reduceToNat,exW,exY,G7,oneOf];refine(c87).trans ?_;show _=some (kA (recT kd (sortedM r.1)).row,[rO L { r.2 with tw:=twM (sortedM r.1) r.2.tw (sortedM r.1).length }]);have hY:sortM (r.1.length - 1) 1 r.1=sortedM r.1:=rfl;rw[hY];have K0:(h1.put (.im 1) (.cells (pcells (eRows (sortedM r.1))) 0)).get (.im 0)=some (rO L r.2):=(Heap.zput_ne G1 (by decide)).trans G0;have K1:(h1.put (.im 1) (.cells (pcells (eRows (sortedM r.1))) 0)).get (.im 1)=some (.cells (pcells (eRows (sortedM r.1))) 0):=Heap.zput_self G1 (fun e=>by cases e);have K3:(h1.put (.im 1) (.cells (pcells (eRows (sortedM r.1))) 0)).get (.own 3 1)=some (boxO 0):=G3;have K6:(h1.put (.im 1) (.cells (pcells (eRows (sortedM r.1))) 0)).get (.own 6 1)=some (.cells z4 0):=G6;have K7:(h1.put (.im 1) (.cells (pcells (eRows (sortedM r.1))) 0)).get (.own 7 1)=some (.cells [.sref (.im 1) 0 r.1.length none 5] 0):=G7;have K8:(h1.put (.im 1) (.cells (pcells (eRows (sortedM r.1))) 0)).gen 8=0:=G8;rw[← so] at K7;rw[← so] at hn;generalize sortedM r.1=Y at *;generalize h1.put (.im 1) (.cells (pcells (eRows Y)) 0)=h2 at K0 K1 K3 K6 K7 K8;simp (maxSteps:=9999999) +contextual only[exa,ne_eq,not_false_eq_true,reduceAdd,reduceMul,reduceLT,reduceLeDiff,reduceEqDiff,Int.reduceLT,Int.reduceLE,Int.reduceEq,Int.reduceToNat,exW,exY,K7,K8,oneOf];have A:TS ((h2.own 8 1 (.cells z4 0)).own 8 1 (.cells [.p (.int .i64 kd),.p (.str []),.p .nilslice,.p .nilslice] 0)) L { r.2 with tw:=twM Y r.2.tw 0 } kd Y 0:=by
   have k:∀ (d:Nat) (o x y:AObj),d≠8→h2.get (.own d 1)=some o→((h2.own 8 1 x).own 8 1 y).get (.own d 1)=some o:=fun d o x y hd ho=>by rw[Heap.own_get_ne _ _ _ _ _ _ (Ne.symm hd),Heap.own_get_ne _ _ _ _ _ _ (Ne.symm hd),ho]
   exact⟨K0,K1,k 3 _ _ _ (by decide) K3,k 6 _ _ _ (by decide) K6,k 7 _ _ _ (by decide) K7,.p .nilslice,.p .nilslice,Heap.own_get _ 8 1 _ (by decide) (fun e=>by cases e),⟨.inl ⟨rfl,rfl⟩,.inl ⟨rfl,rfl⟩⟩,.inl ⟨rfl,rfl⟩,.inl ⟨rfl,rfl⟩⟩
  obtain⟨h3,A3,e3⟩:=qHh (L:=L) (s:=r.2) (kd:=kd) (l:=Y) (by omega) Y.length 0 _ (by omega) A;exact e3.trans (qP2 A3)
end Go.Proofs.YtnlmlcfipbnpgaaDoor.Ab
set_option maxHeartbeats 4000000
namespace Go.Proofs.YtnlmlcfipbnpgaaDoor.Ab
open Go Go.AI
def begM(x:Tok):Bool:=decide (x.kind=1)||(decide (x.kind=4)&&decide (x.text=[123]))
def hedM(d:Int)(L:List Tok)(s:RS):RS:=if (begM (peekM L s)&&decide (12<d))=true then failM (mustM s (begM (peekM L s))) 13 else mustM s (begM (peekM L s))
def leafT(k:Int):TT := .mk k [] .nil .nil
def zeroT:TT:=leafT 0
def angM(L:List Tok)(s:RS):RS:=mustM (takeM 4 L s [60]) (isM 4 L s [60])
def engM(L:List Tok)(s:RS):RS:=mustM (takeM 4 L s [62]) (isM 4 L s [62])
def ofM(sub:RS→TT×RS)(L:List Tok)(k:Int)(s:RS):TT×RS:=(.mk k [] .nil (.mk true [(sub (angM L s)).1]),engM L (sub (angM L s)).2)
def wrdT(sub:RS→TT×RS)(L:List Tok)(w:List UInt8)(s:RS):TT×RS :=
 if w=wordM 1 then (leafT 1,s) else if w=wordM 2 then (leafT 2,s) else if w=wordM 3 then (leafT 3,s) else if w=wordM 8 then recdM sub L 8 s
 else if w=wordM 4 then ofM sub L 4 s else if w=wordM 5 then ofM sub L 5 s else if w=wordM 6 then ofM sub L 6 s else (.mk 9 w .nil .nil,s)
def oneP(sub:RS→TT×RS)(d:Int)(L:List Tok)(s:RS):TT×RS :=
 if (hedM d L s).e≠0 then (zeroT,hedM d L s) else if (peekM L s).kind=4 then recdM sub L 7 (hedM d L s) else wrdT sub L (peekM L s).text (nextM (hedM d L s))
def recOK(sub:RS→TT×RS)(ok:RS→Prop)(L:List Tok)(s:RS):Prop:=rowOK sub ok L [125] (opnM L s)∧(rowM sub L [125] (opnM L s)).1.length<20
def wrdOK(sub:RS→TT×RS)(ok:RS→Prop)(L:List Tok)(w:List UInt8)(s:RS):Prop:=(w=wordM 8→recOK sub ok L s)∧((w=wordM 4∨w=wordM 5∨w=wordM 6)→ok (angM L s))
def oneOK(sub:RS→TT×RS)(ok:RS→Prop)(d:Int)(L:List Tok)(s:RS):Prop :=
 (hedM d L s).e=0→((peekM L s).kind=4→recOK sub ok L (hedM d L s))∧((peekM L s).kind≠4→wrdOK sub ok L (peekM L s).text (nextM (hedM d L s)))
structure OH (h:Heap) (L:List Tok) (s:RS) (x:Tok):Prop where
 g0:h.get (.im 0)=some (rO L s)
 o4:h.get (.own 4 1)=some (.cells z4 0)
 o5:h.get (.own 5 1)=some (.cells x.cells 0)
 g8:h.gen 8=0
abbrev o4P:TVal := .v (.c (.ptr (.own 4 1) 0))
abbrev o5P:TVal := .v (.c (.ptr (.own 5 1) 0))
theorem qRE(s:RS)(e:Int):(failM s e).p=s.p:=by unfold failM; split <;> rfl
theorem qHG(d:Int)(L:List Tok)(s:RS):(hedM d L s).p=s.p:=by
 unfold hedM;split
 ·rw[qRE,qBQ]
 ·rw[qBQ]
theorem one0(d:Int)(L:List Tok)(s:RS):∃ h,OH h L (hedM d L s) (peekM L s)∧lim tab.get S 34 1 0 [P0,kI d] { ims:=[rO L s],owns := .nil }=lim tab.get S 34 1 1 [P0,kI d,o4P,o5P] h:=by
 have g0:∀ x:AObj,((Heap.mk [rO L s] .nil).own 4 1 x).get (.im 0)=some (rO L s):=fun _=>rfl
 have U:=fun(x:AObj) (β:Type) (k:TVal→Heap→Option β) (d:Nat)=>u55 (k:=k) (d:=d) (g0 x)
 have gn:(Heap.mk [rO L s] .nil).gen 4=0:=rfl;have gn5:(Heap.mk [rO L s] .nil).gen 5=0:=rfl;have P4:∀ a b c d:Cell,put1 zT 0 [a,b,c,d]=[a,b,c,d]:=fun _ _ _ _=>rfl
 unfold hedM begM;rw[qKy] at U;generalize hx:peekM L s=x at *;generalize hH:(((Heap.mk [rO L s] .nil).own 4 1 (.cells z4 0)).own 5 1 (.cells zT 0)).own 5 1 (.cells [.p (.int .i64 x.kind),.p (.str x.text),.p (.int .i64 x.n),.p (.int .i64 x.pos)] 0)=H;have H0:H.get (.im 0)=some (rO L s):=by rw[← hH]; rfl
 have U39:=fun(b:Bool) (β:Type) (k:TVal→Heap→Option β) (d:Nat)=>u39 (k:=k) (d:=d) b H0
 have OHp:∀ s',OH (H.put (.im 0) (rO L s')) L s' x:=fun s'=>by rw[← hH]; exact⟨rfl,rfl,rfl,rfl⟩
 have OHp2:∀ s' s'',OH ((H.put (.im 0) (rO L s')).put (.im 0) (rO L s'')) L s'' x:=fun s' s''=>by rw[← hH]; exact⟨rfl,rfl,rfl,rfl⟩
 have g5:H.get (.own 5 1)=some (.cells [.p (.int .i64 x.kind),.p (.str x.text),.p (.int .i64 x.n),.p (.int .i64 x.pos)] 0):=by rw[← hH]; rfl
 generalize hb:(decide (x.kind=1)||(decide (x.kind=4)&&decide (x.text=[123])))=b;have U56:=fun(s':RS) (β:Type) (k:TVal→Heap→Option β) (d:Nat)=>u56 (k:=k) (d:=d) 13 (OHp s').g0
 have GO:lim tab.get S 34 1 0 [P0,kI d] { ims:=[rO L s],owns := .nil }=(vcall Om (.v (.c (.func 39 []))) [P0,kB b] H 26 fun x26 h=>vguard (kB b) true (fun kk=>kk (kI d) h) h fun x29 h=>vguard (kB b) true (fun kk=>vbin .gtr 0 x29 (kI 12) h kk) h fun x30 h=>vop Om (.pick (.k (kB b)) (.k x30) (.k (kB false))) h 31 fun x31 h=>vif x31 (vcall Om (.v (.c (.func 56 []))) [P0,kI 13] h 33 fun x33 h=>lim tab.get S 34 1 1 [P0,kI d,o4P,o5P] h) (lim tab.get S 34 1 1 [P0,kI d,o4P,o5P] h)):=by
  rw[w34_0,b34_0];cases h1:decide (x.kind=1) with
  |true =>
   rw[h1,Bool.true_or] at hb;subst hb;simp (maxSteps:=9999999) +contextual only[exa,ne_eq,not_false_eq_true,reduceAdd,reduceMul,reduceLT,reduceLeDiff,reduceEqDiff,Int.reduceLT,Int.reduceLE,Int.reduceEq,Int.reduceToNat,exW,U,gn,gn5,P4,h1,hH,g5]
  |false =>
   rw[h1,Bool.false_or] at hb;cases h4:decide (x.kind=4) with
   |true =>
    rw[h4,Bool.true_and] at hb;cases ht:decide (x.text=[123]) with
    |true =>
     rw[ht] at hb;subst hb;simp (maxSteps:=9999999) +contextual only[exa,ne_eq,not_false_eq_true,reduceAdd,reduceMul,reduceLT,reduceLeDiff,reduceEqDiff,Int.reduceLT,Int.reduceLE,Int.reduceEq,Int.reduceToNat,exW,U,gn,gn5,P4,h1,h4,ht,hH,g5]
    |false =>
     rw[ht] at hb;subst hb;simp (maxSteps:=9999999) +contextual only[exa,ne_eq,not_false_eq_true,reduceAdd,reduceMul,reduceLT,reduceLeDiff,reduceEqDiff,Int.reduceLT,Int.reduceLE,Int.reduceEq,Int.reduceToNat,exW,U,gn,gn5,P4,h1,h4,ht,hH,g5]
   |false =>
    rw[h4,Bool.false_and] at hb;subst hb;simp (maxSteps:=9999999) +contextual only[exa,ne_eq,not_false_eq_true,reduceAdd,reduceMul,reduceLT,reduceLeDiff,reduceEqDiff,Int.reduceLT,Int.reduceLE,Int.reduceEq,Int.reduceToNat,exW,U,gn,gn5,P4,h1,h4,hH,g5]
 cases b with
 |false =>
  refine⟨_,OHp (mustM s false),GO.trans ?_⟩;simp (maxSteps:=9999999) +contextual only[exa,ne_eq,not_false_eq_true,reduceAdd,reduceMul,reduceLT,reduceLeDiff,reduceEqDiff,Int.reduceLT,Int.reduceLE,Int.reduceEq,Int.reduceToNat,exW,U39]
 |true =>
  by_cases hd:12<d
  ·rw[Bool.true_and,if_pos (decide_eq_true hd)];refine⟨_,OHp2 (mustM s true) _,GO.trans ?_⟩;simp (maxSteps:=9999999) +contextual only[exa,ne_eq,not_false_eq_true,reduceAdd,reduceMul,reduceLT,reduceLeDiff,reduceEqDiff,Int.reduceLT,Int.reduceLE,Int.reduceEq,Int.reduceToNat,exW,U39,hd,U56]
  ·rw[Bool.true_and,if_neg (by rw[decide_eq_false hd]; decide)];refine⟨_,OHp (mustM s true),GO.trans ?_⟩;simp (maxSteps:=9999999) +contextual only[exa,ne_eq,not_false_eq_true,reduceAdd,reduceMul,reduceLT,reduceLeDiff,reduceEqDiff,Int.reduceLT,Int.reduceLE,Int.reduceEq,Int.reduceToNat,exW,U39,hd]
theorem qBD(t:TT):put1 z4 0 (pcells t.row)=pcells t.row:=qBF _ _ (by rw[qAS,TT.row_len]; rfl)
theorem qCW{h:Heap}{L:List Tok}{s:RS}(t:TT)(o:AObj)(hg:h.get (.im 0)=some (rO L s)):vfin true 1 [.agg (pcells t.row)] (h.own 4 1 o)=some (kA t.row,[rO L s]) :=
 qBP true [.agg (pcells t.row)] _ (by simp only[exP]) hg (qAG L s)
theorem qHx{d:Int}{L:List Tok}{sub:RS→TT×RS}{okP:RS→Prop}(ok:SubOK d L sub okP)(hd:0≤d∧d≤100)(hL:L.length≤1000)(k:Int)(hk:k=4∨k=5∨k=6){h:Heap}{s:RS}{x:Tok}(hs:s.p≤L.length)(A:OH h L s x)(hw:x.text=wordM k)(ho:okP (angM L s)) :
  lim tab.get S 34 1 2 [P0,kI d,o4P,o5P,kI k] h=some (kA (ofM sub L k s).1.row,[rO L (ofM sub L k s).2]):=by
 have I0:I1 L s:=⟨fun _=>hs,by omega⟩;have Ia:I1 L (angM L s):=qH9 _ (qHX (by decide) I0).1;have c34:=ok.one _ Ia ho;obtain⟨Ib,_⟩:=ok.inv _ Ia;unfold ofM;have U41:=fun(β:Type) (kk:TVal→Heap→Option β) (d:Nat)=>u41 (k:=kk) (d:=d) (by omega:s.p≤1000000) [60] A.g0
 generalize hh1:h.put (.im 0) (rO L (takeM 4 L s [60]))=h1 at U41;have G1:h1.get (.im 0)=some (rO L (takeM 4 L s [60])):=by rw[← hh1]; exact Heap.zput_self A.g0 (fun e=>by cases e)
 have U39:=fun(β:Type) (kk:TVal→Heap→Option β) (d:Nat)=>u39 (k:=kk) (d:=d) (isM 4 L s [60]) G1
 rw[show mustM (takeM 4 L s [60]) (isM 4 L s [60])=angM L s from rfl] at U39;generalize hh2:h1.put (.im 0) (rO L (angM L s))=h2 at U39;have G2:h2.get (.im 0)=some (rO L (angM L s)):=by rw[← hh2]; exact Heap.zput_self G1 (fun e=>by cases e)
 have ed:IntKind.i64.wrap (d+1)=d+1:=qAM _ (by omega) (by omega);generalize hr:sub (angM L s)=r at *;have U34:∀ (β:Type) (kk:TVal→Heap→Option β) (e:Nat),vcall Om (.v (.c (.func 34 []))) [P0,kI (d+1)] h2 e kk=kk (kA r.1.row) (h2.put (.im 0) (rO L r.2)):=fun β kk e =>
  qAv 34 (.im 0) 0 [] [kI (d+1)] _ _ _ rfl rfl G2 (qAG L _) (qAG L _) (by simp only[exP]) c34
 generalize hh3:h2.put (.im 0) (rO L r.2)=h3 at U34;have G3:h3.get (.im 0)=some (rO L r.2):=by rw[← hh3]; exact Heap.zput_self G2 (fun e=>by cases e)
 have Z3:∀ dd g,h3.get (.own dd g)=h.get (.own dd g):=fun dd g=>by rw[← hh3,← hh2,← hh1]; rfl
 have gn3:h3.gen 8=0:=by rw[← hh3,← hh2,← hh1]; exact A.g8
 obtain⟨a1,a2,a3,a4,hrow⟩:∃ a1 a2 a3 a4,r.1.row=[a1,a2,a3,a4]:=by cases r.1; exact⟨_,_,_,_,rfl⟩
 have pr:pcells r.1.row=[.p a1,.p a2,.p a3,.p a4]:=by rw[hrow]; rfl
 generalize hh4:(h3.own 8 1 (.cells z4 0)).own 8 1 (.cells (pcells r.1.row) 0)=h4;have G4:h4.get (.im 0)=some (rO L r.2):=by rw[← hh4]; exact G3
 have o8:h4.get (.own 8 1)=some (.cells (pcells r.1.row) 0):=by rw[← hh4]; exact Heap.own_get _ _ _ _ (by decide) (fun e=>by cases e)
 have o44:h4.get (.own 4 1)=some (.cells z4 0):=by rw[← hh4]; exact(Heap.own_get_ne _ 8 _ _ 4 1 (by decide)).trans ((Heap.own_get_ne _ 8 _ _ 4 1 (by decide)).trans ((Z3 4 1).trans A.o4))
 have hp2:r.2.p≤1000000:=by have:=Ib.2; omega
 have V41:=fun(β:Type) (kk:TVal→Heap→Option β) (d:Nat)=>u41 (k:=kk) (d:=d) hp2 [62] G4
 generalize hh5:h4.put (.im 0) (rO L (takeM 4 L r.2 [62]))=h5 at V41;have G5:h5.get (.im 0)=some (rO L (takeM 4 L r.2 [62])):=by rw[← hh5]; exact Heap.zput_self G4 (fun e=>by cases e)
 have V39:=fun(β:Type) (kk:TVal→Heap→Option β) (d:Nat)=>u39 (k:=kk) (d:=d) (isM 4 L r.2 [62]) G5
 rw[show mustM (takeM 4 L r.2 [62]) (isM 4 L r.2 [62])=engM L r.2 from rfl] at V39;generalize hh6:h5.put (.im 0) (rO L (engM L r.2))=h6 at V39;have G6:h6.get (.im 0)=some (rO L (engM L r.2)):=by rw[← hh6]; exact Heap.zput_self G5 (fun e=>by cases e)
 have o86:h6.get (.own 8 1)=some (.cells (pcells r.1.row) 0):=by rw[← hh6,← hh5]; exact o8
 have o46:h6.get (.own 4 1)=some (.cells z4 0):=by rw[← hh6,← hh5]; exact o44
 have o5x:h.get (.own 5 1)=some (.cells [.p (.int .i64 x.kind),.p (.str x.text),.p (.int .i64 x.n),.p (.int .i64 x.pos)] 0):=A.o5;have k6:¬ (6:Int)<k:=by omega
 have B1:∀ (β:Type) (kk:TVal→Heap→Option β) (hh:Heap),vop Om (.bslice 4 1 z4 [(0,.k (kA r.1.row))] false) hh 96 kk=kk (kSl 4 true [r.1.row]) hh:=fun β kk hh=>by rw[hrow]; exact qAU _ _ rfl
 have B2:∀ (β:Type) (kk:TVal→Heap→Option β) (hh:Heap),vop Om (.build z4 [(0,1,.k (kI k)),(3,1,.k (kSl 4 true [r.1.row]))]) hh 97 kk=kk (kA (TT.mk k [] .nil (.mk true [r.1])).row) hh:=fun _ _ _=>rfl
 have L4:(pcells r.1.row).length=4:=by rw[qAS,TT.row_len]
 have T4:(pcells r.1.row).take 4=pcells r.1.row:=List.take_of_length_le (by omega);have Pz:=qBD r.1;have Pk:=qBD (TT.mk k [] .nil (.mk true [r.1]));have Lk:(pcells (TT.mk k [] .nil (.mk true [r.1])).row).length=4:=by rw[qAS,TT.row_len]
 have Tk:(pcells (TT.mk k [] .nil (.mk true [r.1])).row).take 4=pcells (TT.mk k [] .nil (.mk true [r.1])).row:=List.take_of_length_le (by omega);have fin:=qCW (TT.mk k [] .nil (.mk true [r.1])) (.cells (pcells (TT.mk k [] .nil (.mk true [r.1])).row) 0) G6;rw[w34_2,b34_2];simp (maxSteps:=9999999) +contextual only[exa,ne_eq,not_false_eq_true,reduceAdd,reduceMul,reduceLT,reduceLeDiff,reduceEqDiff,Int.reduceLT,Int.reduceLE,Int.reduceEq,Int.reduceToNat,exW,exY,k6,o5x,y32,hw,U41,U39,ed,U34,gn3,hh4,V41,V39,o86,o46,B1,B2,L4,T4,Pz,Pk,Lk,Tk,fin]
theorem qE7{d:Int}{L:List Tok}(k:Int)(hk:k=4∨k=5∨k=6){h:Heap}{s:RS}{x:Tok}(A:OH h L s x)(hw:x.text≠wordM k) :
  lim tab.get S 34 1 2 [P0,kI d,o4P,o5P,kI k] h=lim tab.get S 34 1 2 [P0,kI d,o4P,o5P,kI (k+1)] h:=by
 have o5x:h.get (.own 5 1)=some (.cells [.p (.int .i64 x.kind),.p (.str x.text),.p (.int .i64 x.n),.p (.int .i64 x.pos)] 0):=A.o5;have k6:¬ (6:Int)<k:=by omega
 have ew:IntKind.i64.wrap (k+1)=k+1:=qAM _ (by omega) (by omega)
 conv=>lhs; rw[w34_2,b34_2]
 simp (maxSteps:=9999999) +contextual only[exa,ne_eq,not_false_eq_true,reduceAdd,reduceMul,reduceLT,reduceLeDiff,reduceEqDiff,Int.reduceLT,Int.reduceLE,Int.reduceEq,Int.reduceToNat,exW,exY,k6,o5x,y32,hw,ew]
theorem qNh{d:Int}{L:List Tok}{h:Heap}{s:RS}{x:Tok}(A:OH h L s x) :
  lim tab.get S 34 1 2 [P0,kI d,o4P,o5P,kI 7] h=some (kA (TT.mk 9 x.text .nil .nil).row,[rO L s]):=by
 have o5x:h.get (.own 5 1)=some (.cells [.p (.int .i64 x.kind),.p (.str x.text),.p (.int .i64 x.n),.p (.int .i64 x.pos)] 0):=A.o5;have B2:∀ (β:Type) (kk:TVal→Heap→Option β) (hh:Heap),vop Om (.build z4 [(0,1,.k (kI 9)),(1,1,.k (kS x.text))]) hh 100 kk=kk (kA (TT.mk 9 x.text .nil .nil).row) hh:=fun _ _ _=>rfl
 have Pk:=qBD (TT.mk 9 x.text .nil .nil);have Lk:(pcells (TT.mk 9 x.text .nil .nil).row).length=4:=by rw[qAS,TT.row_len]
 have Tk:(pcells (TT.mk 9 x.text .nil .nil).row).take 4=pcells (TT.mk 9 x.text .nil .nil).row:=List.take_of_length_le (by omega);have fin:=qCW (TT.mk 9 x.text .nil .nil) (.cells (pcells (TT.mk 9 x.text .nil .nil).row) 0) A.g0;rw[w34_2,b34_2];simp (maxSteps:=9999999) +contextual only[exa,ne_eq,not_false_eq_true,reduceAdd,reduceMul,reduceLT,reduceLeDiff,reduceEqDiff,Int.reduceLT,Int.reduceLE,Int.reduceEq,Int.reduceToNat,exW,exY];rw[w34_3,b34_3];simp (maxSteps:=9999999) +contextual only[exa,ne_eq,not_false_eq_true,reduceAdd,reduceMul,reduceLT,reduceLeDiff,reduceEqDiff,Int.reduceLT,Int.reduceLE,Int.reduceEq,Int.reduceToNat,exW,exY,o5x,A.o4,B2,Pk,Lk,Tk,fin]
theorem qPr{d:Int}{L:List Tok}{sub:RS→TT×RS}{okP:RS→Prop}(ok:SubOK d L sub okP)(hd:0≤d∧d≤100)(hL:L.length≤1000){h:Heap}{s:RS}{x:Tok}(hs:s.p≤L.length)(A:OH h L s x)(ho:(x.text=wordM 4∨x.text=wordM 5∨x.text=wordM 6)→okP (angM L s)) :
  lim tab.get S 34 1 2 [P0,kI d,o4P,o5P,kI 4] h=some (kA (if x.text=wordM 4 then ofM sub L 4 s else if x.text=wordM 5 then ofM sub L 5 s else if x.text=wordM 6 then ofM sub L 6 s else (.mk 9 x.text .nil .nil,s)).1.row,[rO L (if x.text=wordM 4 then ofM sub L 4 s else if x.text=wordM 5 then ofM sub L 5 s else if x.text=wordM 6 then ofM sub L 6 s else (.mk 9 x.text .nil .nil,s)).2]):=by
 by_cases h4:x.text=wordM 4
 ·rw[if_pos h4]; exact qHx ok hd hL 4 (.inl rfl) hs A h4 (ho (.inl h4))
 ·rw[if_neg h4,qE7 4 (.inl rfl) A h4];by_cases h5:x.text=wordM 5
  ·rw[if_pos h5]; exact qHx ok hd hL 5 (.inr (.inl rfl)) hs A h5 (ho (.inr (.inl h5)))
  ·rw[if_neg h5];refine(qE7 5 (.inr (.inl rfl)) A h5).trans ?_;by_cases h6:x.text=wordM 6
   ·rw[if_pos h6]; exact qHx ok hd hL 6 (.inr (.inr rfl)) hs A h6 (ho (.inr (.inr h6)))
   ·rw[if_neg h6];refine(qE7 6 (.inr (.inr rfl)) A h6).trans ?_;exact qNh A
theorem one1{d:Int}{L:List Tok}{sub:RS→TT×RS}{okP:RS→Prop}(ok:SubOK d L sub okP)(hd:0≤d∧d≤100)(hL:L.length≤1000){h:Heap}{s:RS}{x:Tok}(A:OH h L s x)(he:s.e=0)(hs:s.p≤L.length)(hs1:x.kind≠4→s.p+1≤L.length)(o4:x.kind=4→recOK sub okP L s)(ow:x.kind≠4→wrdOK sub okP L x.text (nextM s)) :
  lim tab.get S 34 1 1 [P0,kI d,o4P,o5P] h=some (kA (if x.kind=4 then recdM sub L 7 s else wrdT sub L x.text (nextM s)).1.row,[rO L (if x.kind=4 then recdM sub L 7 s else wrdT sub L x.text (nextM s)).2]):=by
 have o5x:h.get (.own 5 1)=some (.cells [.p (.int .i64 x.kind),.p (.str x.text),.p (.int .i64 x.n),.p (.int .i64 x.pos)] 0):=A.o5;have z5':∀ t:TT,(pcells t.row).length=4:=fun t=>by rw[qAS,TT.row_len]
 have Tz:∀ t:TT,(pcells t.row).take 4=pcells t.row:=fun t=>List.take_of_length_le (by rw[z5']; exact Nat.le_refl _)
 have R57:∀ (kd:Int) (s':RS) (h':Heap),h'.get (.im 0)=some (rO L s')→s'.p≤L.length→recOK sub okP L s'→∀ (β:Type) (kk:TVal→Heap→Option β) (e:Nat),vcall Om (.v (.c (.func 57 []))) [P0,kI kd,kI d] h' e kk=kk (kA (recdM sub L kd s').1.row) (h'.put (.im 0) (rO L (recdM sub L kd s').2)):=fun kd s' h' hg hp ro β kk e =>
  qAv 57 (.im 0) 0 [] [kI kd,kI d] _ _ _ rfl rfl hg (qAG L _) (qAG L _) (by simp only[exP]) (qRf ok hd hL kd s' hp ro.1 ro.2)
 rw[w34_1,b34_1];cases hk4:decide (x.kind=4) with
 |true =>
  have h4:=of_decide_eq_true hk4;rw[if_pos h4];have U:=R57 7 s h A.g0 hs (o4 h4);generalize recdM sub L 7 s=r at *;have G1:(h.put (.im 0) (rO L r.2)).get (.im 0)=some (rO L r.2):=Heap.zput_self A.g0 (fun e=>by cases e);have fin:=qCW r.1 (.cells (pcells r.1.row) 0) G1;have Pk:=qBD r.1;have Lk:=z5' r.1;have Tk:=Tz r.1;simp (maxSteps:=9999999) +contextual only[exa,ne_eq,not_false_eq_true,reduceAdd,reduceMul,reduceLT,reduceLeDiff,reduceEqDiff,Int.reduceLT,Int.reduceLE,Int.reduceEq,Int.reduceToNat,exW,exY,A.g0,he,o5x,hk4,U,A.o4,Pk,Lk,Tk,fin]
 |false =>
  have h4:=of_decide_eq_false hk4;rw[if_neg h4];have hsp:=hs1 h4;have w1:IntKind.i64.wrap ((s.p:Int)+1)=((s.p+1:Nat):Int):=by rw[qAM _ (by omega) (by omega)]; omega
  have P1:∀ (a b c e y:Cell),put1 [a,b,c,e] 1 [y]=[a,y,c,e]:=fun _ _ _ _ _=>rfl
  generalize hh1:h.put (.im 0) (rO L (nextM s))=h1;have hh1':h.put (.im 0) (.cells [.p (tksP L),.p (.int .i64 ((s.p+1:Nat):Int)),.p (.int .i64 0),.p (.bool s.tw)] 0)=h1:=by rw[← he]; exact hh1
  have B:OH h1 L (nextM s) x:=by
   rw[← hh1];exact⟨Heap.zput_self A.g0 (fun e=>by cases e),A.o4,A.o5,A.g8⟩
  have b5x:h1.get (.own 5 1)=some (.cells [.p (.int .i64 x.kind),.p (.str x.text),.p (.int .i64 x.n),.p (.int .i64 x.pos)] 0):=B.o5;obtain⟨ow1,ow2⟩:=ow h4;have LF:∀ k:Int,∀ (β:Type) (kk:TVal→Heap→Option β) (hh:Heap) (dd:Nat),vop Om (.build z4 [(0,1,.k (kI k))]) hh dd kk=kk (kA (leafT k).row) hh:=fun _ _ _ _ _=>rfl
  have fin:=fun k=>qCW (leafT k) (.cells (pcells (leafT k).row) 0) B.g0
  have Pl:=fun k=>qBD (leafT k)
  have Ll:=fun k=>z5' (leafT k)
  have Tl:=fun k=>Tz (leafT k)
  unfold wrdT;cases q1:decide (x.text=wordM 1) with
  |true =>
   rw[if_pos (of_decide_eq_true q1)];simp (maxSteps:=9999999) +contextual only[exa,ne_eq,not_false_eq_true,reduceAdd,reduceMul,reduceLT,reduceLeDiff,reduceEqDiff,Int.reduceLT,Int.reduceLE,Int.reduceEq,Int.reduceToNat,exW,exY,A.g0,he,o5x,hk4,w1,P1,hh1',b5x,u32,q1,LF,A.o4,B.o4,Pl,Ll,Tl,fin]
  |false =>
   rw[if_neg (of_decide_eq_false q1)];cases q2:decide (x.text=wordM 2) with
   |true =>
    rw[if_pos (of_decide_eq_true q2)];simp (maxSteps:=9999999) +contextual only[exa,ne_eq,not_false_eq_true,reduceAdd,reduceMul,reduceLT,reduceLeDiff,reduceEqDiff,Int.reduceLT,Int.reduceLE,Int.reduceEq,Int.reduceToNat,exW,exY,A.g0,he,o5x,hk4,w1,P1,hh1',b5x,u32,q1,q2,LF,A.o4,B.o4,Pl,Ll,Tl,fin]
   |false =>
    rw[if_neg (of_decide_eq_false q2)];cases q3:decide (x.text=wordM 3) with
    |true =>
     rw[if_pos (of_decide_eq_true q3)];simp (maxSteps:=9999999) +contextual only[exa,ne_eq,not_false_eq_true,reduceAdd,reduceMul,reduceLT,reduceLeDiff,reduceEqDiff,Int.reduceLT,Int.reduceLE,Int.reduceEq,Int.reduceToNat,exW,exY,A.g0,he,o5x,hk4,w1,P1,hh1',b5x,u32,q1,q2,q3,LF,A.o4,B.o4,Pl,Ll,Tl,fin]
    |false =>
     rw[if_neg (of_decide_eq_false q3)];cases q8:decide (x.text=wordM 8) with
     |true =>
      rw[if_pos (of_decide_eq_true q8)];have U:=R57 8 (nextM s) h1 B.g0 hsp (ow1 (of_decide_eq_true q8));generalize recdM sub L 8 (nextM s)=r at *;have G1:(h1.put (.im 0) (rO L r.2)).get (.im 0)=some (rO L r.2):=Heap.zput_self B.g0 (fun e=>by cases e);have finr:=qCW r.1 (.cells (pcells r.1.row) 0) G1;have Pk:=qBD r.1;have Lk:=z5' r.1;have Tk:=Tz r.1;simp (maxSteps:=9999999) +contextual only[exa,ne_eq,not_false_eq_true,reduceAdd,reduceMul,reduceLT,reduceLeDiff,reduceEqDiff,Int.reduceLT,Int.reduceLE,Int.reduceEq,Int.reduceToNat,exW,exY,A.g0,he,o5x,hk4,w1,P1,hh1',b5x,u32,q1,q2,q3,q8,LF,A.o4,B.o4,Pl,Ll,Tl,U,Pk,Lk,Tk,finr]
     |false =>
      rw[if_neg (of_decide_eq_false q8)];refine Eq.trans ?_ (qPr ok hd hL hsp B ow2);simp (maxSteps:=9999999) +contextual only[exa,ne_eq,not_false_eq_true,reduceAdd,reduceMul,reduceLT,reduceLeDiff,reduceEqDiff,Int.reduceLT,Int.reduceLE,Int.reduceEq,Int.reduceToNat,exW,exY,A.g0,he,o5x,hk4,w1,P1,hh1',b5x,u32,q1,q2,q3,q8,LF,A.o4,B.o4,Pl,Ll,Tl,fin]
end Go.Proofs.YtnlmlcfipbnpgaaDoor.Ab
set_option maxHeartbeats 4000000
namespace Go.Proofs.YtnlmlcfipbnpgaaDoor.Ab
open Go Go.AI
theorem qDC{s:RS}{b:Bool}(h:(mustM s b).e=0):b=true∧s.e=0:=by
 unfold mustM at h;split at h
 ·rename_i hb; exact⟨hb,h⟩
 ·exact absurd h (qFs _ _ (by decide))
theorem qC8{d:Int}{L:List Tok}{s:RS}(h:(hedM d L s).e=0):hedM d L s=s∧begM (peekM L s)=true∧s.e=0∧d≤12:=by
 unfold hedM at h ⊢;split at h
 ·exact absurd h (qFs _ _ (by decide))
 ·rename_i hb;obtain⟨h1,h2⟩:=qDC h;rw[if_neg hb];refine⟨by rw[h1]; rfl,h1,h2,?_⟩;rw[h1,Bool.true_and,decide_eq_true_eq] at hb;omega
theorem qR8{d:Int}{L:List Tok}{sub:RS→TT×RS}{okP:RS→Prop}(ok:SubOK d L sub okP)(hd:0≤d∧d≤100)(hL:L.length≤1000)(s:RS)(I:I1 L s)(o:oneOK sub okP d L s) :
  Om 34 [P0,kI d] [rO L s]=some (kA (oneP sub d L s).1.row,[rO L (oneP sub d L s).2]):=by
 refine(qAB rfl).trans ?_;show lim tab.get S 34 1 0 [P0,kI d] { ims:=[rO L s],owns := .nil }=_;obtain⟨h,A,e⟩:=one0 d L s;rw[e];unfold oneP;by_cases he:(hedM d L s).e=0
 ·obtain⟨h1,h2,h3,h4⟩:=qC8 he;obtain⟨o1,o2⟩:=o he;rw[if_neg (fun h=>h he)];have hp:=I.1 h3;have hsp:(peekM L s).kind≠4→(hedM d L s).p+1≤L.length:=fun hk=>by
   rw[qHG];unfold begM at h2;rw[decide_eq_false hk,Bool.false_and,Bool.or_false,decide_eq_true_eq] at h2;exact(qBr (by rw[h2]; decide)).2
  exact one1 ok hd hL A he (by rw[qHG]; exact hp) hsp o1 o2
 ·rw[if_pos he];have o5x:h.get (.own 5 1)=some (.cells [.p (.int .i64 (peekM L s).kind),.p (.str (peekM L s).text),.p (.int .i64 (peekM L s).n),.p (.int .i64 (peekM L s).pos)] 0):=A.o5;have LF:∀ (β:Type) (kk:TVal→Heap→Option β) (hh:Heap),vop Om (.build z4 []) hh 39 kk=kk (kA zeroT.row) hh:=fun _ _ _=>rfl
  have fin:=qCW zeroT (.cells (pcells zeroT.row) 0) A.g0;have Pl:=qBD zeroT;have Ll:(pcells zeroT.row).length=4:=rfl;have Tl:(pcells zeroT.row).take 4=pcells zeroT.row:=rfl;have A0:=A.g0;generalize hedM d L s=s2 at *;rw[w34_1,b34_1];simp (maxSteps:=9999999) +contextual only[exa,ne_eq,not_false_eq_true,reduceAdd,reduceMul,reduceLT,reduceLeDiff,reduceEqDiff,Int.reduceLT,Int.reduceLE,Int.reduceEq,Int.reduceToNat,exW,exY,A0,he,LF,A.o4,Pl,Ll,Tl,fin]
def Inv(L:List Tok)(sub:RS→TT×RS):Prop:=∀ s,I1 L s→I1 L (sub s).2∧s.p≤(sub s).2.p
theorem qBo{L:List Tok}{sub:RS→TT×RS}(inv:Inv L sub){s:RS}(h:s.p≤L.length):I1 L (fieldM sub L s).2∧s.p≤(fieldM sub L s).2.p:=by
 obtain⟨h1,h2⟩:=qFl h;obtain⟨h3,h4⟩:=inv _ h1;exact⟨h3,by show s.p≤(sub (colM L s)).2.p; omega⟩
theorem qCu{L:List Tok}{s:RS}(x:List UInt8)(h:I1 L s):I1 L (mustM (takeM 4 L s x) (isM 4 L s x))∧s.p≤(mustM (takeM 4 L s x) (isM 4 L s x)).p:=by
 obtain⟨h1,h2⟩:=qHX (k:=4) (x:=x) (by decide) h;exact⟨qH9 _ h1,by rw[qBQ]; exact h2⟩
theorem qH4{L:List Tok}{sub:RS→TT×RS}(inv:Inv L sub)(x:List UInt8):∀ (f:Nat) (s:RS) (acc:Es),I1 L s→I1 L (loopM sub L x f s acc).2∧s.p≤(loopM sub L x f s acc).2.p
 |0,s,acc,h=>⟨h,Nat.le_refl _⟩
 |f+1,s,acc,h=>by
  unfold loopM;split
  ·rename_i hi;have hl:=(qBj (by decide) hi).2;have hn:(nextM s).p≤L.length:=hl;obtain⟨h1,h2⟩:=qBo inv hn;obtain⟨h3,h4⟩:=qH4 inv x f _ (acc++[(fieldM sub L (nextM s)).1]) h1;refine⟨h3,?_⟩;have:(nextM s).p=s.p+1:=rfl;omega
  ·exact qCu x h
theorem qQI{L:List Tok}{sub:RS→TT×RS}(inv:Inv L sub)(x:List UInt8){s:RS}(h:s.p≤L.length):I1 L (rowM sub L x s).2∧s.p≤(rowM sub L x s).2.p:=by
 unfold rowM;split
 ·rename_i hi;have hl:=(qBj (by decide) hi).2;exact⟨⟨fun _=>hl,by show s.p+1≤_; omega⟩,by show s.p≤s.p+1; omega⟩
 ·obtain⟨h1,h2⟩:=qBo inv h;obtain⟨h3,h4⟩:=qH4 inv x (L.length+2) _ [(fieldM sub L s).1] h1;exact⟨h3,by omega⟩
theorem qQt{L:List Tok}{s:RS}:s.p≤(opnM L s).p:=by
 unfold opnM;rw[qBQ];unfold takeM;split
 ·show s.p≤s.p+1; omega
 ·exact Nat.le_refl _
theorem qJG{L:List Tok}{sub:RS→TT×RS}(inv:Inv L sub)(kd:Int){s:RS}(h:s.p≤L.length):I1 L (recdM sub L kd s).2∧s.p≤(recdM sub L kd s).2.p:=by
 obtain⟨h1,h2⟩:=qQI inv [125] (qFI h);have h3:=qQt (L:=L) (s:=s);exact⟨⟨h1.1,h1.2⟩,by show s.p≤(rowM sub L [125] (opnM L s)).2.p; omega⟩
theorem qHZ{L:List Tok}{sub:RS→TT×RS}(inv:Inv L sub)(k:Int){s:RS}(h:s.p≤L.length):I1 L (ofM sub L k s).2∧s.p≤(ofM sub L k s).2.p:=by
 obtain⟨h1,h2⟩:=qCu (L:=L) (s:=s) [60] ⟨fun _=>h,by omega⟩;obtain⟨h3,h4⟩:=inv _ h1;obtain⟨h5,h6⟩:=qCu [62] h3
 exact⟨h5,by
  show s.p≤(mustM (takeM 4 L (sub (angM L s)).2 [62]) (isM 4 L (sub (angM L s)).2 [62])).p;have h2':s.p≤(angM L s).p:=h2;have h4':(angM L s).p≤(sub (angM L s)).2.p:=h4;have h6':(sub (angM L s)).2.p≤(mustM (takeM 4 L (sub (angM L s)).2 [62]) (isM 4 L (sub (angM L s)).2 [62])).p:=h6
  omega⟩
theorem qPi{L:List Tok}{sub:RS→TT×RS}(inv:Inv L sub)(w:List UInt8){s:RS}(h:s.p≤L.length):I1 L (wrdT sub L w s).2∧s.p≤(wrdT sub L w s).2.p:=by
 have me:I1 L s∧s.p≤s.p:=⟨⟨fun _=>h,by omega⟩,Nat.le_refl _⟩;unfold wrdT;split
 ·exact me
 split
 ·exact me
 split
 ·exact me
 split
 ·exact qJG inv 8 h
 split
 ·exact qHZ inv 4 h
 split
 ·exact qHZ inv 5 h
 split
 ·exact qHZ inv 6 h
 ·exact me
theorem qQd{L:List Tok}{sub:RS→TT×RS}(inv:Inv L sub)(d:Int):Inv L (oneP sub d L):=by
 intro s I;unfold oneP;by_cases he:(hedM d L s).e=0
 ·obtain⟨h1,h2,h3,h4⟩:=qC8 he;rw[if_neg (fun h=>h he),h1];have hp:=I.1 h3;by_cases hk:(peekM L s).kind=4
  ·rw[if_pos hk]; exact qJG inv 7 hp
  ·rw[if_neg hk];unfold begM at h2;rw[decide_eq_false hk,Bool.false_and,Bool.or_false,decide_eq_true_eq] at h2;have hl:=(qBr (L:=L) (s:=s) (by rw[h2]; decide)).2;obtain⟨h5,h6⟩:=qPi inv (peekM L s).text (s:=nextM s) (by show s.p+1≤_; omega);have:(nextM s).p=s.p+1:=rfl;exact⟨h5,by omega⟩
 ·rw[if_pos he];refine⟨⟨fun h=>absurd h he,by rw[qHG]; exact I.2⟩,by rw[qHG]; exact Nat.le_refl _⟩
def oneF(L:List Tok):Nat→Int→RS→TT×RS
 |0,_=>fun s=>(zeroT,s)
 |n+1,d=>oneP (oneF L n (d+1)) d L
def okF(L:List Tok):Nat→Int→RS→Prop
 |0,_=>fun _=>False
 |n+1,d=>oneOK (oneF L n (d+1)) (okF L n (d+1)) d L
theorem qCc(L:List Tok):∀ (n:Nat) (d:Int),Inv L (oneF L n d)
 |0,d=>fun s I=>⟨I,Nat.le_refl _⟩
 |n+1,d=>qQd (qCc L n (d+1)) d
theorem qJr{L:List Tok}(hL:L.length≤1000):∀ (n:Nat) (d:Int),0≤d→d+n≤100→∀ s,I1 L s→okF L n d s→Om 34 [P0,kI d] [rO L s]=some (kA (oneF L n d s).1.row,[rO L (oneF L n d s).2])
 |0,d,_,_,s,I,o=>o.elim
 |n+1,d,h0,h1,s,I,o =>
  qR8 (sub:=oneF L n (d+1)) (okP:=okF L n (d+1)) ⟨fun s I o=>qJr hL n (d+1) (by omega) (by omega) s I o,qCc L n (d+1)⟩ ⟨h0,by omega⟩ hL s I o
end Go.Proofs.YtnlmlcfipbnpgaaDoor.Ab
set_option maxHeartbeats 4000000
namespace Go.Proofs.YtnlmlcfipbnpgaaDoor.Ab
open Go Go.AI
def wordsM(src:List UInt8):List Tok×Int:=match tokensM src with
 |.error e=>([],e)
 |.ok l=>(l,0)
theorem qGL(src:List UInt8):toksVal (tokensM src) = .tup [.c (.p (tksP (wordsM src).1)),.c (.p (.int .i64 (wordsM src).2))]:=by
 unfold wordsM;cases tokensM src <;> rfl
abbrev s0M(src:List UInt8):RS:=⟨0,(wordsM src).2,false⟩
theorem qIJ(L:List Tok)(s:RS):Rooted [rO L s]:=Star.rooted ⟨(qAG L s).1,(fun e=>by cases e),(fun o ho=>by cases ho),by decide⟩
theorem qQ1(src:List UInt8):Om 33 [kS src] []=some (.v (.c (.ptr (.im 0) 0)),[rO (wordsM src).1 (s0M src)]):=by
 refine(qAB rfl).trans ?_;show lim tab.get S 33 0 0 [kS src] h0=some (_,[rO (wordsM src).1 ⟨0,(wordsM src).2,false⟩]);have c:=fun{β:Type} {k:TVal→Heap→Option β} {h:Heap} {d:Nat}=>qAE (O:=Om) (k:=k) (h:=h) (d:=d) 54 [kS src] _ rfl (qMR src) (by rw[qGL]; rfl)
 rw[qGL] at c;rw[w33_0,b33_0];generalize (wordsM src).1=L at *;generalize (wordsM src).2=e at *;simp (maxSteps:=9999999) +contextual only[exa,ne_eq,not_false_eq_true,reduceAdd,reduceMul,reduceLT,reduceLeDiff,reduceEqDiff,Int.reduceLT,Int.reduceLE,Int.reduceEq,Int.reduceToNat,exW,c];have A:At (h0.own 13 1 (rO L ⟨0,e,false⟩)) [.own 13 1] [rO L ⟨0,e,false⟩]:=by
  refine⟨by simp,rfl,fun i r o e1 e2 => ?_⟩
  match i with
  |0 =>
   cases e1; cases e2;rw[(qAG L _).2];exact Heap.own_get _ 13 1 _ (by decide) (fun e=>by cases e)
  |i+1=>simp at e1
 exact qQb A (qIJ L _) rfl false [.c (.ptr (.own 13 1) 0)] _ rfl rfl
theorem qGk(src:List UInt8):(wordsM src).1.length≤400:=by
 unfold wordsM;cases ht:tokensM src with
 |error e=>simp
 |ok l =>
  show l.length≤400;unfold tokensM at ht;split at ht
  ·cases ht
  ·unfold toksFin at ht;split at ht
   ·cases ht
   ·split at ht
    ·cases ht
    ·cases ht; omega
def typeR(src:List UInt8):TT×RS:=oneF (wordsM src).1 13 1 (s0M src)
def typeE(src:List UInt8):Int:=errM (endM (wordsM src).1 (typeR src).2)
def typeM(src:List UInt8):TT:=if typeE src=0 then (typeR src).1 else zeroT
def typeOK(src:List UInt8):Prop:=okF (wordsM src).1 13 1 (s0M src)
theorem qQ2(src:List UInt8)(ok:typeOK src):Om 16 [kS src] []=some (.tup [.agg (pcells (typeM src).row),.c (.p (.int .i64 (typeE src)))],[]):=by
 have hl:=qGk src;have c34:=qJr (L:=(wordsM src).1) (by omega) 13 1 (by decide) (by decide) (s0M src) ⟨fun _=>Nat.zero_le _,Nat.zero_le _⟩ ok;refine(qAB rfl).trans ?_;show lim tab.get S 16 0 0 [kS src] h0=_;obtain⟨h1,c33,A1,K1,G1,L1⟩:=qOg (O:=Om) (show allB pT [kS src]=true from rfl) (qQ1 src) (qIJ _ _).1 (h0.own 2 1 (.cells z4 0));have e0:(TVal.v (.c (.ptr (.im 0) 0))).ren (back [] [rO (wordsM src).1 (s0M src)].length (newRef (h0.own 2 1 (.cells z4 0)).ims.length))=P0:=rfl;rw[e0] at c33;have g0:h1.get (.im 0)=some (rO (wordsM src).1 (s0M src)):=by
  have:=A1.get 0 (.im 0) _ rfl rfl;rw[(qAG _ _).2] at this;exact this
 have o2:h1.get (.own 2 1)=some (.cells z4 0):=K1 _ _ (Heap.own_get _ 2 1 _ (by decide) (fun e=>by cases e));have gn5:h1.gen 5=0:=(G1 5).trans rfl;unfold typeM typeE typeR;generalize (wordsM src).1=L at *;generalize s0M src=s at *;generalize oneF L 13 1 s=r at *;have U34:∀ (β:Type) (kk:TVal→Heap→Option β) (e:Nat),vcall Om (.v (.c (.func 34 []))) [P0,kI 1] h1 e kk=kk (kA r.1.row) (h1.put (.im 0) (rO L r.2)):=fun β kk e =>
  qAv 34 (.im 0) 0 [] [kI 1] _ _ _ rfl rfl g0 (qAG L _) (qAG L _) (by simp only[exP]) c34
 generalize hh2:h1.put (.im 0) (rO L r.2)=h2 at U34;have g2:h2.get (.im 0)=some (rO L r.2):=by rw[← hh2]; exact Heap.zput_self g0 (fun e=>by cases e)
 generalize hh3:(h2.own 5 1 (.cells z4 0)).own 5 1 (.cells (pcells r.1.row) 0)=h3;have g3:h3.get (.im 0)=some (rO L r.2):=by rw[← hh3]; exact g2
 have gn52:h2.gen 5=0:=by rw[← hh2]; exact gn5
 have o53:h3.get (.own 5 1)=some (.cells (pcells r.1.row) 0):=by rw[← hh3]; exact Heap.own_get _ _ _ _ (by decide) (fun e=>by cases e)
 have o23:h3.get (.own 2 1)=some (.cells z4 0):=by rw[← hh3,← hh2]; exact(Heap.own_get_ne _ 5 _ _ 2 1 (by decide)).trans ((Heap.own_get_ne _ 5 _ _ 2 1 (by decide)).trans o2)
 have U35:=fun(β:Type) (kk:TVal→Heap→Option β) (e:Nat)=>u35 (k:=kk) (d:=e) g3
 have BZ:∀ (β:Type) (kk:TVal→Heap→Option β) (hh:Heap),vop Om (.build z4 []) hh 15 kk=kk (kA zeroT.row) hh:=fun _ _ _=>rfl
 have z5':∀ t:TT,(pcells t.row).length=4:=fun t=>by rw[qAS,TT.row_len]
 have Tz:∀ t:TT,(pcells t.row).take 4=pcells t.row:=fun t=>List.take_of_length_le (by rw[z5']; exact Nat.le_refl _)
 have P1:=qBD r.1;have P0':=qBD zeroT;have L1':=z5' r.1;have L0':=z5' zeroT;have T1:=Tz r.1;have T0:=Tz zeroT;have fz:∀ (t:TT) (e:Int) (h:Heap),vfin true 0 [.agg (pcells t.row),.c (.p (.int .i64 e))] h=some (.tup [.agg (pcells t.row),.c (.p (.int .i64 e))],[]):=fun t e h=>qAI _ _ (by simp only[exP])
 have gn2:(h0.own 2 1 (.cells z4 0)).gen 2=1:=rfl;rw[w16_0,b16_0];by_cases he:errM (endM L r.2)=0
 ·rw[if_pos he];simp (maxSteps:=9999999) +contextual only[exa,ne_eq,not_false_eq_true,reduceAdd,reduceMul,reduceLT,reduceLeDiff,reduceEqDiff,Int.reduceLT,Int.reduceLE,Int.reduceEq,Int.reduceToNat,exW,c33,U34,gn52,hh3,U35,he,o53,o23,P1,L1',T1,fz]
 ·rw[if_neg he];simp (maxSteps:=9999999) +contextual only[exa,ne_eq,not_false_eq_true,reduceAdd,reduceMul,reduceLT,reduceLeDiff,reduceEqDiff,Int.reduceLT,Int.reduceLE,Int.reduceEq,Int.reduceToNat,exW,c33,U34,gn52,hh3,U35,he,o53,o23,BZ,P0',L0',T0,fz]
open Go Go.AI
theorem y14{β:Type}{kt:TVal→Heap→AI.Touch→Option β}{h:Heap}{d:Nat}{x:TT}(ok:TextOK x):vtouch Om (.call (.k (.v (.c (.func 14 [])))) [.k (kA x.row)]) h d kt=kt (kS (txtM x)) h noTouch :=
 qCS 14 [kA x.row] _ (by simp only[exP]) ok (by simp only[exP])
theorem qLO(xs:List (List UInt8))(c:Cell)(G:Bears 1 c (xs.map sRow))(h:Heap)(hs:([123]++Lib.join xs sepC++[125]).length≤1000000000)(hn:xs.length≤1000):lim tab.get S 31 0 3 [.v (.c c)] h=some (kS ([123]++Lib.join xs sepC++[125]),[]):=by
 simp only[List.length_append,List.length_cons,List.length_nil] at hs;have cj:CAL 53 [.v (.c c),kS [44,32]] (kS (Lib.join xs sepC)):=fun{β k h d} =>
  (G.call1 53 [kS [44,32]]).trans (qAE 53 _ _ rfl (qQw xs sepC (by omega) (by omega)) rfl)
 have s1:([123]:List UInt8).length+(Lib.join xs sepC).length≤4611686018427387904:=by simp; omega
 have s2:([123]++Lib.join xs sepC).length+([125]:List UInt8).length≤4611686018427387904:=by simp; omega
 have A1:∀ {β:Type}{h:Heap}{k:TVal→Heap→Option β},vbin .add 0 (kS [123]) (kS (Lib.join xs sepC)) h k=k (kS ([123]++Lib.join xs sepC)) h:=fun{β h k}=>qA0 0 _ _ s1
 have A2:∀ {β:Type}{h:Heap}{k:TVal→Heap→Option β},vbin .add 0 (kS ([123]++Lib.join xs sepC)) (kS [125]) h k=k (kS ([123]++Lib.join xs sepC++[125])) h:=fun{β h k}=>qA0 0 _ _ s2
 rw[w31_3,b31_3];simp only[cj,A1,A2,qAH,qMP]
structure FldH (t:TT) (h:Heap):Prop where
 a1:h.get (.own 1 1)=some (.cells (pcells t.row) 0)
theorem qIx(t:TT)(sm:smT t)(ok:∀ x∈t.kids.list,TextOK x)(hs:(brM t).length≤1000000000) :
  ∀ (i:Nat) (acc:List (List UInt8)) (c:Cell) (h:Heap),acc.length≤i→acc++fldL (t.names.list.drop i) (t.kids.list.drop i)=fldL t.names.list t.kids.list→GS [30] 1 c (acc.map sRow) h→(acc=[]→c = .p .nilslice)→(acc≠[]→∃ r,c = .tsl 1 (acc.map sRow) r)→FldH t h →
   lim tab.get S 31 0 1 [q1,.v (.c c),tsP t.kids,kI (t.kids.len:Int),kI (i:Int)] h=some (kS (brM t),[]):=by
 obtain⟨s1,s2,_⟩:=(qDx t).1 sm;have bears:∀ (acc:List (List UInt8)) (c:Cell),(acc=[]→c = .p .nilslice)→(acc≠[]→∃ r,c = .tsl 1 (acc.map sRow) r)→Bears 1 c (acc.map sRow):=by
  intro acc c h1 h2;by_cases h:acc=[]
  ·exact .inl ⟨by rw[h]; rfl,h1 h⟩
  ·exact .inr ⟨by simpa using h,h2 h⟩
 have fin:∀ (acc:List (List UInt8)) (c:Cell) (h:Heap),acc=fldL t.names.list t.kids.list→Bears 1 c (acc.map sRow)→lim tab.get S 31 0 3 [.v (.c c)] h=some (kS (brM t),[]):=by
  intro acc c h e G;have:=qLO acc c G h (by rw[e]; exact hs) (by rw[e]; have:=qH0 t.names.list t.kids.list; have:t.kids.list.length≤1000:=s2; omega);rw[this,e]; rfl
 refine qB7 t.kids.len (fun i hi acc c h hl he G c0 c1 H => ?_) (fun i hi ihl acc c h hl he G c0 c1 H => ?_) <;> rw[w31_1,b31_1]
 ·have h1:¬ (i:Int)<(t.kids.len:Int):=by omega
  have e1:t.kids.list.drop i=[]:=qBb hi;rw[e1,qGY,List.append_nil] at he;simp (maxSteps:=9999999) +contextual only[exa,ne_eq,not_false_eq_true,reduceAdd,reduceMul,reduceLT,reduceLeDiff,reduceEqDiff,Int.reduceLT,Int.reduceLE,Int.reduceEq,Int.reduceToNat,h1];exact fin acc c h he (bears acc c c0 c1)
 ·have h1:(i:Int)<(t.kids.len:Int):=by omega
  obtain⟨x,hx,dx,mx⟩:=qAd (l:=t.kids.list) (i:=i) hi;have P4:=qC0 _ (TT.row_len x);by_cases h2:(i:Int)<(t.names.len:Int)
  ·obtain⟨n,hn,dn,mn⟩:=qAd (l:=t.names.list) (i:=i) (by show i<t.names.len; omega);rw[dx,dn,fldL] at he;have hm:(n++colC++txtM x)∈fldL t.names.list t.kids.list:=qH1 _ _ i n x hn hx;have hj:=qNb _ _ hm;have hs2:(n++colC++txtM x).length≤1000000000:=by
    unfold brM at hs;simp only[List.length_append,List.length_cons,List.length_nil] at hs hj ⊢;omega
   have hs3:=hs2;simp only[List.length_append] at hs3;have a1:n.length+([58,32]:List UInt8).length≤4611686018427387904:=by simp; omega
   have a2:(n++[58,32]).length+(txtM x).length≤4611686018427387904:=by simp; omega
   have A1:∀ {β:Type}{h:Heap}{k:TVal→Heap→Option β},vbin .add 0 (kS n) (kS [58,32]) h k=k (kS (n++[58,32])) h:=fun{β h k}=>qA0 0 _ _ a1
   have A2:∀ {β:Type}{h:Heap}{k:TVal→Heap→Option β},vbin .add 0 (kS (n++[58,32])) (kS (txtM x)) h k=k (kS (n++[58,32]++txtM x)) h:=fun{β h k}=>qA0 0 _ _ a2
   have H5:FldH t ((h.own 5 (h.gen 5+1) (.cells z4 0)).own 5 (h.gen 5+1) (.cells (pcells x.row) 0)):=⟨(Heap.own_get_ne _ 5 _ _ 1 1 (by decide)).trans ((Heap.own_get_ne _ 5 _ _ 1 1 (by decide)).trans H.a1)⟩;have g5:((h.own 5 (h.gen 5+1) (.cells z4 0)).own 5 (h.gen 5+1) (.cells (pcells x.row) 0)).get (.own 5 (h.gen 5+1))=some (.cells (pcells x.row) 0):=qCa _ 5 _ _ 0 (by decide);have G5:GS [30] 1 c (acc.map sRow) ((h.own 5 (h.gen 5+1) (.cells z4 0)).own 5 (h.gen 5+1) (.cells (pcells x.row) 0)):=(G.own _ _ (by decide)).own _ _ (by decide);have B:∀ {β:Type}{O:Oracle}{h:Heap}{d:Nat}{kt:TVal→Heap→AI.Touch→Option β},vtouch O (.bslice 1 1 [.p (.str [])] [(0,.k (kS (n++[58,32]++txtM x)))] false) h d kt=kt (kSl 1 true [[.str (n++[58,32]++txtM x)]]) h noTouch:=qD1 _ _ rfl;obtain⟨c',h',t',G',e',T',K',I',X'⟩:=qCR (d:=30) (by':=16) (new:=[[.str (n++[58,32]++txtM x)]]) (b := .slice 1 true [[.str (n++[58,32]++txtM x)]]) (.inr ⟨_,rfl⟩) G5 (by decide) (fun r hr=>by simp at hr; rw[hr]; rfl) (by simp; omega) (by decide);have H':FldH t h':=⟨K' 1 1 _ (by decide) H5.a1⟩;simp (maxSteps:=9999999) +contextual only[A1,A2,exa,ne_eq,not_false_eq_true,reduceAdd,reduceMul,reduceLT,reduceLeDiff,reduceEqDiff,Int.reduceLT,Int.reduceLE,Int.reduceEq,Int.reduceToNat,exY,h1,h2,hx,hn,P4,H.a1,H5.a1,g5,y14 (ok x mx),B,e'];rw[w31_2,b31_2];simp (maxSteps:=9999999) +contextual only[exa,ne_eq,not_false_eq_true,reduceAdd,reduceMul,reduceLT,reduceLeDiff,reduceEqDiff,Int.reduceLT,Int.reduceLE,Int.reduceEq,Int.reduceToNat,qBW i (by omega)];refine ihl (acc++[n++[58,32]++txtM x]) c' h' (by simp; omega) (by rw[List.append_assoc]; exact he) (by rw[List.map_append]; exact G') (fun e=>absurd e (by simp)) (fun _ => ?_) H';obtain⟨r,e⟩:=X' (.inl (by simp));exact⟨r,by rw[e,List.map_append]; rfl⟩
  ·have e2:t.names.list.drop i=[]:=qBb (by show t.names.len≤i; omega);have e3:t.names.list.drop (i+1)=[]:=qBb (by show t.names.len≤i+1; omega);rw[e2,qEo,List.append_nil] at he;have H5:FldH t ((h.own 5 (h.gen 5+1) (.cells z4 0)).own 5 (h.gen 5+1) (.cells (pcells x.row) 0)):=⟨(Heap.own_get_ne _ 5 _ _ 1 1 (by decide)).trans ((Heap.own_get_ne _ 5 _ _ 1 1 (by decide)).trans H.a1)⟩;simp (maxSteps:=9999999) +contextual only[exa,ne_eq,not_false_eq_true,reduceAdd,reduceMul,reduceLT,reduceLeDiff,reduceEqDiff,Int.reduceLT,Int.reduceLE,Int.reduceEq,Int.reduceToNat,exY,h1,h2,hx,P4,H.a1,H5.a1];rw[w31_2,b31_2];simp (maxSteps:=9999999) +contextual only[exa,ne_eq,not_false_eq_true,reduceAdd,reduceMul,reduceLT,reduceLeDiff,reduceEqDiff,Int.reduceLT,Int.reduceLE,Int.reduceEq,Int.reduceToNat,qBW i (by omega)];exact ihl acc c _ (by omega) (by rw[e3,qEo,List.append_nil]; exact he) ((G.own _ _ (by decide)).own _ _ (by decide)) c0 c1 H5
theorem qHW(t:TT)(sm:smT t)(ok:∀ x∈t.kids.list,TextOK x)(hs:(brM t).length≤1000000000):Om 31 [kA t.row] []=some (kS (brM t),[]):=by
 refine(qAB rfl).trans ?_;show lim tab.get S 31 0 0 [kA t.row] h0=_;rw[w31_0,b31_0];simp (maxSteps:=9999999) +contextual only[exa,ne_eq,not_false_eq_true,reduceAdd,reduceMul,reduceLT,reduceLeDiff,reduceEqDiff,Int.reduceLT,Int.reduceLE,Int.reduceEq,Int.reduceToNat];exact qIx t sm ok hs 0 [] (.p .nilslice) _ (Nat.le_refl _) rfl (.inl ⟨rfl,rfl⟩) (fun _=>rfl) (fun e=>absurd rfl e) ⟨rfl⟩
def wrB:Nat→TT→Prop
 |0,_=>False
 |n+1,t=>(txtM t).length≤1000000000∧(brM t).length≤1000000000∧(angL t.kids.list).length≤1000000000∧∀ x∈t.kids.list,wrB n x
theorem qJz:∀ (n:Nat) (t:TT),wrB n t→smT t→TextOK t
 |0,_,h,_=>h.elim
 |n+1,t,hw,sm=>by
  obtain⟨w1,w2,w3,w4⟩:=hw;obtain⟨s1,s2,s3⟩:=(qDx t).1 sm;have ok:∀ x∈t.kids.list,TextOK x:=fun x hx=>qJz n x (w4 x hx) (s3 x hx)
  have c31:CAL 31 [kA t.row] (kS (brM t)):=qAE 31 _ _ (by simp only[exP]) (qHW t sm ok w2) rfl;have k31:∀ {β:Type}{kt:TVal→Heap→AI.Touch→Option β}{h:Heap}{d:Nat},vtouch Om (.call (.k (.v (.c (.func 31 [])))) [.k (kA t.row)]) h d kt=kt (kS (brM t)) h noTouch:=qCS 31 [kA t.row] _ (by simp only[exP]) (qHW t sm ok w2) rfl;refine(qAB rfl).trans ?_;show lim tab.get S 14 0 0 [kA t.row] h0=_;rw[w14_0,b14_0,qBM];by_cases k9:t.kind=9
  ·rw[if_pos k9];simp (maxSteps:=9999999) +contextual only[exa,ne_eq,not_false_eq_true,reduceAdd,reduceMul,reduceLT,reduceLeDiff,reduceEqDiff,Int.reduceLT,Int.reduceLE,Int.reduceEq,Int.reduceToNat,k9,oneOf]
  rw[if_neg k9];by_cases k7:t.kind=7
  ·rw[if_pos k7];simp (maxSteps:=9999999) +contextual only[exa,ne_eq,not_false_eq_true,reduceAdd,reduceMul,reduceLT,reduceLeDiff,reduceEqDiff,Int.reduceLT,Int.reduceLE,Int.reduceEq,Int.reduceToNat,k7,c31,oneOf]
  rw[if_neg k7];by_cases k8:t.kind=8
  ·rw[if_pos k8];have u8:wordM 8=[85,110,105,111,110]:=rfl;have A1:∀ {β:Type}{h:Heap}{k:TVal→Heap→Option β},vbin .add 0 (kS [85,110,105,111,110]) (kS [32]) h k=k (kS [85,110,105,111,110,32]) h:=fun{β h k}=>qA0 0 _ _ (by decide)
   have A2:∀ {β:Type}{h:Heap}{k:TVal→Heap→Option β},vbin .add 0 (kS [85,110,105,111,110,32]) (kS (brM t)) h k=k (kS ([85,110,105,111,110,32]++brM t)) h:=fun{β h k}=>qA0 0 _ _ (by simp; omega)
   simp (maxSteps:=9999999) +contextual only[A1,A2,exa,ne_eq,not_false_eq_true,reduceAdd,reduceMul,reduceLT,reduceLeDiff,reduceEqDiff,Int.reduceLT,Int.reduceLE,Int.reduceEq,Int.reduceToNat,k8,y32,u8,k31,oneOf]
  rw[if_neg k8];simp (maxSteps:=9999999) +contextual only[exa,ne_eq,not_false_eq_true,reduceAdd,reduceMul,reduceLT,reduceLeDiff,reduceEqDiff,Int.reduceLT,Int.reduceLE,Int.reduceEq,Int.reduceToNat,k9,k7,k8,u32];have ht:txtM t=wordM t.kind++angL t.kids.list:=by rw[qBM,if_neg k9,if_neg k7,if_neg k8]
  have:=qNc [] t.kids s2 ok 0 (wordM t.kind) ((h0.own 1 1 (.cells (pcells t.row) 0))) (by rw[List.drop_zero,← ht]; exact w1);rw[List.drop_zero] at this;exact this
end Go.Proofs.YtnlmlcfipbnpgaaDoor.Ab
set_option maxHeartbeats 4000000
namespace Go.Proofs.YtnlmlcfipbnpgaaDoor.Ab
open Go Go.AI
def RSameOK(a b:TT):Prop:=Om 17 [kA a.row,kA b.row] []=some (kB (sameT a b),[])
abbrev s2P:TVal := .v (.c (.ptr (.own 2 1) 0))
abbrev s3P:TVal := .v (.c (.ptr (.own 3 1) 0))
abbrev tC(a:TT):List Cell:=[.p (.int .i64 a.kind),.p (.str a.name),.p (slP 1 sRow a.names),.p (slP 4 TT.row a.kids)]
theorem qO4(a:TT):pcells a.row=tC a:=by rw[TT.row_eq]; rfl
theorem qN1(a b:TT)(hab:a.names.len=b.names.len)(hl:a.names.len≤1000)(h:Heap)(g2:h.get (.own 2 1)=some (.cells (tC a) 0))(g3:h.get (.own 3 1)=some (.cells (tC b) 0)) :
  ∀ i:Nat,lim tab.get S 17 0 1 [s2P,s3P,kI (i:Int)] h=if a.names.list.drop i=b.names.list.drop i then lim tab.get S 17 0 3 [s2P,s3P,kI 0] h else some (kB false,[]):=by
 refine qB7 a.names.len (fun i hi => ?_) (fun i hi ihl => ?_) <;> rw[w17_1,b17_1]
 ·have h1:¬ (i:Int)<(a.names.len:Int):=by omega
  have e1:a.names.list.drop i=[]:=qBb hi;have e2:b.names.list.drop i=[]:=qBb (by show b.names.len≤i; omega);rw[e1,e2,if_pos rfl];simp (maxSteps:=9999999) +contextual only[exa,ne_eq,not_false_eq_true,reduceAdd,reduceMul,reduceLT,reduceLeDiff,reduceEqDiff,Int.reduceLT,Int.reduceLE,Int.reduceEq,Int.reduceToNat,exR,g2,g3,h1];rw[w17_2,b17_2]
 ·have h1:(i:Int)<(a.names.len:Int):=by omega
  obtain⟨x,hx,dx,mx⟩:=qAd (l:=a.names.list) (i:=i) hi;obtain⟨y,hy,dy,my⟩:=qAd (l:=b.names.list) (i:=i) (by show i<b.names.len; omega);rw[dx,dy];by_cases hxy:x=y
  ·subst hxy;have:(x::a.names.list.drop (i+1)=x::b.names.list.drop (i+1))=(a.names.list.drop (i+1)=b.names.list.drop (i+1)):=by simp
   simp only[this];rw[← ihl];simp (maxSteps:=9999999) +contextual only[exa,ne_eq,not_false_eq_true,reduceAdd,reduceMul,reduceLT,reduceLeDiff,reduceEqDiff,Int.reduceLT,Int.reduceLE,Int.reduceEq,Int.reduceToNat,exR,g2,g3,h1,hx,hy,qBW i (by omega)]
  ·rw[if_neg (by simp[hxy])];simp (maxSteps:=9999999) +contextual only[exa,ne_eq,not_false_eq_true,reduceAdd,reduceMul,reduceLT,reduceLeDiff,reduceEqDiff,Int.reduceLT,Int.reduceLE,Int.reduceEq,Int.reduceToNat,exR,g2,g3,h1,hx,hy,hxy,oneOf]
theorem qMw(a b:TT)(hab:a.kids.len=b.kids.len)(hl:a.kids.len≤1000)(ok:∀ x∈a.kids.list,∀ y∈b.kids.list,RSameOK x y)(h:Heap)(g2:h.get (.own 2 1)=some (.cells (tC a) 0))(g3:h.get (.own 3 1)=some (.cells (tC b) 0)) :
  ∀ i:Nat,lim tab.get S 17 0 3 [s2P,s3P,kI (i:Int)] h=some (kB (sameL (a.kids.list.drop i) (b.kids.list.drop i)),[]):=by
 refine qB7 a.kids.len (fun i hi => ?_) (fun i hi ihl => ?_) <;> rw[w17_3,b17_3]
 ·have h1:¬ (i:Int)<(a.kids.len:Int):=by omega
  have e1:a.kids.list.drop i=[]:=qBb hi;have e2:b.kids.list.drop i=[]:=qBb (by show b.kids.len≤i; omega);rw[e1,e2];simp (maxSteps:=9999999) +contextual only[exa,ne_eq,not_false_eq_true,reduceAdd,reduceMul,reduceLT,reduceLeDiff,reduceEqDiff,Int.reduceLT,Int.reduceLE,Int.reduceEq,Int.reduceToNat,exR,g2,g3,h1,oneOf,sameL]
 ·have h1:(i:Int)<(a.kids.len:Int):=by omega
  obtain⟨x,hx,dx,mx⟩:=qAd (l:=a.kids.list) (i:=i) hi;obtain⟨y,hy,dy,my⟩:=qAd (l:=b.kids.list) (i:=i) (by show i<b.kids.len; omega);rw[dx,dy,sameL];have cc:CAL 17 [kA x.row,kA y.row] (kB (sameT x y)):=qAE 17 _ _ (by simp only[exP]) (ok x mx y my) rfl;cases hs:sameT x y
  ·simp (maxSteps:=9999999) +contextual only[exa,ne_eq,not_false_eq_true,reduceAdd,reduceMul,reduceLT,reduceLeDiff,reduceEqDiff,Int.reduceLT,Int.reduceLE,Int.reduceEq,Int.reduceToNat,exR,g2,g3,h1,hx,hy,cc,hs,oneOf]
  ·simp (maxSteps:=9999999) +contextual only[exa,ne_eq,not_false_eq_true,reduceAdd,reduceMul,reduceLT,reduceLeDiff,reduceEqDiff,Int.reduceLT,Int.reduceLE,Int.reduceEq,Int.reduceToNat,exR,g2,g3,h1,hx,hy,cc,hs,qBW i (by omega),ihl]
theorem qOS:∀ (n:Nat) (a b:TT),SizeOf.sizeOf a<n→smT a→smT b→RSameOK a b:=by
 intro n
 induction n with
 |zero=>intro a b h; omega
 |succ n ih =>
  intro a b hs sa sb;obtain⟨a1,a2,a3⟩:=(qDx a).1 sa;obtain⟨b1,b2,b3⟩:=(qDx b).1 sb;have ok:∀ x∈a.kids.list,∀ y∈b.kids.list,RSameOK x y:=fun x hx y hy=>ih x y (by have:=TT.mem_size hx; omega) (a3 x hx) (b3 y hy)
  refine(qAB rfl).trans ?_;show lim tab.get S 17 0 0 [kA a.row,kA b.row] h0=_;rw[w17_0,b17_0,qHM];rw[show kA a.row = .v (.agg (tC a)) by rw[← qO4],show kA b.row = .v (.agg (tC b)) by rw[← qO4]];by_cases h1:a.kind=b.kind
  ·by_cases h2:a.name=b.name
   ·by_cases h3:(a.names.len:Int)=(b.names.len:Int)
    ·by_cases h4:(a.kids.len:Int)=(b.kids.len:Int)
     ·have NL:=qN1 a b (by omega) a1 ((h0.own 2 1 (.cells (tC a) 0)).own 3 1 (.cells (tC b) 0)) rfl rfl 0;have KL:=qMw a b (by omega) a2 ok ((h0.own 2 1 (.cells (tC a) 0)).own 3 1 (.cells (tC b) 0)) rfl rfl 0;rw[List.drop_zero,List.drop_zero] at NL KL;have hh:lim tab.get S 17 0 1 [s2P,s3P,kI 0] ((h0.own 2 1 (.cells (tC a) 0)).own 3 1 (.cells (tC b) 0))=some (kB (((decide (a.kind=b.kind)&&decide (a.name=b.name))&&decide (a.names.list=b.names.list))&&sameL a.kids.list b.kids.list),[]):=by
       refine NL.trans ?_;by_cases h5:a.names.list=b.names.list
       ·rw[if_pos h5];refine KL.trans ?_;rw[decide_eq_true h1,decide_eq_true h2,decide_eq_true h5]; rfl
       ·rw[if_neg h5,decide_eq_false h5];rw[Bool.and_false,Bool.false_and]
      rw[← hh];simp (maxSteps:=9999999) +contextual only[exa,ne_eq,not_false_eq_true,reduceAdd,reduceMul,reduceLT,reduceLeDiff,reduceEqDiff,Int.reduceLT,Int.reduceLE,Int.reduceEq,Int.reduceToNat,exR,h1,h2,h3,h4]
     ·have h5:sameL a.kids.list b.kids.list=false:=qGw _ _ (fun e=>h4 (by show((a.kids.list.length:Nat):Int)=_; rw[e]; rfl));rw[h5,Bool.and_false];simp (maxSteps:=9999999) +contextual only[exa,ne_eq,not_false_eq_true,reduceAdd,reduceMul,reduceLT,reduceLeDiff,reduceEqDiff,Int.reduceLT,Int.reduceLE,Int.reduceEq,Int.reduceToNat,exR,h1,h2,h3,h4,oneOf]
    ·have h5:a.names.list≠b.names.list:=fun e=>h3 (by show((a.names.list.length:Nat):Int)=_; rw[e]; rfl)
     rw[decide_eq_false h5,Bool.and_false,Bool.false_and];simp (maxSteps:=9999999) +contextual only[exa,ne_eq,not_false_eq_true,reduceAdd,reduceMul,reduceLT,reduceLeDiff,reduceEqDiff,Int.reduceLT,Int.reduceLE,Int.reduceEq,Int.reduceToNat,exR,h1,h2,h3,oneOf]
   ·simp (maxSteps:=9999999) +contextual only[exa,ne_eq,not_false_eq_true,reduceAdd,reduceMul,reduceLT,reduceLeDiff,reduceEqDiff,Int.reduceLT,Int.reduceLE,Int.reduceEq,Int.reduceToNat,exR,h1,h2,oneOf]
  ·simp (maxSteps:=9999999) +contextual only[exa,ne_eq,not_false_eq_true,reduceAdd,reduceMul,reduceLT,reduceLeDiff,reduceEqDiff,Int.reduceLT,Int.reduceLE,Int.reduceEq,Int.reduceToNat,exR,h1,oneOf]
end Go.Proofs.YtnlmlcfipbnpgaaDoor.Ab
set_option maxHeartbeats 4000000
namespace Go.Proofs.YtnlmlcfipbnpgaaDoor.Ab
open Go Go.AI
def mixL:List (List UInt8):=[[100,97,116,97],[116,121,112,101],[102,110],[73,110,116],[66,111,111,108],[84,101,120,116],[76,105,115,116,60],[77,97,112,60],[79,112,116,60],[62],[123],[125],[85,110,105,111,110],[97],[98],[58],[44],[59],[61],[40],[41],[45,62],[65],[55],[34,120,34]]
def pieM(n:Int):List UInt8:=mixL.getD (withinM n 25).toNat []
def mixW(n:Int):List UInt8:=pieM n++[32]
def mixM(l:List Int):List UInt8:=(l.take 50).flatMap mixW
theorem qNB(n:Int):mixL[(withinM n 25).toNat]?=some (pieM n):=by
 have hb:=qAg n 25 (by decide);have:(withinM n 25).toNat<mixL.length:=by show _<25; omega
 unfold pieM;rw[List.getD_eq_getElem?_getD,List.getElem?_eq_getElem this]; rfl
theorem qJT(n:Int):(pieM n).length≤5:=by
 have hm:pieM n∈mixL:=List.mem_of_getElem? (qNB n);have:∀ x∈mixL,x.length≤5:=by decide
 exact this _ hm
abbrev IsP(s:Sl Int):TVal := .v (.c (.p (slP 1 iRow s)))
abbrev mixP:TVal:=kSl 1 true (mixL.map sRow)
theorem qKl{β:Type}{h:Heap}{k:TVal→Heap→Option β}(a b:List UInt8)(hl:a.length+b.length≤4611686018427387904):vbin .add 0 (kS a) (kS b) h k=k (kS (a++b)) h:=by
 simp (config:={ maxSteps:=10000000 }) only[exa,ne_eq,not_false_eq_true,reduceAdd,reduceMul,reduceLT,reduceLeDiff,reduceEqDiff,Int.reduceLT,Int.reduceLE,Int.reduceEq,Int.reduceToNat,decide_eq_true hl]
theorem qIA(s:Sl Int)(h:Heap):∀ (m i:Nat) (acc:List UInt8),i+m=50→acc.length≤10*i →
  lim tab.get S 15 0 1 [IsP s,mixP,kS acc,kI (i:Int)] h=some (kS (acc++((s.list.drop i).take m).flatMap mixW),[])
 |0,i,acc,hi,ha=>by
  have q:¬ (i:Int)<50:=by omega
  rw[w15_1,b15_1,List.take_zero,List.flatMap_nil,List.append_nil];by_cases h1:(i:Int)<(s.len:Int)
  ·simp (maxSteps:=9999999) +contextual only[exa,ne_eq,not_false_eq_true,reduceAdd,reduceMul,reduceLT,reduceLeDiff,reduceEqDiff,Int.reduceLT,Int.reduceLE,Int.reduceEq,Int.reduceToNat,h1,q,oneOf]
  ·simp (maxSteps:=9999999) +contextual only[exa,ne_eq,not_false_eq_true,reduceAdd,reduceMul,reduceLT,reduceLeDiff,reduceEqDiff,Int.reduceLT,Int.reduceLE,Int.reduceEq,Int.reduceToNat,h1,q,oneOf]
 |m+1,i,acc,hi,ha=>by
  have q:(i:Int)<50:=by omega
  rw[w15_1,b15_1];by_cases h1:(i:Int)<(s.len:Int)
  ·obtain⟨x,hx,dx,mx⟩:=qAd (l:=s.list) (i:=i) (by show i<s.len; omega);have hb:=qAg x 25 (by decide);have hp:=qNB x;have pl:=qJT x;have AT:∀ (β:Type) (kk:TVal→Heap→Option β) (hh:Heap),viaddr 1 mixP (kI (withinM x 25)) hh kk=kk (.v (.c (.p (.pptr (sRow (pieM x)) 0)))) hh:=fun β kk hh=>by
    have:(mixL.map sRow)[(withinM x 25).toNat]?=some (sRow (pieM x)):=by rw[List.getElem?_map,hp]; rfl
    have e:=qDp (h:=hh) (k:=kk) 1 true (mixL.map sRow) (withinM x 25).toNat _ this
    rwa [show(((withinM x 25).toNat:Nat):Int)=withinM x 25 by omega] at e
   have LN:∀ (β:Type) (kk:TVal→Heap→Option β) (hh:Heap),vlen Om 2 mixP hh 24 kk=kk (kI 25) hh:=fun _ _ _=>rfl
   have U:=fun(β:Type) (kk:TVal→Heap→Option β) (hh:Heap) (d:Nat)=>u19 (k:=kk) (h:=hh) (d:=d) x 25 (by decide) (by decide)
   have V1:∀ (β:Type) (kk:TVal→Heap→Option β) (hh:Heap),vbin .add 0 (kS acc) (kS (pieM x)) hh kk=kk (kS (acc++pieM x)) hh:=fun β kk hh=>qKl _ _ (by omega)
   have V2:∀ (β:Type) (kk:TVal→Heap→Option β) (hh:Heap),vbin .add 0 (kS (acc++pieM x)) (kS [32]) hh kk=kk (kS (acc++pieM x++[32])) hh:=fun β kk hh=>qKl _ _ (by simp; omega)
   rw[dx,List.take_succ_cons,List.flatMap_cons];have ih:=qIA s h m (i+1) (acc++mixW x) (by omega) (by unfold mixW; simp; omega);rw[show acc++(mixW x++((s.list.drop (i+1)).take m).flatMap mixW)=acc++mixW x++((s.list.drop (i+1)).take m).flatMap mixW by simp];rw[← ih];unfold mixW;rw[← List.append_assoc];generalize hmp:mixP=MP at *;generalize pieM x=px at *;simp (maxSteps:=9999999) +contextual only[exa,ne_eq,not_false_eq_true,reduceAdd,reduceMul,reduceLT,reduceLeDiff,reduceEqDiff,Int.reduceLT,Int.reduceLE,Int.reduceEq,Int.reduceToNat,h1,q,hx,LN,U,AT,V1,V2,qBW i (by omega)]
  ·have e:s.list.drop i=[]:=List.drop_eq_nil_of_le (by show s.len≤i; omega);rw[e,List.take_nil,List.flatMap_nil,List.append_nil];simp (maxSteps:=9999999) +contextual only[exa,ne_eq,not_false_eq_true,reduceAdd,reduceMul,reduceLT,reduceLeDiff,reduceEqDiff,Int.reduceLT,Int.reduceLE,Int.reduceEq,Int.reduceToNat,h1,oneOf]
theorem qRn(s:Sl Int):Om 15 [IsP s] []=some (kS (mixM s.list),[]):=by
 refine(qAB rfl).trans ?_;show lim tab.get S 15 0 0 [IsP s] h0=_;have BS:∀ (β:Type) (kk:TVal→Heap→Option β) (hh:Heap),vop Om (.bslice 1 25 [.p (.str [])] [(0,.k (kS [100,97,116,97])),(1,.k (kS [116,121,112,101])),(2,.k (kS [102,110])),(3,.k (kS [73,110,116])),(4,.k (kS [66,111,111,108])),(5,.k (kS [84,101,120,116])),(6,.k (kS [76,105,115,116,60])),(7,.k (kS [77,97,112,60])),(8,.k (kS [79,112,116,60])),(9,.k (kS [62])),(10,.k (kS [123])),(11,.k (kS [125])),(12,.k (kS [85,110,105,111,110])),(13,.k (kS [97])),(14,.k (kS [98])),(15,.k (kS [58])),(16,.k (kS [44])),(17,.k (kS [59])),(18,.k (kS [61])),(19,.k (kS [40])),(20,.k (kS [41])),(21,.k (kS [45,62])),(22,.k (kS [65])),(23,.k (kS [55])),(24,.k (kS [34,120,34]))] false) hh 6 kk=kk mixP hh:=fun _ _ _=>qAU _ _ rfl
 rw[w15_0,b15_0,BS];have:=qIA s h0 50 0 [] (by omega) (by decide);rw[List.drop_zero,List.nil_append] at this;exact this
theorem u15{β:Type}{k:TVal→Heap→Option β}{h:Heap}{d:Nat}(s:Sl Int):vcall Om (.v (.c (.func 15 []))) [IsP s] h d k=k (kS (mixM s.list)) h:=qAE 15 _ _ (by simp only[exP]) (qRn s) rfl
theorem qPu(l:List Int):(mixM l).length≤300:=by
 unfold mixM;have:∀ l:List Int,(l.flatMap mixW).length≤6*l.length:=by
  intro l
  induction l with
  |nil=>exact Nat.zero_le _
  |cons x l ih =>
   have:=qJT x;rw[List.flatMap_cons,List.length_append,List.length_cons];unfold mixW at ih ⊢;simp at ih ⊢; omega
 have h2:=this (l.take 50);have h3:(l.take 50).length≤50:=by simp; omega
 omega
end Go.Proofs.YtnlmlcfipbnpgaaDoor.Ab
