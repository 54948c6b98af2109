/- Own work. Condition: what each theorem names. -/
import Derived.Test.YtnlmlcfipbnpgaaDoorAd
set_option linter.all false
set_option maxRecDepth 100000
open Nat renaming reduceAdd->rA,reduceMul->rB,reduceLT->rC,reduceLeDiff->rD,reduceEqDiff->rE
open Int renaming reduceLT->rF,reduceLE->rG,reduceEq->rH,reduceToNat->rI
open Option renaming some.injEq->rJ,bind_eq_some_iff->rK,bind_eq_bind->rL
namespace Go.AI
open Go.RowKit Go.ChangeShapes Go.WideShapes
abbrev KO(β:Type):=TVal->Heap->Option β
abbrev KT(β:Type):=TVal->Heap->Touch->Option β
abbrev LB:=List UInt8
def HasT(P:Program):Nat->TypeId->List PVal->Prop
 |0,_,_=>False
 |n+1,t,row=>match P.underlying t with
  |some .bool=>∃ b,row=[.bool b]
  |some (.int k)=>∃ x,row=[.int k x]/\(Lit.int k x).wf=true
  |some .string=>∃ s:LB,row=[.str s]/\s.length<=maxLen
  |some (.slice e)=>row=[.nilslice]\/∃ rows,row=[.slice (P.cellsOf e) false rows]/\rows.length<=maxLen/\∀ r∈rows,HasT P n e r
  |some (.struct fs)=>∃ rs:List (List PVal),row=rs.flatten/\All2 (λ(f:Field) r=>HasT P n f.type r) fs.toList rs
  |_=>False
def contig(P:Program):List Field->Nat->Nat->Bool
 |[],o,n=>o==n
 |f::fs,o,n=>f.offset==o&&contig P fs (o+P.cellsOf f.type) n
def plainB(P:Program)(ts:List TypeId):Bool:=ts.all λt=>match P.underlying t with
 |some .bool|some (.int _)|some .string=>true
 |some (.slice e)=>ts.contains e&&Nat.blt 0 (P.cellsOf e)
 |some (.struct fs)=>contig P fs.toList 0 (P.cellsOf t)&&fs.toList.all λf=>ts.contains f.type
 |_=>false
theorem qV0{α:Type}{p:Nat->α->Prop}:∀ (n:Nat),(∀ i,i<n->∃ a,p i a)->∃ l:List α,l.length=n/\∀ i a,l[i]?=some a->p i a:=by
 intro n
 induction n with
 |zero=>intro _; exact⟨[],rfl,λi r e=>by simp at e⟩
 |succ n ih =>
  intro h;obtain⟨l,h1,h2⟩:=ih λi hi=>h i (by omega)
  obtain⟨a,ha⟩:=h n (by omega);refine⟨l++[a],by simp[h1],λi r e=>?_⟩;by_cases hi:i<l.length
  ·rw[List.getElem?_append_left hi] at e; exact h2 i r e
  ·have hlt:i<(l++[a]).length:=(List.getElem?_eq_some_iff.1 e).1;have hi':i=n:=by simp at hlt; omega
   subst hi';rw[List.getElem?_append_right (by omega),h1,Nat.sub_self] at e;simp at e; subst e;exact ha
section
variable [Sym] {H:Type} {enc:TypeId×Value->H} {P:Program} {w:World} {spare:Nat->Bool} {held:Bool} {b0:Nat}
theorem qWN{R:TypeId->List Value->List PVal->Prop}(hR:∀ t cs row,R t cs row->All2 (PRel (allI w)) row cs)(Q:TypeId->List PVal->Prop)(hQ:∀ t cs row,R t cs row->Q t row)(cs:List Value) :
  ∀ (fs:List Field) (o:Nat),contig P fs o cs.length=true->(∀ f∈fs,∃ row,R f.type ((cs.drop f.offset).take (P.cellsOf f.type)) row) ->
  ∃ rs:List (List PVal),All2 (PRel (allI w)) rs.flatten (cs.drop o)/\All2 (λ(f:Field) r=>Q f.type r) fs rs:=by
 intro fs
 induction fs with
 |nil =>
  intro o h _;have:o=cs.length:=by simpa [contig] using h
  exact⟨[],by rw[this,List.drop_length]; trivial,trivial⟩
 |cons f fs ih =>
  intro o h hf;simp only[contig,Bool.and_eq_true,beq_iff_eq] at h;obtain⟨rfl,h2⟩:=h;obtain⟨row,hrow⟩:=hf f (by simp);obtain⟨rs,h3,h4⟩:=ih _ h2 (λg hg=>hf g (by simp[hg]));refine⟨row::rs,?_,hQ _ _ _ hrow,h4⟩;have e:cs.drop f.offset=(cs.drop f.offset).take (P.cellsOf f.type)++cs.drop (f.offset+P.cellsOf f.type):=by
   rw[<- List.drop_drop]; exact(List.take_append_drop _ _).symm
  rw[List.flatten_cons,e];exact(hR _ _ _ hrow).append h3
theorem qXG{ts:List TypeId}(hts:plainB P ts=true):∀ (fuel:Nat) (t:TypeId) (cs:List Value) (x:DataW H×List MemPlace),t∈ts->DataW.trod enc P w 0 spare held fuel t cs=some x ->
  ∃ row,All2 (PRel (allI w)) row cs/\HasT P fuel t row:=by
 intro fuel
 induction fuel with
 |zero=>intro t cs x _ h; simp[DataW.trod] at h
 |succ n ih =>
  intro t cs x ht h;have hp:=List.all_eq_true.1 hts t ht;cases hu:P.underlying t with
  |none=>rw[hu] at hp; cases hp
  |some u =>
   rw[hu] at hp;cases u with
   |bool =>
    obtain⟨b,rfl,_⟩:=DataW.trod_bool hu h;exact⟨[.bool b],⟨.bool b,trivial⟩,by simp only[HasT,hu]; exact⟨b,rfl⟩⟩
   |int k =>
    obtain⟨z,rfl,_,hw⟩:=DataW.trod_int hu h;exact⟨[.int k z],⟨.int k z,trivial⟩,by simp only[HasT,hu]; exact⟨z,rfl,hw⟩⟩
   |string =>
    obtain⟨s,rfl,_,hs⟩:=DataW.trod_string hu h;exact⟨[.str s.data.toList],⟨.str _ _ rfl,trivial⟩,by simp only[HasT,hu]; exact⟨_,rfl,by simpa using hs⟩⟩
   |slice e =>
    simp only[Bool.and_eq_true,List.contains_iff_mem] at hp;obtain⟨he,hc0⟩:=hp;have hc:0<P.cellsOf e:=Nat.le_of_ble_eq_true hc0
    rcases DataW.trod_slice hu h with ⟨rfl,_⟩|⟨a,len,cap,elems,rest,m,hm,rfl,_,_,hlc,hcm,hel,hget,_⟩
    ·exact⟨[.nilslice],⟨.nilslice,trivial⟩,by simp[HasT,hu]⟩
    ·cases hm;have each:∀ i,i<len->∃ row:List PVal,∃ cs:List Value,w.cells? 0 (a.add (i*P.cellsOf e)) (P.cellsOf e)=some cs/\All2 (PRel (allI w)) row cs/\HasT P n e row:=by
      intro i hi;have h1:=hget i hi;have h2:∃ y,elems[i]?=some y:=⟨elems[i]'(by omega),by simp⟩;obtain⟨y,hy⟩:=h2;rw[hy] at h1;obtain⟨cs,c1,c2⟩:=Option.bind_eq_some_iff.1 h1;obtain⟨row,r1,r2⟩:=ih e cs y he c2;exact⟨row,cs,c1,r1,r2⟩
     have hrows:∃ rows:List (List PVal),rows.length=len/\∀ i (r:List PVal),rows[i]?=some r->∃ cs:List Value,w.cells? 0 (a.add (i*P.cellsOf e)) (P.cellsOf e)=some cs/\All2 (PRel (allI w)) r cs/\HasT P n e r:=qV0 len each;obtain⟨rows,q1,q2⟩:=hrows;refine⟨[.slice (P.cellsOf e) false rows],⟨?_,trivial⟩,?_⟩
     ·cases hr:rows with
      |nil =>
       rw[hr] at q1;have:len=0:=by rw[<- q1]; rfl
       subst this;exact .emp _ _ _ _ (λe=>by cases e)
      |cons r0 rest0 =>
       obtain⟨cs0,c1,_⟩:=q2 0 r0 (by rw[hr]; rfl);obtain⟨_,c3,c4⟩:=World.cells?_some c1;have hs:a.spot=none:=by
        have h0:=c4 0 hc;rw[Nat.zero_mul] at h0;have e0:(a.add 0).add 0=a:=rfl;rw[e0] at h0;have:∃ v,cs0[0]?=some v:=⟨cs0[0]'(by omega),by simp⟩;obtain⟨v,hv⟩:=this;rw[hv] at h0;exact qWh h0
       have ea:a=⟨a.block,a.off,none⟩:=by cases a; simp at hs; subst hs; rfl
       rw[<- hr];have key:PRel (allI w) (.slice (P.cellsOf e) false rows) (.slice (some ⟨a.block,a.off,none⟩) rows.length cap):=by
        refine PRel.slice _ false rows a.block a.off cap (λi j=>(((w.cells? 0 (a.add (i*P.cellsOf e)) (P.cellsOf e)).getD [])[j]?).getD .nilIface) (λe=>by cases e) (by omega) ?_ ?_ ?_
        ·intro i r hr;obtain⟨cs,d1,d2,_⟩:=q2 i r hr;rw[d2.length]; exact(World.cells?_some d1).2.1
        ·intro i r j v hr hj;obtain⟨cs,d1,d2,_⟩:=q2 i r hr;obtain⟨_,d4,d5⟩:=World.cells?_some d1;obtain⟨b,e1,e2⟩:=d2.get j v hj;have hjl:j<P.cellsOf e:=by rw[<- d4]; exact(List.getElem?_eq_some_iff.1 e1).1
         have:=d5 j hjl;rw[ea,qBD,qBD,e1] at this;show w.cell? ⟨a.block,a.off+i*P.cellsOf e+j,none⟩=_;rw[this,d1];simp only[Option.getD_some,e1]
        ·intro i r j v hr hj;obtain⟨cs,d1,d2,_⟩:=q2 i r hr;obtain⟨b,e1,e2⟩:=d2.get j v hj;rw[d1];simp only[Option.getD_some,e1];exact e2
       rw[q1,<- ea] at key;exact key
     ·simp only[HasT,hu];refine .inr ⟨rows,rfl,by omega,λr hr=>?_⟩;obtain⟨i,hi⟩:=List.mem_iff_getElem?.1 hr;obtain⟨_,_,_,h3⟩:=q2 i r hi;exact h3
   |struct fs =>
    simp only[Bool.and_eq_true] at hp;obtain⟨xs,m,hm,_,hl,hxl,hf⟩:=DataW.trod_struct hu h;cases hm;have hmem:∀ f∈fs.toList,f.type∈ts:=λf hf=>by simpa using List.all_eq_true.1 hp.2 f hf
    rw[<- hl] at hp
    obtain⟨rs,r1,r2⟩:=qWN (P:=P) (w:=w) (R:=λt cs row=>All2 (PRel (allI w)) row cs/\HasT P n t row) (λ_ _ _ h=>h.1) (λt row=>HasT P n t row) (λ_ _ _ h=>h.2) cs fs.toList 0 hp.1 (by
     intro f hfm;obtain⟨i,hi⟩:=List.mem_iff_getElem?.1 hfm;have hi':fs[i]?=some f:=by simpa using hi
     have h1:=hf i f hi';have hil:i<fs.size:=(Array.getElem?_eq_some_iff.1 hi').1;have h2:xs[i]?=some (xs[i]'(by omega)):=by simp
     rw[h2] at h1;obtain⟨row,q1,q2⟩:=ih f.type _ _ (hmem f hfm) h1
     exact⟨row,q1,q2⟩)
    rw[List.drop_zero] at r1;exact⟨rs.flatten,r1,by simp only[HasT,hu]; exact⟨rs,rfl,r2⟩⟩
   |_=>cases hp
theorem qXE{I:Imm}:∀ {row:List PVal}{cs:List Value},All2 (PRel I) row cs->All2 (CRel noEnv I) (pcells row) cs
 |[],[],_=>trivial
 |_::_,_::_,h=>⟨CRel.p _ _ h.1,qXE h.2⟩
theorem qXv{ts:List TypeId}(hts:plainB P ts=true){t:TypeId}{cs:Array Value}{d:DataW H}{ps:List MemPlace}(ht:t∈ts)(hd:DataW.Trod enc P w 0 spare held t (.agg cs) d ps) :
  ∃ n row,TRel noEnv (allI w) (.v (.agg (pcells row))) (.agg cs)/\HasT P n t row:=by
 obtain⟨fuel,hf⟩:=hd;obtain⟨row,r1,r2⟩:=qXG hts fuel t _ _ ht hf;exact⟨fuel,row,⟨cs,rfl,qXE r1⟩,r2⟩
end
section
variable {β:Type} {O:Oracle} {h:Heap} {d:Nat} {k:KO β}
def Heap.push(h:Heap)(o:AObj):Heap:={ h with ims:=h.ims++[o] }
theorem Heap.push_len(h:Heap)(o:AObj):(h.push o).ims.length=h.ims.length+1:=by simp[Heap.push]
theorem Heap.get_lt{h:Heap}{i:Nat}{o:AObj}(hh:h.get (.im i)=some o):i<h.ims.length:=by
 rcases Nat.lt_or_ge i h.ims.length with q|q
 ·exact q
 ·have:h.ims[i]?=none:=by simp; exact q
  have e:(match h.ims[i]? with|some .dead=>none|o=>o)=some o:=hh;rw[this] at e; cases e
theorem Heap.get_put_eq(h:Heap){i:Nat}{o:AObj}(hi:i<h.ims.length)(ho:o ≠ .dead):(h.put (.im i) o).get (.im i)=some o:=by
 show(match (h.ims.set i o)[i]? with|some .dead=>none|o=>o)=some o;rw[List.getElem?_set_self hi];split
 ·rename_i e; cases e; exact absurd rfl ho
 ·rfl
def HG(b sz:Nat)(v:Cell)(rows:List (List PVal))(h:Heap):Prop :=
 b<=h.ims.length/\((rows=[]/\v = .p .nilslice)\/(rows≠[]/\∃ n,b<=n/\v = .sref (.im n) 0 rows.length none sz/\h.get (.im n)=some (.cells (pcells rows.flatten) 0)))
theorem HG.nil(b sz:Nat)(h:Heap)(hb:b<=h.ims.length):HG b sz (.p .nilslice) [] h:=⟨hb,.inl ⟨rfl,rfl⟩⟩
theorem qCW{sz:Nat}:∀ {rows:List (List PVal)},(∀ r∈rows,r.length=sz)->(pcells rows.flatten).length=rows.length*sz:=by
 intro rows;unfold pcells;rw[List.length_map]
 induction rows with
 |nil=>intro _; simp
 |cons a r ih=>intro hr; rw[List.flatten_cons,List.length_append,ih (λx hx=>hr x (by simp[hx])),hr a (by simp),List.length_cons,Nat.succ_mul,Nat.add_comm]
end
section
variable {β:Type} {O:Oracle} {h:Heap} {d:Nat} {k:KT β}
theorem qFW(op:AOp)(v:TVal)(hb:plan .nil op=some (.pure v)):vtouch O op h d k=k v h noTouch:=by
 show bnd (plan2 op .nil) (λp=>bnd (p.exec O d h) λx=>k x.1 x.2.1 x.2.2)=_;rw[qAr,hb]; rfl
theorem qJx(g:FuncId)(az:List TVal)(v:TVal)(ha:allB pT az=true)(ho:O g az []=some (v,[]))(hv:pT v=true):vtouch O (.call (.k (.v (.c (.func g [])))) (az.map .k)) h d k=k v h noTouch:=by
 obtain⟨a1,a2,a3⟩:=qKJ ha;obtain⟨_,_,q3,_⟩:=qAk hv;have hb:plan .nil (.call (.k (.v (.c (.func g [])))) (az.map .k))=some (.call g az):=by
  have hm:(az.map X.k).mapM (λx=>X.ev .nil x)=some az:=by
   clear ha ho a1 a2 a3
   induction az with
   |nil=>rfl
   |cons a az ih=>rw[List.map_cons,List.mapM_cons,ih]; rfl
  show((az.map X.k).mapM (λx=>X.ev .nil x)).bind (λvs=>some (Plan.call g (vs++[])))=_;rw[hm]; simp
 have hc:callOp O g az d h=some (v,h,noTouch):=by
  unfold callOp;simp[a1,a2,reach,fuelReach,a3,ho,q3,putAll,noTouch];rfl
 show bnd (plan2 (.call (.k (.v (.c (.func g [])))) (az.map .k)) .nil) (λp=>bnd (p.exec O d h) λx=>k x.1 x.2.1 x.2.2)=_;rw[qAr,hb];show bnd (callOp O g az d h) _=_;rw[hc]
end
section
variable {β:Type} {O:Oracle} {h:Heap} {d:Nat} {k:KO β} {kt:KT β}
theorem qDc(op:BinOp)(kd:Nat)(x y c:Cell)(hb:binV op kd x y=some c):vbin op kd (.v (.c x)) (.v (.c y)) h k=k (.v (.c c)) h:=by
 show bnd (binF op kd x y) (λc=>k (.v (.c c)) h)=_;rw[qKc,hb,bnd_some]
theorem qBv(op:AOp)(needs:List Ref)(pk:List AObj->Option Res)(v:TVal)(h':Heap)(t:Touch)(hb:plan .nil op=some (.go needs pk))(hg:goOp needs pk d h=some (v,h',t)):vtouch O op h d kt=kt v h' t:=by
 show bnd (plan2 op .nil) (λp=>bnd (p.exec O d h) λx=>kt x.1 x.2.1 x.2.2)=_;rw[qAr,hb];show bnd (goOp needs pk d h) _=_;rw[hg,bnd_some]
end
theorem qRk{T:FuncId->Option MFunc}{S S2:Oracle}(h1:∀ f a o r,S2 f a o=some r->orc S (lim T S) f a o=some r)(h2:∀ f a o,S2 f a o=none->S f a o=none):WLe (lim T S2) (lim T S):=by
 have key:∀ n,WLe (mach T S2 n) (lim T S):=by
  intro n
  induction n with
  |zero=>intro f q l vs h r e; cases e
  |succ n ih =>
   intro f q l vs h r e;have e':bnd (T f) (λF=>stepF F (orc S2 (mach T S2 n)) (mach T S2 n f q) q l vs h)=some r:=e;cases hT:T f with
   |none=>rw[hT] at e'; cases e'
   |some F =>
    rw[hT] at e';have hO:OSup (λ_=>orc S (lim T S)) (orc S2 (mach T S2 n)):=by
     intro g a o r' hr;refine Ev.all λ_=>?_
     cases hs:S2 g a o with
     |some x =>
      have:orc S2 (mach T S2 n) g a o=some x:=by show Option.rec (motive:=λ_=>Res1) _ some (S2 g a o)=_; rw[hs]
      rw[this] at hr;cases hr;exact h1 g a o _ hs
     |none =>
      have ha:orc S2 (mach T S2 n) g a o=mach T S2 n g (lenF o) 0 a { ims:=o,owns:=.nil }:=by show Option.rec (motive:=λ_=>Res1) _ some (S2 g a o)=_; rw[hs]
      have hb:orc S (lim T S) g a o=lim T S g (lenF o) 0 a { ims:=o,owns:=.nil }:=by show Option.rec (motive:=λ_=>Res1) _ some (S g a o)=_; rw[h2 g a o hs]
      rw[ha] at hr;show orc S (lim T S) g a o=some r';rw[hb];exact ih _ _ _ _ _ _ hr
    have hR:RSup (λ_=>lim T S f q) (mach T S2 n f q):=λl vs h r hr=>Ev.all λ_=>ih _ _ _ _ _ _ hr
    obtain⟨N,hN⟩:=qHU hO hR e';rw[qAA hT];exact hN N (Nat.le_refl _)
 intro f q l vs h r e;obtain⟨n,hn⟩:=qJZ e;exact key n f q l vs h r hn
theorem qRU{T:FuncId->Option MFunc}{S S2:Oracle}(h1:∀ f a o r,S2 f a o=some r->orc S (lim T S) f a o=some r)(h2:∀ f a o,S2 f a o=none->S f a o=none){f:FuncId}{a:List TVal}{o:List AObj}{r:TVal×List AObj}(e:orc S2 (lim T S2) f a o=some r):orc S (lim T S) f a o=some r:=by
 cases hs:S2 f a o with
 |some x =>
  have:orc S2 (lim T S2) f a o=some x:=by show Option.rec (motive:=λ_=>Res1) _ some (S2 f a o)=_; rw[hs]
  rw[this] at e;cases e;exact h1 f a o _ hs
 |none =>
  have ha:orc S2 (lim T S2) f a o=lim T S2 f (lenF o) 0 a { ims:=o,owns:=.nil }:=by show Option.rec (motive:=λ_=>Res1) _ some (S2 f a o)=_; rw[hs]
  have hb:orc S (lim T S) f a o=lim T S f (lenF o) 0 a { ims:=o,owns:=.nil }:=by show Option.rec (motive:=λ_=>Res1) _ some (S f a o)=_; rw[h2 f a o hs]
  rw[ha] at e;rw[hb];exact qRk h1 h2 f _ _ _ _ _ e
noncomputable def addF(g:FuncId)(F:List TVal->Option TVal)(S:Oracle):Oracle:=λf args objs=>bif Nat.beq f g then (match objs with
 |[]=>match F args with
  |some v=>some (v,[])
  |none=>S f args []
 |_=>S f args objs) else S f args objs
def Known(T:FuncId->Option MFunc)(S S2:Oracle):Prop:=(∀ f a o r,S2 f a o=some r->orc S (lim T S) f a o=some r)/\∀ f a o,S2 f a o=none->S f a o=none
theorem Known.refl(T:FuncId->Option MFunc)(S:Oracle):Known T S S:=⟨λf a o r e=>by show Option.rec (motive:=λ_=>Res1) _ some (S f a o)=_; rw[e],λ_ _ _ e=>e⟩
theorem Known.add{T:FuncId->Option MFunc}{S S2:Oracle}(K:Known T S S2)(g:FuncId)(F:List TVal->Option TVal)(hF:∀ args v,F args=some v->orc S (lim T S) g args []=some (v,[])):Known T S (addF g F S2):=by
 constructor
 ·intro f a o r e;unfold addF at e;rw[qAO] at e;by_cases hf:f=g
  ·subst hf;rw[decide_eq_true rfl,cond_true] at e;split at e
   ·split at e
    ·rename_i v hv;cases e;exact hF a v hv
    ·exact K.1 _ _ _ _ e
   ·exact K.1 _ _ _ _ e
  ·rw[decide_eq_false hf,cond_false] at e;exact K.1 _ _ _ _ e
 ·intro f a o e;unfold addF at e;rw[qAO] at e;by_cases hf:f=g
  ·subst hf;rw[decide_eq_true rfl,cond_true] at e;split at e
   ·split at e
    ·cases e
    ·exact K.2 _ _ _ e
   ·exact K.2 _ _ _ e
  ·rw[decide_eq_false hf,cond_false] at e;exact K.2 _ _ _ e
theorem Known.run{T:FuncId->Option MFunc}{D:FuncId->Option BlkF}{S S2:Oracle}(K:Known T S S2)(hD:BOK T D){N:Nat}{f:FuncId}{args:List TVal}{r:TVal×List AObj}(hs:S2 f args []=none)(e:machU D S2 N f 0 0 args h0=some r):orc S (lim T S) f args []=some r:=by
 refine qRU K.1 K.2 ?_;have ha:orc S2 (lim T S2) f args []=lim T S2 f 0 0 args h0:=by show Option.rec (motive:=λ_=>Res1) _ some (S2 f args [])=_; rw[hs]; rfl
 rw[ha];exact qBt hD N f 0 0 _ _ _ e
def obnd{α β:Type}(o:Option α)(k:α->Option β):Option β:=o.bind k
def objK{β:Type}(o:Option AObj)(k:List Cell->Nat->Option β):Option β:=match o with
 |some (.cells cs imm)=>k cs imm
 |_=>none
def chk{β:Type}(c:Bool)(x:Option β):Option β:=bif c then x else none
@[congr] theorem obnd_congr {α β:Type} {o o':Option α} {k:α->Option β} (e:o=o'):obnd o k=obnd o' k:=by rw[e]
@[congr] theorem objK_congr {β:Type} {o o':Option AObj} {k:List Cell->Nat->Option β} (e:o=o'):objK o k=objK o' k:=by rw[e]
@[congr] theorem chk_congr {β:Type} {c c':Bool} {x:Option β} (e:c=c'):chk c x=chk c' x:=by rw[e]
section
variable {β:Type} {O:Oracle} {h:Heap} {d:Nat} {k:KO β}
@[congr] theorem vop_congr {op op':AOp} (e:op=op'):vop O op h d k=vop O op' h d k:=by rw[e]
@[congr] theorem vbin_congr {op:BinOp} {kd:Nat} {a a' b b':TVal} (e:a=a') (f:b=b'):vbin op kd a b h k=vbin op kd a' b' h k:=by rw[e,f]
@[congr] theorem vtoInt_congr {K:IntKind} {a a':TVal} (e:a=a'):vtoInt K a h k=vtoInt K a' h k:=by rw[e]
@[congr] theorem vload_congr {g:Bool} {n:Nat} {a a':TVal} (e:a=a'):vload g n a h k=vload g n a' h k:=by rw[e]
@[congr] theorem vstore_congr {n:Nat} {a a' v v':TVal} (e:a=a') (f:v=v'):vstore n a v h k=vstore n a' v' h k:=by rw[e,f]
@[congr] theorem vfield_congr {o n:Nat} {g:Bool} {a a':TVal} (e:a=a'):vfield o n g a h k=vfield o n g a' h k:=by rw[e]
@[congr] theorem vfaddr_congr {o:Nat} {a a':TVal} (e:a=a'):vfaddr o a h k=vfaddr o a' h k:=by rw[e]
@[congr] theorem viaddr_congr {sz:Nat} {a a' i i':TVal} (e:a=a') (f:i=i'):viaddr sz a i h k=viaddr sz a' i' h k:=by rw[e,f]
@[congr] theorem vindex_congr {a a' i i':TVal} (e:a=a') (f:i=i'):vindex a i h k=vindex a' i' h k:=by rw[e,f]
@[congr] theorem vext_congr {a a':TVal} {i:Nat} (e:a=a'):vext a i h k=vext a' i h k:=by rw[e]
@[congr] theorem vcall_congr {g:TVal} {az as':List TVal} (e:az=as'):vcall O g az h d k=vcall O g as' h d k:=by rw[e]
@[congr] theorem vlen_congr {kd:Nat} {a a':TVal} (e:a=a'):vlen O kd a h d k=vlen O kd a' h d k:=by rw[e]
@[congr] theorem vif_congr {c c':TVal} {x y:Option β} (e:c=c'):vif c x y=vif c' x y:=by rw[e]
@[congr 100] theorem vguard_congr {c c':TVal} {w:Bool} {doit:(KO β)->Option β} (e:c=c'):vguard c w doit h k=vguard c' w doit h k:=by rw[e]
@[congr] theorem vcell_congr {g:Bool} {n:Nat} {a a':TVal} {k:Comp->Res1} (e:a=a'):vcell g n a h k=vcell g n a' h k:=by rw[e]
@[congr] theorem tcomp_congr {a a':TVal} {k:Comp->Option β} (e:a=a'):tcomp a k=tcomp a' k:=by rw[e]
theorem qKz(sz:Nat)(t:Bool)(rows:List (List PVal))(i:Int):viaddr sz (kSl sz t rows) (kI i) h k=chk (decide (0<=i)) (obnd rows[i.toNat]? λrow=>k (.v (.c (.p (.pptr row 0)))) h):=by
 by_cases hi:0<=i
 ·obtain⟨n,rfl⟩:∃ n:Nat,i=n:=⟨i.toNat,by omega⟩;rw[decide_eq_true hi];show(bif Nat.beq sz sz then bnd (nthF rows n) _ else _)=obnd rows[(n:Int).toNat]? _;rw[qAO,decide_eq_true rfl,qAo,Int.toNat_natCast];unfold obnd;cases rows[n]? <;> rfl
 ·rw[decide_eq_false hi];obtain⟨n,rfl⟩:∃ n:Nat,i=Int.negSucc n:=⟨(-i-1).toNat,by omega⟩;rfl
theorem qFa(sz:Nat)(r:Ref)(rows:List (List PVal))(i:Int):viaddr sz (.v (.c (.tsl sz rows r))) (kI i) h k=chk (decide (0<=i)) (obnd rows[i.toNat]? λrow=>k (.v (.c (.p (.pptr row 0)))) h):=by
 by_cases hi:0<=i
 ·obtain⟨n,rfl⟩:∃ n:Nat,i=n:=⟨i.toNat,by omega⟩;rw[decide_eq_true hi];show(bif Nat.beq sz sz then bnd (nthF rows n) _ else _)=obnd rows[(n:Int).toNat]? _;rw[qAO,decide_eq_true rfl,qAo,Int.toNat_natCast];unfold obnd;cases rows[n]? <;> rfl
 ·rw[decide_eq_false hi];obtain⟨n,rfl⟩:∃ n:Nat,i=Int.negSucc n:=⟨(-i-1).toNat,by omega⟩;rfl
theorem qI2(sz:Nat)(r:Ref)(off len:Nat)(cap:Option Nat)(i:Int):viaddr sz (.v (.c (.sref r off len cap sz))) (kI i) h k=chk (decide (0<=i)&&decide (i.toNat<len)) (k (.v (.c (.ptr r (off+i.toNat*sz)))) h):=by
 by_cases hi:0<=i
 ·obtain⟨n,rfl⟩:∃ n:Nat,i=n:=⟨i.toNat,by omega⟩;rw[decide_eq_true hi];show(bif Nat.beq sz sz&&Nat.blt n len then _ else _)=chk (true&&decide ((n:Int).toNat<len)) _;rw[qAO,decide_eq_true rfl,Int.toNat_natCast];have:Nat.blt n len=decide (n<len):=by
   by_cases h:n<len
   ·rw[decide_eq_true h]; exact Nat.ble_eq_true_of_le h
   ·rw[decide_eq_false h]; exact Bool.eq_false_iff.2 λe=>h (Nat.le_of_ble_eq_true e)
  rw[this]; rfl
 ·rw[decide_eq_false hi];obtain⟨n,rfl⟩:∃ n:Nat,i=Int.negSucc n:=⟨(-i-1).toNat,by omega⟩;rfl
theorem qRi(s:LB)(i:Int):vindex (kS s) (kI i) h k=chk (decide (0<=i)) (obnd s[i.toNat]? λb=>k (kU b) h):=by
 by_cases hi:0<=i
 ·obtain⟨n,rfl⟩:∃ n:Nat,i=n:=⟨i.toNat,by omega⟩;rw[decide_eq_true hi];show bnd (nthF s n) _=obnd s[(n:Int).toNat]? _;rw[qAo,Int.toNat_natCast];unfold obnd;cases s[n]? <;> rfl
 ·rw[decide_eq_false hi];obtain⟨n,rfl⟩:∃ n:Nat,i=Int.negSucc n:=⟨(-i-1).toNat,by omega⟩;rfl
theorem qCg(n off:Nat)(row:List PVal):vload false n (.v (.c (.p (.pptr row off)))) h k=obnd row[off]? λv=>k (.v (.c (.p v))) h:=by
 show bnd (nthF (pcells row) off) _=_;rw[qAo];show bnd ((row.map Cell.p)[off]?) _=_;rw[List.getElem?_map];cases row[off]? <;> rfl
theorem qB1(n:Nat)(row:List PVal)(hn:row.length=n):vload true n (.v (.c (.p (.pptr row 0)))) h k=k (.v (.agg (pcells row))) h:=by
 show(bif Nat.beq (lenF (takeF (dropF (pcells row) 0) n)) n then _ else _)=_;rw[qAR,qBx,qBu,List.drop_zero];have:(pcells row).take n=pcells row:=List.take_of_length_le (by simp[pcells,hn]);rw[this,show(pcells row).length=n by simp[pcells,hn],qAO,decide_eq_true rfl]; rfl
theorem qFU(n off:Nat)(row:List PVal):vload true n (.v (.c (.p (.pptr row off)))) h k=chk (decide (((row.drop off).take n).length=n)) (k (.v (.agg (pcells ((row.drop off).take n)))) h):=by
 show(bif Nat.beq (lenF (takeF (dropF (pcells row) off) n)) n then _ else _)=_;rw[qAR,qBx,qBu];have:((pcells row).drop off).take n=pcells ((row.drop off).take n):=by simp[pcells]
 rw[this,qAO];have:(pcells ((row.drop off).take n)).length=((row.drop off).take n).length:=by unfold pcells; rw[List.length_map]
 rw[this];rfl
theorem qLU(n off:Nat)(r:Ref):vload false n (.v (.c (.ptr r off))) h k=objK (h.get r) λcs _=>obnd cs[off]? λc=>k (.v (.c c)) h:=by
 show bnd (getF h r) (λo=>cellsOf o λcs _=>partF false n cs off λv=>k v h)=_;rw[qBU];cases h.get r with
 |none=>rfl
 |some o=>cases o with
  |cells cs imm =>
   show bnd (nthF cs off) _=obnd cs[off]? _;rw[qAo];cases cs[off]? <;> rfl
  |_=>rfl
theorem qJz(n off:Nat)(r:Ref):vload true n (.v (.c (.ptr r off))) h k=objK (h.get r) λcs _=>chk (decide (((cs.drop off).take n).length=n)) (k (.v (.agg ((cs.drop off).take n))) h):=by
 show bnd (getF h r) (λo=>cellsOf o λcs _=>partF true n cs off λv=>k v h)=_;rw[qBU];cases h.get r with
 |none=>rfl
 |some o=>cases o with
  |cells cs imm =>
   show(bif Nat.beq (lenF (takeF (dropF cs off) n)) n then _ else _)=_;rw[qAR,qBx,qBu,qAO]; rfl
  |_=>rfl
theorem qRl(n off:Nat)(r:Ref){k:Comp->Res1}:vcell false n (.v (.c (.ptr r off))) h k=objK (h.get r) λcs _=>obnd cs[off]? λc=>k (.c c):=by
 show bnd (getF h r) (λo=>cellsOf o λcs _=>partF false n cs off λv=>tcomp v k)=_;rw[qBU];cases h.get r with
 |none=>rfl
 |some o=>cases o with
  |cells cs imm =>
   show bnd (nthF cs off) _=obnd cs[off]? _;rw[qAo];cases cs[off]? <;> rfl
  |_=>rfl
theorem qOs(n off:Nat)(r:Ref){k:Comp->Res1}:vcell true n (.v (.c (.ptr r off))) h k=objK (h.get r) λcs _=>chk (decide (((cs.drop off).take n).length=n)) (k (.agg ((cs.drop off).take n))):=by
 show bnd (getF h r) (λo=>cellsOf o λcs _=>partF true n cs off λv=>tcomp v k)=_;rw[qBU];cases h.get r with
 |none=>rfl
 |some o=>cases o with
  |cells cs imm =>
   show(bif Nat.beq (lenF (takeF (dropF cs off) n)) n then _ else _)=_;rw[qAR,qBx,qBu,qAO]; rfl
  |_=>rfl
def put1(cs:List Cell)(off:Nat)(x:List Cell):List Cell:=splice cs off x
theorem qBA(cs x:List Cell)(e:x.length=cs.length):put1 cs 0 x=x:=by
 unfold put1 splice; simp[e]
theorem qQ1(n off:Nat)(r:Ref)(x:Comp):vstore n (.v (.c (.ptr r off))) (.v x) h k=objK (h.get r) λcs imm=>chk (decide (imm<=off)&&(decide (x.cells.length=n)&&decide (off+n<=cs.length))) (k .undef (h.put r (.cells (put1 cs off x.cells) imm))):=by
 show bnd (getF h r) (λo=>cellsOf o λcs imm=>bif Nat.ble imm off&&(Nat.beq (lenF x.cells) n&&Nat.ble (Nat.add off n) (lenF cs)) then _ else _)=_;rw[qBU];cases h.get r with
 |none=>rfl
 |some o=>cases o with
  |cells cs imm =>
   show(bif Nat.ble imm off&&(Nat.beq (lenF x.cells) n&&Nat.ble (off+n) (lenF cs)) then _ else _)=_;rw[qAR,qAR,qCe,qCe,qAO]; rfl
  |_=>rfl
theorem qRM(off n:Nat)(cs:List Cell):vfield off n false (.v (.agg cs)) h k=obnd cs[off]? λc=>k (.v (.c c)) h:=by
 show bnd (nthF cs off) _=_;rw[qAo];cases cs[off]? <;> rfl
theorem qOz(off n:Nat)(cs:List Cell):vfield off n true (.v (.agg cs)) h k=chk (decide (((cs.drop off).take n).length=n)) (k (.v (.agg ((cs.drop off).take n))) h):=by
 show(bif Nat.beq (lenF (takeF (dropF cs off) n)) n then _ else _)=_;rw[qAR,qBx,qBu,qAO]; rfl
theorem qTZ(vs:List Comp)(i:Nat):vext (.tup vs) i h k=obnd vs[i]? λv=>k (.v v) h:=by
 show bnd (nthF vs i) _=_;rw[qAo];cases vs[i]? <;> rfl
theorem qSo(kd:Nat)(a b:LB):vbin .add kd (kS a) (kS b) h k=chk (decide (a.length+b.length<=4611686018427387904)) (k (kS (a++b)) h):=by
 show bnd (bif Nat.ble (Nat.add (lenF a) (lenF b)) 4611686018427387904 then _ else _) _=_;rw[qAR,qAR,qCe];show bnd (bif decide (a.length+b.length<=4611686018427387904) then _ else _) _=_;cases decide (a.length+b.length<=4611686018427387904) <;> rfl
theorem qSY(kd:Nat)(a b:LB):vbin .lss kd (kS a) (kS b) h k=k (kB (bless a b)) h:=qDc _ _ _ _ _ (by rfl)
theorem qSg(kd:Nat)(a b:LB):vbin .leq kd (kS a) (kS b) h k=k (kB (bless a b||a==b)) h:=qDc _ _ _ _ _ (by rfl)
theorem qSc(kd:Nat)(a b:LB):vbin .gtr kd (kS a) (kS b) h k=k (kB (!(bless a b||a==b))) h:=qDc _ _ _ _ _ (by rfl)
theorem qTE(kd:Nat)(a b:LB):vbin .geq kd (kS a) (kS b) h k=k (kB (!(bless a b))) h:=qDc _ _ _ _ _ (by rfl)
theorem x_mv(v:TVal):vop O (.mv (.k v)) h d k=k v h:=by
 show opK O (.mv (.k v)) .nil h d k=_;rw[qA9]; rfl
theorem qTg(a b:Int):vop O (.minmax false [.k (kI a),.k (kI b)]) h d k=k (kI (if b<a then b else a)) h:=by
 refine(qAx _ _ ?_);have e:minmaxV false [some (kI a),some (kI b)]=some (.int .i64 (if b<a then b else a)):=by simp[minmaxV,tInt,foldMM]
 show Option.map (λv=>Plan.pure (.pv v)) (minmaxV false [some (kI a),some (kI b)])=_;rw[e]; rfl
theorem qTc(a b:Int):vop O (.minmax true [.k (kI a),.k (kI b)]) h d k=k (kI (if a<b then b else a)) h:=by
 refine(qAx _ _ ?_);have e:minmaxV true [some (kI a),some (kI b)]=some (.int .i64 (if a<b then b else a)):=by simp[minmaxV,tInt,foldMM]
 show Option.map (λv=>Plan.pure (.pv v)) (minmaxV true [some (kI a),some (kI b)])=_;rw[e]; rfl
theorem qDf(z:List Cell)(ps:List (Nat×Nat×X))(qs:List (Nat×Nat×Comp))(hq:(ps.mapM λ(p:Nat×Nat×X)=>match p.2.2.ev .nil with|some (.v v)=>some (p.1,p.2.1,v)|_=>none)=some qs):vop O (.build z ps) h d k=obnd (fillA z qs) λcs=>k (.v (.agg cs)) h:=by
 cases hf:fillA z qs with
 |none =>
  show opK O _ .nil h d k=_;rw[qA9];have:plan .nil (.build z ps)=none:=by
   show(do let ps' <- ps.mapM (λ(p:Nat×Nat×X)=>match p.2.2.ev .nil with|some (.v v)=>some (p.1,p.2.1,v)|_=>none); let cs <- fillA z ps'; pure (Plan.pure (.v (.agg cs))))=none;rw[hq]; simp[hf]
  unfold slow; rw[this]; rfl
 |some cs =>
  refine qBs z ps cs ?_;show(do let ps' <- ps.mapM (λ(p:Nat×Nat×X)=>match p.2.2.ev .nil with|some (.v v)=>some (p.1,p.2.1,v)|_=>none); let cs <- fillA z ps'; pure (Plan.pure (.v (.agg cs))))=_;rw[hq]; simp[hf]
theorem qQA(z:List Cell):vop O (.build z []) h d k=k (.v (.agg z)) h:=qDf z [] [] rfl
theorem qQB(z:List Cell)(o n:Nat)(v:Comp):vop O (.build z [(o,n,.k (.v v))]) h d k=obnd (fillA z [(o,n,v)]) λcs=>k (.v (.agg cs)) h:=qDf _ _ _ rfl
theorem qPl(z:List Cell)(o n o2 n2:Nat)(v v2:Comp):vop O (.build z [(o,n,.k (.v v)),(o2,n2,.k (.v v2))]) h d k=obnd (fillA z [(o,n,v),(o2,n2,v2)]) λcs=>k (.v (.agg cs)) h:=qDf _ _ _ rfl
theorem qPD(z:List Cell)(o n o2 n2 o3 n3:Nat)(v v2 v3:Comp):vop O (.build z [(o,n,.k (.v v)),(o2,n2,.k (.v v2)),(o3,n3,.k (.v v3))]) h d k=obnd (fillA z [(o,n,v),(o2,n2,v2),(o3,n3,v3)]) λcs=>k (.v (.agg cs)) h:=qDf _ _ _ rfl
theorem qPk(z:List Cell)(o n o2 n2 o3 n3 o4 n4:Nat)(v v2 v3 v4:Comp):vop O (.build z [(o,n,.k (.v v)),(o2,n2,.k (.v v2)),(o3,n3,.k (.v v3)),(o4,n4,.k (.v v4))]) h d k=obnd (fillA z [(o,n,v),(o2,n2,v2),(o3,n3,v3),(o4,n4,v4)]) λcs=>k (.v (.agg cs)) h:=qDf _ _ _ rfl
theorem qGa(l:List PVal):unps (pcells l)=some l:=by
 unfold unps pcells
 induction l with
 |nil=>rfl
 |cons a r ih=>rw[List.map_cons,List.mapM_cons,ih]; rfl
theorem qNQ(sz:Nat)(z:List Cell):vop O (.bslice sz 0 z [] false) h d k=k (kSl sz true []) h:=qAx _ _ rfl
theorem qM4(z:List Cell)(x:PVal)(hz:z.length=1):vop O (.bslice 1 1 z [(0,.k (.v (.c (.p x))))] false) h d k=k (kSl 1 true [[x]]) h:=by
 match z,hz with
 |[z0],_=>exact qAx _ _ rfl
theorem qLO(sz:Nat)(z:List Cell)(r:List PVal)(hz:z.length=sz)(hr:r.length=sz):vop O (.bslice sz 1 z [(0,.k (.v (.agg (pcells r))))] false) h d k=k (kSl sz true [r]) h:=by
 refine qAx _ _ ?_;subst hz;have e1:fillA (rep 1 z) [(0*z.length,z.length,Comp.agg (pcells r))]=some (pcells r):=by
  have l1:(Comp.agg (pcells r)).cells.length=z.length:=by show(pcells r).length=_; unfold pcells; rw[List.length_map,hr]
  have l2:(rep 1 z).length=z.length:=by simp[rep]
  simp only[fillA,l1,l2,Nat.zero_mul,Nat.zero_add,Nat.le_refl,and_self,if_true];show some (splice (rep 1 z) 0 (pcells r))=_;have l3:(pcells r).length=z.length:=l1;simp[splice,l2,l3,rep]
 have e2:chunk z.length 1 (pcells r)=some [r]:=by
  show(do let row <- unps ((pcells r).take z.length); if row.length=z.length then pure (row::(<- chunk z.length 0 ((pcells r).drop z.length))) else none)=_;have:(pcells r).take z.length=pcells r:=List.take_of_length_le (by simp[pcells,hr]);rw[this,qGa];simp[hr,chunk]
 simp only[plan,List.mapM_cons,List.mapM_nil,X.ev,Option.pure_def,rL,Option.bind_some,e1,e2,Bool.false_eq_true,if_false]
theorem qMM(sz:Nat)(z:List Cell)(r s:List PVal)(hz:z.length=sz)(hr:r.length=sz)(hs:s.length=sz):vop O (.bslice sz 2 z [(0,.k (.v (.agg (pcells r)))),(1,.k (.v (.agg (pcells s))))] false) h d k=k (kSl sz true [r,s]) h:=by
 refine qAx _ _ ?_;subst hz;have l1:(Comp.agg (pcells r)).cells.length=z.length:=by show(pcells r).length=_; unfold pcells; rw[List.length_map,hr]
 have l1':(Comp.agg (pcells s)).cells.length=z.length:=by show(pcells s).length=_; unfold pcells; rw[List.length_map,hs]
 have l3:(pcells r).length=z.length:=l1;have l3':(pcells s).length=z.length:=l1';have e1:fillA (rep 2 z) [(0*z.length,z.length,Comp.agg (pcells r)),(1*z.length,z.length,Comp.agg (pcells s))]=some (pcells r++pcells s):=by
  have l2:(rep 2 z).length=z.length+z.length:=by simp[rep]
  have q1:splice (rep 2 z) 0 (pcells r)=pcells r++z:=by simp[splice,l3,rep]
  simp only[fillA,l1,l1',l2,Nat.zero_mul,Nat.zero_add,Nat.le_refl,true_and,if_true];rw[if_pos (by omega)];show(if 1*z.length+z.length<=(splice (rep 2 z) 0 (pcells r)).length then some (splice (splice (rep 2 z) 0 (pcells r)) (1*z.length) (pcells s)) else none)=_;rw[q1,if_pos (by simp[l3])];rw[Nat.one_mul];unfold splice;rw[l3'];have u1:(pcells r++z).take z.length=pcells r:=by rw[<- l3]; simp
  have u2:(pcells r++z).drop (z.length+z.length)=[]:=List.drop_eq_nil_of_le (by simp[l3]);rw[u1,u2,List.append_nil]
 have e2:chunk z.length 2 (pcells r++pcells s)=some [r,s]:=by
  have t1:(pcells r++pcells s).take z.length=pcells r:=by rw[<- l3]; simp
  have t2:(pcells r++pcells s).drop z.length=pcells s:=by rw[<- l3]; simp
  have t3:(pcells s).take z.length=pcells s:=List.take_of_length_le (by omega);show(do let row <- unps ((pcells r++pcells s).take z.length); if row.length=z.length then pure (row::(<- chunk z.length 1 ((pcells r++pcells s).drop z.length))) else none)=_;rw[t1,t2,qGa];have:chunk z.length 1 (pcells s)=some [s]:=by
   show(do let row <- unps ((pcells s).take z.length); if row.length=z.length then pure (row::(<- chunk z.length 0 ((pcells s).drop z.length))) else none)=_;rw[t3,qGa];simp[hs,chunk]
  rw[this];simp[hr]
 simp only[plan,List.mapM_cons,List.mapM_nil,X.ev,Option.pure_def,rL,Option.bind_some,e1,e2,Bool.false_eq_true,if_false]
theorem qB7(l:List PVal):allB isP (pcells l)=true:=by
 unfold pcells
 induction l with
 |nil=>rfl
 |cons a r ih=>exact ih
theorem qTF(frz:Bool)(x:PVal):vfin frz 0 [.c (.p x)] h=some (.v (.c (.p x)),[]):=qAJ _ _ rfl
theorem qTC(frz:Bool)(r:List PVal):vfin frz 0 [.agg (pcells r)] h=some (.v (.agg (pcells r)),[]):=qAJ _ _ (by show(bif allB isP (pcells r) then true else false)=true; rw[qB7]; rfl)
theorem qSd(frz:Bool)(x y:PVal):vfin frz 0 [.c (.p x),.c (.p y)] h=some (.tup [.c (.p x),.c (.p y)],[]):=qAJ _ _ rfl
theorem qRq(frz:Bool)(r:List PVal)(y:PVal):vfin frz 0 [.agg (pcells r),.c (.p y)] h=some (.tup [.agg (pcells r),.c (.p y)],[]):=qAJ _ _ (by show(bif allB isP (pcells r) then true else false)=true; rw[qB7]; rfl)
theorem qRE(frz:Bool)(r:List PVal)(y:PVal):vfin frz 0 [.c (.p y),.agg (pcells r)] h=some (.tup [.c (.p y),.agg (pcells r)],[]):=qAJ _ _ (by show(bif allB isP (pcells r) then true else false)=true; rw[qB7]; rfl)
theorem qTR(frz:Bool)(x y z:PVal):vfin frz 0 [.c (.p x),.c (.p y),.c (.p z)] h=some (.tup [.c (.p x),.c (.p y),.c (.p z)],[]):=qAJ _ _ rfl
theorem qSC(frz:Bool)(r:List PVal)(y z:PVal):vfin frz 0 [.agg (pcells r),.c (.p y),.c (.p z)] h=some (.tup [.agg (pcells r),.c (.p y),.c (.p z)],[]):=qAJ _ _ (by show(bif allB isP (pcells r) then true else false)=true; rw[qB7]; rfl)
theorem qOw(frz:Bool):vfin frz 0 [] h=some (.tup [],[]):=qAJ _ _ rfl
end
theorem qOR{α β:Type}(a:α)(k:α->Option β):obnd (some a) k=k a:=rfl
theorem qPH{α γ β:Type}(f:α->γ)(o:Option α)(k:γ->Option β):obnd (o.map f) k=obnd o λa=>k (f a):=by cases o <;> rfl
theorem qLK{β:Type}(cs:List Cell)(imm:Nat)(k:List Cell->Nat->Option β):objK (some (.cells cs imm)) k=k cs imm:=rfl
theorem qOi{β:Type}(x:Option β):chk true x=x:=rfl
theorem qLj(row:List PVal)(i:Nat):(pcells row)[i]?=(row[i]?).map .p:=by unfold pcells; rw[List.getElem?_map]
theorem qAN(row:List PVal):(pcells row).length=row.length:=by unfold pcells; rw[List.length_map]
theorem dec0(n:Nat):decide ((0:Int)<=(n:Int))=true:=decide_eq_true (by omega)
theorem qJI(h:Heap)(d g:Nat)(cs:List Cell)(imm:Nat)(hd:d+1<1048576):(h.own d g (.cells cs imm)).get (.own d g)=some (.cells cs imm):=Heap.own_get h d g _ hd (λe=>by cases e)
theorem ex :
  (∀ {β:Type}{h:Heap}{k:KO β}(kd:Nat)(K:IntKind)(a b:Int),vbin .add kd (kN K a) (kN K b) h k=k (kN K (K.wrap (a+b))) h) /\
  (∀ {β:Type}{h:Heap}{k:KO β}(kd:Nat)(K:IntKind)(a b:Int),vbin .sub kd (kN K a) (kN K b) h k=k (kN K (K.wrap (a - b))) h) /\
  (∀ {β:Type}{h:Heap}{k:KO β}(kd:Nat)(K:IntKind)(a b:Int),vbin .mul kd (kN K a) (kN K b) h k=k (kN K (K.wrap (a*b))) h) /\
  (∀ {β:Type}{h:Heap}{k:KO β}(kd:Nat)(K:IntKind)(a b:Int),vbin .eql kd (kN K a) (kN K b) h k=k (kB (decide (a=b))) h) /\
  (∀ {β:Type}{h:Heap}{k:KO β}(kd:Nat)(K:IntKind)(a b:Int),vbin .neq kd (kN K a) (kN K b) h k=k (kB (!decide (a=b))) h) /\
  (∀ {β:Type}{h:Heap}{k:KO β}(kd:Nat)(K:IntKind)(a b:Int),vbin .lss kd (kN K a) (kN K b) h k=k (kB (decide (a<b))) h) /\
  (∀ {β:Type}{h:Heap}{k:KO β}(kd:Nat)(K:IntKind)(a b:Int),vbin .gtr kd (kN K a) (kN K b) h k=k (kB (decide (b<a))) h) /\
  (∀ {β:Type}{h:Heap}{k:KO β}(kd:Nat)(K:IntKind)(a b:Int),vbin .leq kd (kN K a) (kN K b) h k=k (kB (!decide (b<a))) h) /\
  (∀ {β:Type}{h:Heap}{k:KO β}(kd:Nat)(K:IntKind)(a b:Int),vbin .geq kd (kN K a) (kN K b) h k=k (kB (!decide (a<b))) h) /\
  (∀ {β:Type}{h:Heap}{k:KO β}(kd:Nat)(a b:LB),vbin .eql kd (kS a) (kS b) h k=k (kB (decide (a=b))) h) /\
  (∀ {β:Type}{h:Heap}{k:KO β}(kd:Nat)(a b:LB),vbin .neq kd (kS a) (kS b) h k=k (kB (!decide (a=b))) h) /\
  (∀ {β:Type}{h:Heap}{k:KO β}(a b:Bool),vbin .eql 5 (kB a) (kB b) h k=k (kB (a==b)) h) /\
  (∀ {β:Type}{h:Heap}{k:KO β}(a b:Bool),vbin .neq 5 (kB a) (kB b) h k=k (kB (!(a==b))) h) /\
  (∀ {β:Type}{h:Heap}{k:KO β}(kd:Nat)(a b:LB),vbin .add kd (kS a) (kS b) h k=chk (decide (a.length+b.length<=4611686018427387904)) (k (kS (a++b)) h)) /\
  (∀ {β:Type}{h:Heap}{k:KO β}(kd:Nat)(a b:LB),vbin .lss kd (kS a) (kS b) h k=k (kB (bless a b)) h) /\
  (∀ {β:Type}{h:Heap}{k:KO β}(kd:Nat)(a b:LB),vbin .leq kd (kS a) (kS b) h k=k (kB (bless a b||a==b)) h) /\
  (∀ {β:Type}{h:Heap}{k:KO β}(kd:Nat)(a b:LB),vbin .gtr kd (kS a) (kS b) h k=k (kB (!(bless a b||a==b))) h) /\
  (∀ {β:Type}{h:Heap}{k:KO β}(kd:Nat)(a b:LB),vbin .geq kd (kS a) (kS b) h k=k (kB (!(bless a b))) h) /\
  (∀ {β:Type}(x y:Option β),vif (kB true) x y=x)/\(∀ {β:Type}(x y:Option β),vif (kB false) x y=y) /\
  (∀ {β:Type}{h:Heap}{k:KO β}(doit:(KO β)->Option β),vguard (kB true) true doit h k=doit k) /\
  (∀ {β:Type}{h:Heap}{k:KO β}(doit:(KO β)->Option β),vguard (kB false) false doit h k=doit k) /\
  (∀ {β:Type}{h:Heap}{k:KO β}(doit:(KO β)->Option β),vguard (kB true) false doit h k=k .undef h) /\
  (∀ {β:Type}{h:Heap}{k:KO β}(doit:(KO β)->Option β),vguard (kB false) true doit h k=k .undef h) /\
  (∀ {β:Type}{h:Heap}{k:KO β}(w:Bool)(doit:(KO β)->Option β),vguard .undef w doit h k=k .undef h) /\
  (∀ {β:Type}{O:Oracle}{h:Heap}{d:Nat}{k:KO β}(b:Bool),vop O (.un .not (.k (kB b))) h d k=k (kB (!b)) h) /\
  (∀ {β:Type}{O:Oracle}{h:Heap}{d:Nat}{k:KO β}(K:IntKind)(a:Int),vop O (.un .neg (.k (kN K a))) h d k=k (kN K (K.wrap (0 - a))) h) /\
  (∀ {β:Type}{O:Oracle}{h:Heap}{d:Nat}{k:KO β}(a b:TVal),vop O (.pick (.k (kB true)) (.k a) (.k b)) h d k=k a h) /\
  (∀ {β:Type}{O:Oracle}{h:Heap}{d:Nat}{k:KO β}(a b:TVal),vop O (.pick (.k (kB false)) (.k a) (.k b)) h d k=k b h) /\
  (∀ {β:Type}{O:Oracle}{h:Heap}{d:Nat}{k:KO β}(v:TVal),vop O (.mv (.k v)) h d k=k v h) /\
  (∀ {β:Type}{O:Oracle}{h:Heap}{d:Nat}{k:KO β}(a b:Int),vop O (.minmax false [.k (kI a),.k (kI b)]) h d k=k (kI (if b<a then b else a)) h) /\
  (∀ {β:Type}{O:Oracle}{h:Heap}{d:Nat}{k:KO β}(a b:Int),vop O (.minmax true [.k (kI a),.k (kI b)]) h d k=k (kI (if a<b then b else a)) h) /\
  (∀ {β:Type}{O:Oracle}{h:Heap}{d:Nat}{k:KO β}(s:LB),vlen O 0 (kS s) h d k=k (kI (s.length:Int)) h) /\
  (∀ {β:Type}{O:Oracle}{h:Heap}{d:Nat}{k:KO β},vlen O 2 kNil h d k=k (kI 0) h) /\
  (∀ {β:Type}{O:Oracle}{h:Heap}{d:Nat}{k:KO β}(sz:Nat)(t:Bool)(rows:List (List PVal)),vlen O 2 (kSl sz t rows) h d k=k (kI (rows.length:Int)) h) /\
  (∀ {β:Type}{O:Oracle}{h:Heap}{d:Nat}{k:KO β}(sz:Nat)(rows:List (List PVal))(r:Ref),vlen O 2 (.v (.c (.tsl sz rows r))) h d k=k (kI (rows.length:Int)) h) /\
  (∀ {β:Type}{h:Heap}{k:KO β}(K K':IntKind)(a:Int),vtoInt K (kN K' a) h k=k (kN K (K.wrap a)) h) /\
  (∀ {β:Type}(c:Comp)(k:Comp->Option β),tcomp (.v c) k=k c) :=
 ⟨qAZ,qAf,qDA,qA6,qIj,qAT,qBb,qPV,qIX,qHo,qNU,qMl,qNY,qSo,qSY,qSg,qSc,qTE,qD5,qCR,qBw,qOB,qMx,qBV,qJb,qIo,qXJ,qCT,qCC,x_mv,qTg,qTc,
 qAs,qOy,qHJ,qFs,qCA,qAI⟩
theorem exM :
  (∀ {β:Type}{h:Heap}{k:KO β}(sz:Nat)(t:Bool)(rows:List (List PVal))(i:Int),viaddr sz (kSl sz t rows) (kI i) h k=chk (decide (0<=i)) (obnd rows[i.toNat]? λrow=>k (.v (.c (.p (.pptr row 0)))) h)) /\
  (∀ {β:Type}{h:Heap}{k:KO β}(sz:Nat)(r:Ref)(rows:List (List PVal))(i:Int),viaddr sz (.v (.c (.tsl sz rows r))) (kI i) h k=chk (decide (0<=i)) (obnd rows[i.toNat]? λrow=>k (.v (.c (.p (.pptr row 0)))) h)) /\
  (∀ {β:Type}{h:Heap}{k:KO β}(sz:Nat)(r:Ref)(off len:Nat)(cap:Option Nat)(i:Int),viaddr sz (.v (.c (.sref r off len cap sz))) (kI i) h k=chk (decide (0<=i)&&decide (i.toNat<len)) (k (.v (.c (.ptr r (off+i.toNat*sz)))) h)) /\
  (∀ {β:Type}{h:Heap}{k:KO β}(s:LB)(i:Int),vindex (kS s) (kI i) h k=chk (decide (0<=i)) (obnd s[i.toNat]? λb=>k (kU b) h)) /\
  (∀ {β:Type}{h:Heap}{k:KO β}(n off:Nat)(row:List PVal),vload false n (.v (.c (.p (.pptr row off)))) h k=obnd row[off]? λv=>k (.v (.c (.p v))) h) /\
  (∀ {β:Type}{h:Heap}{k:KO β}(n off:Nat)(r:Ref),vload false n (.v (.c (.ptr r off))) h k=objK (h.get r) λcs _=>obnd cs[off]? λc=>k (.v (.c c)) h) /\
  (∀ {β:Type}{h:Heap}{k:KO β}(n off:Nat)(r:Ref),vload true n (.v (.c (.ptr r off))) h k=objK (h.get r) λcs _=>chk (decide (((cs.drop off).take n).length=n)) (k (.v (.agg ((cs.drop off).take n))) h)) /\
  (∀ {h:Heap}(n off:Nat)(r:Ref){k:Comp->Res1},vcell false n (.v (.c (.ptr r off))) h k=objK (h.get r) λcs _=>obnd cs[off]? λc=>k (.c c)) /\
  (∀ {h:Heap}(n off:Nat)(r:Ref){k:Comp->Res1},vcell true n (.v (.c (.ptr r off))) h k=objK (h.get r) λcs _=>chk (decide (((cs.drop off).take n).length=n)) (k (.agg ((cs.drop off).take n)))) /\
  (∀ {β:Type}{h:Heap}{k:KO β}(n off:Nat)(r:Ref)(x:Comp),vstore n (.v (.c (.ptr r off))) (.v x) h k=objK (h.get r) λcs imm=>chk (decide (imm<=off)&&(decide (x.cells.length=n)&&decide (off+n<=cs.length))) (k .undef (h.put r (.cells (put1 cs off x.cells) imm)))) /\
  (∀ {β:Type}{h:Heap}{k:KO β}(off n:Nat)(cs:List Cell),vfield off n false (.v (.agg cs)) h k=obnd cs[off]? λc=>k (.v (.c c)) h) /\
  (∀ {β:Type}{h:Heap}{k:KO β}(off n:Nat)(cs:List Cell),vfield off n true (.v (.agg cs)) h k=chk (decide (((cs.drop off).take n).length=n)) (k (.v (.agg ((cs.drop off).take n))) h)) /\
  (∀ {β:Type}{h:Heap}{k:KO β}(off o:Nat)(r:Ref),vfaddr off (.v (.c (.ptr r o))) h k=k (.v (.c (.ptr r (o+off)))) h) /\
  (∀ {β:Type}{h:Heap}{k:KO β}(off o:Nat)(row:List PVal),vfaddr off (.v (.c (.p (.pptr row o)))) h k=k (.v (.c (.p (.pptr row (o+off))))) h) /\
  (∀ {β:Type}{h:Heap}{k:KO β}(vs:List Comp)(i:Nat),vext (.tup vs) i h k=obnd vs[i]? λv=>k (.v v) h) /\
  (∀ {β:Type}{O:Oracle}{h:Heap}{d:Nat}{k:KO β}(z:List Cell),vop O (.alloc z false) h d k=k (.v (.c (.ptr (.own d (h.gen d+1)) 0))) (h.own d (h.gen d+1) (.cells z 0))) /\
  (∀ {α β:Type}(a:α)(k:α->Option β),obnd (some a) k=k a) /\
  (∀ {β:Type}(cs:List Cell)(imm:Nat)(k:List Cell->Nat->Option β),objK (some (.cells cs imm)) k=k cs imm) /\
  (∀ {β:Type}(x:Option β),chk true x=x) /\
  (∀ (row:List PVal) (i:Nat),(pcells row)[i]?=(row[i]?).map .p)/\(∀ (row:List PVal),(pcells row).length=row.length) /\
  (∀ n:Nat,decide ((0:Int)<=(n:Int))=true) /\
  (∀ (h:Heap) (d g:Nat) (o:AObj),h.put (.own d g) o=h.own d g o) /\
  (∀ (h:Heap) (d g:Nat) (cs:List Cell) (imm:Nat),d+1<1048576->(h.own d g (.cells cs imm)).get (.own d g)=some (.cells cs imm)) /\
  (∀ (h:Heap) (d g:Nat) (o:AObj) (e g':Nat),d≠e->(h.own d g o).get (.own e g')=h.get (.own e g')) /\
  (∀ (h:Heap) (d g:Nat) (o:AObj) (i:Nat),(h.own d g o).get (.im i)=h.get (.im i)) :=
 ⟨qKz,qFa,qI2,qRi,qCg,qLU,qJz,qRl,qOs,qQ1,qRM,qOz,qGP,qJ7,qTZ,qDD,qOR,qLK,qOi,qLj,qAN,dec0,Heap.put_own,qJI,Heap.own_get_ne,Heap.own_get_im⟩
theorem exF :
  (∀ {h:Heap}(frz:Bool)(x:PVal),vfin frz 0 [.c (.p x)] h=some (.v (.c (.p x)),[])) /\
  (∀ {h:Heap}(frz:Bool)(r:List PVal),vfin frz 0 [.agg (pcells r)] h=some (.v (.agg (pcells r)),[])) /\
  (∀ {h:Heap}(frz:Bool)(x y:PVal),vfin frz 0 [.c (.p x),.c (.p y)] h=some (.tup [.c (.p x),.c (.p y)],[])) /\
  (∀ {h:Heap}(frz:Bool)(r:List PVal)(y:PVal),vfin frz 0 [.agg (pcells r),.c (.p y)] h=some (.tup [.agg (pcells r),.c (.p y)],[])) /\
  (∀ {h:Heap}(frz:Bool)(r:List PVal)(y:PVal),vfin frz 0 [.c (.p y),.agg (pcells r)] h=some (.tup [.c (.p y),.agg (pcells r)],[])) /\
  (∀ {h:Heap}(frz:Bool)(x y z:PVal),vfin frz 0 [.c (.p x),.c (.p y),.c (.p z)] h=some (.tup [.c (.p x),.c (.p y),.c (.p z)],[])) /\
  (∀ {h:Heap}(frz:Bool)(r:List PVal)(y z:PVal),vfin frz 0 [.agg (pcells r),.c (.p y),.c (.p z)] h=some (.tup [.agg (pcells r),.c (.p y),.c (.p z)],[])) /\
  (∀ {h:Heap}(frz:Bool),vfin frz 0 [] h=some (.tup [],[])) /\
  (∀ (cs x:List Cell),x.length=cs.length->put1 cs 0 x=x) :=
 ⟨qTF,qTC,qSd,qRq,qRE,qTR,qSC,qOw,qBA⟩
noncomputable def gv(p:Bool)(v:TVal):TVal:=bif p then v else .undef
theorem gv_t(v:TVal):gv true v=v:=rfl
theorem gv_f(v:TVal):gv false v = .undef:=rfl
theorem qTq(p q:Bool)(v:TVal):gv p (gv q v)=gv (p&&q) v:=by cases p <;> rfl
section
variable {β:Type} {O:Oracle} {h:Heap} {d:Nat} {k:KO β}
theorem g_t(c:Bool)(v:TVal):vguard (kB c) true (λkk=>kk v h) h k=k (gv c v) h:=by cases c <;> rfl
theorem g_f(c:Bool)(v:TVal):vguard (kB c) false (λkk=>kk v h) h k=k (gv (!c) v) h:=by cases c <;> rfl
theorem g_gt(p c:Bool)(v:TVal):vguard (gv p (kB c)) true (λkk=>kk v h) h k=k (gv (p&&c) v) h:=by cases p <;> cases c <;> rfl
theorem g_gf(p c:Bool)(v:TVal):vguard (gv p (kB c)) false (λkk=>kk v h) h k=k (gv (p && !c) v) h:=by cases p <;> cases c <;> rfl
@[congr] theorem g_congT {c c':Bool} {doit doit':(KO β)->Option β} (e:c=c') (f:c'=true->∀ kk,doit kk=doit' kk):vguard (kB c) true doit h k=vguard (kB c') true doit' h k:=by
 subst e; cases c
 ·rfl
 ·rw[show doit=doit' from funext (f rfl)]
@[congr] theorem g_congF {c c':Bool} {doit doit':(KO β)->Option β} (e:c=c') (f:c'=false->∀ kk,doit kk=doit' kk):vguard (kB c) false doit h k=vguard (kB c') false doit' h k:=by
 subst e; cases c
 ·rw[show doit=doit' from funext (f rfl)]
 ·rfl
@[congr] theorem g_congGT {p p' c c':Bool} {doit doit':(KO β)->Option β} (e0:p=p') (e:c=c') (f:p'=true->c'=true->∀ kk,doit kk=doit' kk):vguard (gv p (kB c)) true doit h k=vguard (gv p' (kB c')) true doit' h k:=by
 subst e0; subst e; cases p <;> cases c
 ·rfl
 ·rfl
 ·rfl
 ·rw[show doit=doit' from funext (f rfl rfl)]
@[congr] theorem g_congGF {p p' c c':Bool} {doit doit':(KO β)->Option β} (e0:p=p') (e:c=c') (f:p'=true->c'=false->∀ kk,doit kk=doit' kk):vguard (gv p (kB c)) false doit h k=vguard (gv p' (kB c')) false doit' h k:=by
 subst e0; subst e; cases p <;> cases c
 ·rfl
 ·rfl
 ·rw[show doit=doit' from funext (f rfl rfl)]
 ·rfl
@[congr 2000] theorem g_congTn {c c':Bool} {doit doit':(KO β)->Option β} (e:c=c') (f:c'=false->∀ kk,doit kk=doit' kk):vguard (kB (!c)) true doit h k=vguard (kB (!c')) true doit' h k:=by
 subst e; cases c
 all_goals first|rfl|rw[show doit=doit' from funext (f rfl)]
@[congr 2000] theorem g_congFn {c c':Bool} {doit doit':(KO β)->Option β} (e:c=c') (f:c'=true->∀ kk,doit kk=doit' kk):vguard (kB (!c)) false doit h k=vguard (kB (!c')) false doit' h k:=by
 subst e; cases c
 all_goals first|rfl|rw[show doit=doit' from funext (f rfl)]
@[congr 2000] theorem g_congGTn {p p' c c':Bool} {doit doit':(KO β)->Option β} (e0:p=p') (e:c=c') (f:p'=true->c'=false->∀ kk,doit kk=doit' kk):vguard (gv p (kB (!c))) true doit h k=vguard (gv p' (kB (!c'))) true doit' h k:=by
 subst e0; subst e; cases p <;> cases c
 all_goals first|rfl|rw[show doit=doit' from funext (f rfl rfl)]
@[congr 2000] theorem g_congGFn {p p' c c':Bool} {doit doit':(KO β)->Option β} (e0:p=p') (e:c=c') (f:p'=true->c'=true->∀ kk,doit kk=doit' kk):vguard (gv p (kB (!c))) false doit h k=vguard (gv p' (kB (!c'))) false doit' h k:=by
 subst e0; subst e; cases p <;> cases c
 all_goals first|rfl|rw[show doit=doit' from funext (f rfl rfl)]
@[congr 1500] theorem g_congAT {a a' b b' c c':Bool} {doit doit':(KO β)->Option β} (e0:a=a') (e1:b=b') (e:c=c') (f:a'=true->b'=true->c'=true->∀ kk,doit kk=doit' kk):vguard (gv (a&&b) (kB c)) true doit h k=vguard (gv (a'&&b') (kB c')) true doit' h k:=by
 subst e0; subst e1; subst e; cases a <;> cases b <;> cases c
 all_goals first|rfl|rw[show doit=doit' from funext (f rfl rfl rfl)]
@[congr 1500] theorem g_congAF {a a' b b' c c':Bool} {doit doit':(KO β)->Option β} (e0:a=a') (e1:b=b') (e:c=c') (f:a'=true->b'=true->c'=false->∀ kk,doit kk=doit' kk):vguard (gv (a&&b) (kB c)) false doit h k=vguard (gv (a'&&b') (kB c')) false doit' h k:=by
 subst e0; subst e1; subst e; cases a <;> cases b <;> cases c
 all_goals first|rfl|rw[show doit=doit' from funext (f rfl rfl rfl)]
@[congr 3000] theorem g_congATn {a a' b b' c c':Bool} {doit doit':(KO β)->Option β} (e0:a=a') (e1:b=b') (e:c=c') (f:a'=true->b'=true->c'=false->∀ kk,doit kk=doit' kk):vguard (gv (a&&b) (kB (!c))) true doit h k=vguard (gv (a'&&b') (kB (!c'))) true doit' h k:=by
 subst e0; subst e1; subst e; cases a <;> cases b <;> cases c
 all_goals first|rfl|rw[show doit=doit' from funext (f rfl rfl rfl)]
@[congr 3000] theorem g_congAFn {a a' b b' c c':Bool} {doit doit':(KO β)->Option β} (e0:a=a') (e1:b=b') (e:c=c') (f:a'=true->b'=true->c'=true->∀ kk,doit kk=doit' kk):vguard (gv (a&&b) (kB (!c))) false doit h k=vguard (gv (a'&&b') (kB (!c'))) false doit' h k:=by
 subst e0; subst e1; subst e; cases a <;> cases b <;> cases c
 all_goals first|rfl|rw[show doit=doit' from funext (f rfl rfl rfl)]
theorem qSP(b c:Bool):vop O (.pick (.k (kB b)) (.k (gv b (kB c))) (.k (kB false))) h d k=k (kB (b&&c)) h:=by cases b <;> rfl
theorem qTn(b c:Bool):vop O (.pick (.k (kB b)) (.k (kB true)) (.k (gv (!b) (kB c)))) h d k=k (kB (b||c)) h:=by cases b <;> rfl
theorem qS5(b c:Bool):vop O (.pick (.k (kB (!b))) (.k (kB true)) (.k (gv b (kB c)))) h d k=k (kB (!b||c)) h:=by cases b <;> rfl
theorem qTk(v:Comp):vop O (.box (.k (.v v)) false) h d k=k (.v (.c (.ptr (.own d (h.gen d+1)) 0))) (h.own d (h.gen d+1) (.cells v.cells 0)):=rfl
theorem qJq(r:Ref)(o:Nat):vop O (.nilck (.k (.v (.c (.ptr r o))))) h d k=k (.v (.c (.ptr r o))) h:=qAx _ _ rfl
theorem qIi(r:List PVal)(o:Nat):vop O (.nilck (.k (.v (.c (.p (.pptr r o)))))) h d k=k (.v (.c (.p (.pptr r o)))) h:=qAx _ _ rfl
def plainO(o:AObj):Prop:=o.refs=[]/\∀ σ,o.ren σ=o
theorem qAB(r:List PVal)(imm:Nat):plainO (.cells (pcells r) imm):=by
 constructor
 ·show(pcells r).flatMap Cell.refs=[]
  induction r with
  |nil=>rfl
  |cons a r ih=>exact ih
 ·intro σ;show AObj.cells ((pcells r).map (Cell.ren σ)) imm=_
  congr 1
  induction r with
  |nil=>rfl
  |cons a r ih=>show Cell.p a::(pcells r).map (Cell.ren σ)=_; rw[ih]; rfl
theorem qI9{ps:List TVal}(hp:allB pT ps=true):ps.map TVal.strip=ps/\ps.flatMap TVal.refs=[]/\∀ σ,ps.map (TVal.ren σ)=ps:=by
 letI:Sym:=⟨λ_=>0⟩
 induction ps with
 |nil=>exact⟨rfl,rfl,λ_=>rfl⟩
 |cons a ps ih =>
  have e:(bif pT a then allB pT ps else false)=true:=hp;cases ha:pT a with
  |false=>rw[ha] at e; cases e
  |true =>
   rw[ha] at e;obtain⟨i1,i2,i3⟩:=ih e;obtain⟨q1,q2,q3,_⟩:=qAk ha;refine⟨?_,?_,λσ=>?_⟩
   ·rw[List.map_cons,i1,q2]
   ·rw[List.flatMap_cons,i2,q1]; rfl
   ·rw[List.map_cons,i3,q3]
theorem qAU(g:FuncId)(r:Ref)(off:Nat)(p1 p2:List TVal)(o o':AObj)(v:TVal)(h1:allB pT p1=true)(h2:allB pT p2=true)(hg:h.get r=some o)(ho:plainO o)(ho':plainO o')(hv:pT v=true)
  (hc:O g (p1 ++ .v (.c (.ptr (.im 0) off))::p2) [o]=some (v,[o'])):vcall O (.v (.c (.func g []))) (p1 ++ .v (.c (.ptr r off))::p2) h d k=k v (h.put r o'):=by
 letI:Sym:=⟨λ_=>0⟩
 show callF O g (p1 ++ .v (.c (.ptr r off))::p2) d h k=_;rw[qC6];obtain⟨a1,a2,a3⟩:=qI9 h1;obtain⟨b1,b2,b3⟩:=qI9 h2;obtain⟨_,_,q3,_⟩:=qAk hv;have e1:(p1 ++ .v (.c (.ptr r off))::p2).map TVal.strip=p1 ++ .v (.c (.ptr r off))::p2:=by
  rw[List.map_append,List.map_cons,a1,b1]; rfl
 have e2:(p1 ++ .v (.c (.ptr r off))::p2).flatMap TVal.refs=[r]:=by
  rw[List.flatMap_append,List.flatMap_cons,a2,b2]; rfl
 have e3:reach h fuelReach [r] []=[r]:=by
  show reach h 400 [r] []=[r];unfold reach;rw[show([]:List Ref).contains r=false from rfl,cond_false,hg];dsimp only;rw[ho.1];simp[reach]
 have e4:(p1 ++ .v (.c (.ptr r off))::p2).map (TVal.ren (inn [r]))=p1 ++ .v (.c (.ptr (.im 0) off))::p2:=by
  rw[List.map_append,List.map_cons,a3,b3];have:inn [r] r=some (.im 0):=by simp[inn,idx]
  show p1++TVal.v (.c (match inn [r] r with|some s=>.ptr s off|none=>.junk))::p2=_;rw[this]
 have:callOp O g (p1 ++ .v (.c (.ptr r off))::p2) d h=some (v,h.put r o',{ rd:=(([r]:List Ref)++([o]:List AObj).flatMap AObj.refs++[r]).map Ref.site,wr:=([r]:List Ref).map Ref.site++(List.range ([]:List AObj).length).map (λj=>Site.im (h.ims.length+j)),wild:=Nat.blt 0 ([]:List AObj).length }):=by
  unfold callOp;simp only[e1,e2,e3,qDK,hg,Option.map_some,e4,List.map_cons,List.map_nil,ho.2,hc,ho'.2,q3,List.length_cons,List.length_nil,Nat.lt_irrefl,if_false,List.take,List.drop,putAll]
 rw[this]; rfl
theorem qAP(frz:Bool)(vs:List Comp)(o:AObj)(hv:allB pComp vs=true)(hg:h.get (.im 0)=some o)(ho:plainO o):vfin frz 1 vs h=some (oneOf vs,[o]):=by
 letI:Sym:=⟨λ_=>0⟩
 show finV frz vs h 1=_;obtain⟨q1,q2,q3,q4⟩:=qAk (qDj hv);unfold finV;have e1:(if frz then freezeT h (oneOf vs) else some (oneOf vs,[]))=some (oneOf vs,[]):=by cases frz <;> simp[q4]
 rw[show ims 1=[Ref.im 0] from rfl];simp[e1,settle,hg,ho.1,q1,q3,reach,fuelReach,ho.2]
end
theorem qLM(h:Heap)(i:Nat)(cs:List Cell)(imm:Nat)(hs:(h.get (.im i)).isSome=true):(h.put (.im i) (.cells cs imm)).get (.im i)=some (.cells cs imm):=by
 obtain⟨o,ho⟩:=Option.isSome_iff_exists.1 hs;exact Heap.get_put_eq h (Heap.get_lt ho) (λe=>by cases e)
theorem qG8(h:Heap)(i:Nat)(o:AObj)(d g:Nat):(h.put (.im i) o).get (.own d g)=h.get (.own d g):=rfl
theorem qMG(h:Heap)(i:Nat)(o:AObj)(d:Nat):(h.put (.im i) o).gen d=h.gen d:=rfl
theorem qRN(l:List AObj)(d:Nat):(Heap.mk l .nil).gen d=0:=rfl
noncomputable def plainG(o:Option AObj):Bool:=match o with
 |some (.cells cs _)=>allB isP cs
 |_=>false
theorem qOu(r:List PVal)(imm:Nat):plainG (some (.cells (pcells r) imm))=true:=qB7 r
theorem qLT(imm:Nat):plainG (some (.cells [] imm))=true:=rfl
theorem qKC(x:PVal)(l:List Cell)(imm:Nat):plainG (some (.cells (.p x::l) imm))=plainG (some (.cells l imm)):=rfl
theorem qI5:∀ {cs:List Cell},allB isP cs=true->∃ r,cs=pcells r
 |[],_=>⟨[],rfl⟩
 |.p x::cs,h=>by
  obtain⟨r,e⟩:=qI5 (cs:=cs) h;exact⟨x::r,by rw[e]; rfl⟩
 |.ptr .. :: _,h=>by cases h
 |.sref .. :: _,h=>by cases h
 |.mref .. :: _,h=>by cases h
 |.func .. :: _,h=>by cases h
 |.tsl .. :: _,h=>by cases h
 |.junk::_,h=>by cases h
theorem qDk{h:Heap}(frz:Bool)(vs:List Comp)(hv:allB pComp vs=true)(hp:plainG (h.get (.im 0))=true):vfin frz 1 vs h=some (oneOf vs,[(h.get (.im 0)).getD .dead]):=by
 cases ho:h.get (.im 0) with
 |none=>rw[ho] at hp; cases hp
 |some o=>cases o with
  |cells cs imm =>
   rw[ho] at hp;obtain⟨r,rfl⟩:=qI5 (show allB isP cs=true from hp);exact qAP frz vs _ hv ho (qAB r imm)
  |_=>rw[ho] at hp; cases hp
theorem exQ :
  (∀ {h:Heap}(frz:Bool)(x:PVal),plainG (h.get (.im 0))=true->vfin frz 1 [.c (.p x)] h=some (.v (.c (.p x)),[(h.get (.im 0)).getD .dead])) /\
  (∀ {h:Heap}(frz:Bool)(x y:PVal),plainG (h.get (.im 0))=true->vfin frz 1 [.c (.p x),.c (.p y)] h=some (.tup [.c (.p x),.c (.p y)],[(h.get (.im 0)).getD .dead])) /\
  (∀ {h:Heap}(frz:Bool)(r:List PVal),plainG (h.get (.im 0))=true->vfin frz 1 [.agg (pcells r)] h=some (.v (.agg (pcells r)),[(h.get (.im 0)).getD .dead])) /\
  (∀ {h:Heap}(frz:Bool)(r:List PVal)(y:PVal),plainG (h.get (.im 0))=true->vfin frz 1 [.agg (pcells r),.c (.p y)] h=some (.tup [.agg (pcells r),.c (.p y)],[(h.get (.im 0)).getD .dead])) /\
  (∀ {h:Heap}(frz:Bool),plainG (h.get (.im 0))=true->vfin frz 1 [] h=some (.tup [],[(h.get (.im 0)).getD .dead])) /\
  (∀ (r:List PVal) (imm:Nat),plainG (some (.cells (pcells r) imm))=true)/\(∀ imm:Nat,plainG (some (.cells [] imm))=true)/\(∀ (x:PVal) (l:List Cell) (imm:Nat),plainG (some (.cells (.p x::l) imm))=plainG (some (.cells l imm))) /\
  (∀ o d:AObj,(some o).getD d=o) :=
 ⟨λfrz x hp=>qDk frz _ rfl hp,λfrz x y hp=>qDk frz _ rfl hp,λfrz r hp=>qDk frz _ (by show(bif allB isP (pcells r) then true else false)=true; rw[qB7]; rfl) hp,
 λfrz r y hp=>qDk frz _ (by show(bif allB isP (pcells r) then true else false)=true; rw[qB7]; rfl) hp,λfrz hp=>qDk frz _ rfl hp,qOu,qLT,qKC,λ_ _=>rfl⟩
theorem qNC{α:Type}(p:α->Bool):allB p []=true:=rfl
theorem qG0{α:Type}(p:α->Bool)(a:α)(l:List α):allB p (a::l)=(p a&&allB p l):=by show(bif p a then allB p l else false)=_; cases p a <;> rfl
theorem qOG(r:List PVal):pT (.v (.agg (pcells r)))=true:=qB7 r
theorem qT1(x:PVal):pT (.v (.c (.p x)))=true:=rfl
theorem qTN(l:List Comp):pT (.tup l)=allB pComp l:=rfl
theorem qSB(x:PVal):pComp (.c (.p x))=true:=rfl
theorem qN2(r:List PVal):pComp (.agg (pcells r))=true:=qB7 r
theorem exP:(∀ {α:Type}(p:α->Bool),allB p []=true)/\(∀ {α:Type}(p:α->Bool)(a:α)(l:List α),allB p (a::l)=(p a&&allB p l))/\(∀ r:List PVal,pT (.v (.agg (pcells r)))=true)/\(∀ x:PVal,pT (.v (.c (.p x)))=true) /\
  (∀ l:List Comp,pT (.tup l)=allB pComp l)/\(∀ x:PVal,pComp (.c (.p x))=true)/\(∀ r:List PVal,pComp (.agg (pcells r))=true)/\(true&&true)=true :=
 ⟨qNC,qG0,qOG,qT1,qTN,qSB,qN2,rfl⟩
theorem qFi(n:Nat)(r:List PVal)(e:r.length=n):(pcells r).take n=pcells r:=List.take_of_length_le (by simp[pcells,e])
theorem qEr(n:Nat)(r:List PVal)(e:r.length=n):r.take n=r:=List.take_of_length_le (by omega)
theorem qMX(cs:List Cell):fillA cs []=some cs:=rfl
theorem qLN(cs:List Cell)(o n:Nat)(v:Comp)(r:List (Nat×Nat×Comp)):fillA cs ((o,n,v)::r)=chk (decide (v.cells.length=n)&&decide (o+n<=cs.length)) (fillA (put1 cs o v.cells) r):=by
 show(if v.cells.length=n/\o+n<=cs.length then _ else _)=_;by_cases h:v.cells.length=n/\o+n<=cs.length
 ·rw[if_pos h,decide_eq_true h.1,decide_eq_true h.2]; rfl
 ·rw[if_neg h];have:(decide (v.cells.length=n)&&decide (o+n<=cs.length))=false:=by
   cases h1:decide (v.cells.length=n) with
   |false=>rfl
   |true=>cases h2:decide (o+n<=cs.length) with
    |false=>rfl
    |true=>exact absurd ⟨of_decide_eq_true h1,of_decide_eq_true h2⟩ h
  rw[this]; rfl
theorem qMv(c:Cell)(cs x:List Cell)(n:Nat):put1 (c::cs) (n+1) x=c::put1 cs n x:=by
 unfold put1 splice;rw[show n+1+x.length=(n+x.length)+1 by omega]; rfl
theorem qPf(c x:Cell)(cs:List Cell):put1 (c::cs) 0 [x]=x::cs:=rfl
theorem qQC(cs:List Cell)(r:List PVal):put1 cs 0 (pcells r)=pcells r++cs.drop r.length:=by
 unfold put1 splice;rw[List.take_zero,List.nil_append,Nat.zero_add,qAN]
theorem qNb{β:Type}{O:Oracle}{h:Heap}{d:Nat}{k:KO β}(z:List Cell)(x y:PVal)(hz:z.length=1):vop O (.bslice 1 2 z [(0,.k (.v (.c (.p x)))),(1,.k (.v (.c (.p y))))] false) h d k=k (kSl 1 true [[x],[y]]) h:=by
 match z,hz with
 |[z0],_=>exact qAx _ _ rfl
theorem qNp{β:Type}{O:Oracle}{h:Heap}{d:Nat}{k:KO β}(z:List Cell)(x y w:PVal)(hz:z.length=1):vop O (.bslice 1 3 z [(0,.k (.v (.c (.p x)))),(1,.k (.v (.c (.p y)))),(2,.k (.v (.c (.p w))))] false) h d k=k (kSl 1 true [[x],[y],[w]]) h:=by
 match z,hz with
 |[z0],_=>exact qAx _ _ rfl
theorem exB :
  (∀ {β:Type}{O:Oracle}{h:Heap}{d:Nat}{k:KO β}(z:List Cell)(x y:PVal),z.length=1->vop O (.bslice 1 2 z [(0,.k (.v (.c (.p x)))),(1,.k (.v (.c (.p y))))] false) h d k=k (kSl 1 true [[x],[y]]) h) /\
  (∀ {β:Type}{O:Oracle}{h:Heap}{d:Nat}{k:KO β}(z:List Cell)(x y w:PVal),z.length=1->vop O (.bslice 1 3 z [(0,.k (.v (.c (.p x)))),(1,.k (.v (.c (.p y)))),(2,.k (.v (.c (.p w))))] false) h d k=k (kSl 1 true [[x],[y],[w]]) h) /\
  (∀ {β:Type}{O:Oracle}{h:Heap}{d:Nat}{k:KO β}(z:List Cell),vop O (.build z []) h d k=k (.v (.agg z)) h) /\
  (∀ {β:Type}{O:Oracle}{h:Heap}{d:Nat}{k:KO β}(z:List Cell)(o n:Nat)(v:Comp),vop O (.build z [(o,n,.k (.v v))]) h d k=obnd (fillA z [(o,n,v)]) λcs=>k (.v (.agg cs)) h) /\
  (∀ {β:Type}{O:Oracle}{h:Heap}{d:Nat}{k:KO β}(z:List Cell)(o n o2 n2:Nat)(v v2:Comp),vop O (.build z [(o,n,.k (.v v)),(o2,n2,.k (.v v2))]) h d k=obnd (fillA z [(o,n,v),(o2,n2,v2)]) λcs=>k (.v (.agg cs)) h) /\
  (∀ {β:Type}{O:Oracle}{h:Heap}{d:Nat}{k:KO β}(z:List Cell)(o n o2 n2 o3 n3:Nat)(v v2 v3:Comp),vop O (.build z [(o,n,.k (.v v)),(o2,n2,.k (.v v2)),(o3,n3,.k (.v v3))]) h d k=obnd (fillA z [(o,n,v),(o2,n2,v2),(o3,n3,v3)]) λcs=>k (.v (.agg cs)) h) /\
  (∀ {β:Type}{O:Oracle}{h:Heap}{d:Nat}{k:KO β}(z:List Cell)(o n o2 n2 o3 n3 o4 n4:Nat)(v v2 v3 v4:Comp),vop O (.build z [(o,n,.k (.v v)),(o2,n2,.k (.v v2)),(o3,n3,.k (.v v3)),(o4,n4,.k (.v v4))]) h d k=obnd (fillA z [(o,n,v),(o2,n2,v2),(o3,n3,v3),(o4,n4,v4)]) λcs=>k (.v (.agg cs)) h) /\
  (∀ {β:Type}{O:Oracle}{h:Heap}{d:Nat}{k:KO β}(sz:Nat)(z:List Cell),vop O (.bslice sz 0 z [] false) h d k=k (kSl sz true []) h) /\
  (∀ {β:Type}{O:Oracle}{h:Heap}{d:Nat}{k:KO β}(z:List Cell)(x:PVal),z.length=1->vop O (.bslice 1 1 z [(0,.k (.v (.c (.p x))))] false) h d k=k (kSl 1 true [[x]]) h) /\
  (∀ {β:Type}{O:Oracle}{h:Heap}{d:Nat}{k:KO β}(sz:Nat)(z:List Cell)(r:List PVal),z.length=sz->r.length=sz->vop O (.bslice sz 1 z [(0,.k (.v (.agg (pcells r))))] false) h d k=k (kSl sz true [r]) h) /\
  (∀ {β:Type}{O:Oracle}{h:Heap}{d:Nat}{k:KO β}(sz:Nat)(z:List Cell)(r s:List PVal),z.length=sz->r.length=sz->s.length=sz->vop O (.bslice sz 2 z [(0,.k (.v (.agg (pcells r)))),(1,.k (.v (.agg (pcells s))))] false) h d k=k (kSl sz true [r,s]) h) /\
  (∀ cs:List Cell,fillA cs []=some cs)/\(∀ (cs:List Cell) (o n:Nat) (v:Comp) (r:List (Nat×Nat×Comp)),fillA cs ((o,n,v)::r)=chk (decide (v.cells.length=n)&&decide (o+n<=cs.length)) (fillA (put1 cs o v.cells) r)) /\
  (∀ (c:Cell) (cs x:List Cell) (n:Nat),put1 (c::cs) (n+1) x=c::put1 cs n x)/\(∀ (c x:Cell) (cs:List Cell),put1 (c::cs) 0 [x]=x::cs) :=
 ⟨qNb,qNp,qQA,qQB,qPl,qPD,qPk,qNQ,qM4,qLO,qMM,qMX,qLN,qMv,qPf⟩
theorem exG :
  (∀ d:Nat,h0.gen d=0)/\(∀ (l:List AObj) (d:Nat),(Heap.mk l .nil).gen d=0)/\(∀ (h:Heap) (d g:Nat) (o:AObj),d+1<1048576->(h.own d g o).gen d=g)/\(∀ (h:Heap) (d g:Nat) (o:AObj) (e:Nat),d≠e->(h.own d g o).gen e=h.gen e)/\(∀ (h:Heap) (i:Nat) (o:AObj) (d:Nat),(h.put (.im i) o).gen d=h.gen d) /\
  (∀ (n:Nat) (r:List PVal),r.length=n->(pcells r).take n=pcells r)/\(∀ (n:Nat) (r:List PVal),r.length=n->r.take n=r) /\
  (∀ {β:Type}{h:Heap}{k:KO β}(c:Bool)(v:TVal),vguard (kB c) true (λkk=>kk v h) h k=k (gv c v) h) /\
  (∀ {β:Type}{h:Heap}{k:KO β}(c:Bool)(v:TVal),vguard (kB c) false (λkk=>kk v h) h k=k (gv (!c) v) h) /\
  (∀ {β:Type}{h:Heap}{k:KO β}(p c:Bool)(v:TVal),vguard (gv p (kB c)) true (λkk=>kk v h) h k=k (gv (p&&c) v) h) /\
  (∀ {β:Type}{h:Heap}{k:KO β}(p c:Bool)(v:TVal),vguard (gv p (kB c)) false (λkk=>kk v h) h k=k (gv (p && !c) v) h) /\
  (∀ {β:Type}{O:Oracle}{h:Heap}{d:Nat}{k:KO β}(b c:Bool),vop O (.pick (.k (kB b)) (.k (gv b (kB c))) (.k (kB false))) h d k=k (kB (b&&c)) h) /\
  (∀ {β:Type}{O:Oracle}{h:Heap}{d:Nat}{k:KO β}(b c:Bool),vop O (.pick (.k (kB b)) (.k (kB true)) (.k (gv (!b) (kB c)))) h d k=k (kB (b||c)) h) /\
  (∀ {β:Type}{O:Oracle}{h:Heap}{d:Nat}{k:KO β}(b c:Bool),vop O (.pick (.k (kB (!b))) (.k (kB true)) (.k (gv b (kB c)))) h d k=k (kB (!b||c)) h) /\
  (∀ v:TVal,gv true v=v)/\(∀ v:TVal,gv false v = .undef)/\(∀ (p q:Bool) (v:TVal),gv p (gv q v)=gv (p&&q) v) /\
  (∀ {β:Type}{O:Oracle}{h:Heap}{d:Nat}{k:KO β}(v:Comp),vop O (.box (.k (.v v)) false) h d k=k (.v (.c (.ptr (.own d (h.gen d+1)) 0))) (h.own d (h.gen d+1) (.cells v.cells 0))) /\
  (∀ {β:Type}{O:Oracle}{h:Heap}{d:Nat}{k:KO β}(r:Ref)(o:Nat),vop O (.nilck (.k (.v (.c (.ptr r o))))) h d k=k (.v (.c (.ptr r o))) h) /\
  (∀ {β:Type}{O:Oracle}{h:Heap}{d:Nat}{k:KO β}(r:List PVal)(o:Nat),vop O (.nilck (.k (.v (.c (.p (.pptr r o)))))) h d k=k (.v (.c (.p (.pptr r o)))) h) /\
  (∀ (h:Heap) (i:Nat) (cs:List Cell) (imm:Nat),(h.get (.im i)).isSome=true->(h.put (.im i) (.cells cs imm)).get (.im i)=some (.cells cs imm)) /\
  (∀ (h:Heap) (i:Nat) (o:AObj) (d g:Nat),(h.put (.im i) o).get (.own d g)=h.get (.own d g)) /\
  (∀ (l:List AObj) (cs:List Cell) (imm:Nat),(Heap.mk (.cells cs imm::l) .nil).get (.im 0)=some (.cells cs imm)) /\
  (∀ {α:Type}(a:α),(some a).isSome=true)/\(∀ x:Cell,(Comp.c x).cells=[x])/\(∀ l:List Cell,(Comp.agg l).cells=l) :=
 ⟨qOK,qRN,Heap.own_gen,Heap.own_gen_ne,qMG,qFi,qEr,g_t,g_f,g_gt,g_gf,qSP,qTn,qS5,gv_t,gv_f,qTq,qTk,qJq,qIi,qLM,qG8,λl cs imm=>rfl,λ_=>rfl,λ_=>rfl,λ_=>rfl⟩
section
variable {β:Type} {O:Oracle} {h:Heap} {d:Nat} {k:KO β}
theorem qVy(v:TVal):v.strip.strip=v.strip:=by
 have hc:∀ c:Cell,c.strip.strip=c.strip:=λc=>by cases c <;> rfl
 have hx:∀ x:Comp,x.strip.strip=x.strip:=λx=>by
  cases x with
  |c c=>show Comp.c c.strip.strip=_; rw[hc]; rfl
  |agg cs=>show Comp.agg ((cs.map Cell.strip).map Cell.strip)=_; rw[List.map_map]; congr 1; exact List.map_congr_left λc _=>hc c
 cases v with
 |v x=>show TVal.v x.strip.strip=_; rw[hx]; rfl
 |tup vs=>show TVal.tup ((vs.map Comp.strip).map Comp.strip)=_; rw[List.map_map]; congr 1; exact List.map_congr_left λc _=>hx c
theorem qUz(g:FuncId)(az:List TVal):vcall O (.v (.c (.func g []))) az h d k=vcall O (.v (.c (.func g []))) (az.map TVal.strip) h d k:=by
 show callF O g az d h k=callF O g (az.map TVal.strip) d h k;rw[qC6,qC6];have:callOp O g az d h=callOp O g (az.map TVal.strip) d h:=by
  unfold callOp;have:(az.map TVal.strip).map TVal.strip=az.map TVal.strip:=by
   rw[List.map_map]; exact List.map_congr_left λc _=>qVy c
  simp only[this]
 rw[this]
def isPT:Cell->Bool
 |.p _ | .tsl .. => true
 |_=>false
def compPT:Comp->Bool
 |.c c=>isPT c
 |.agg cs=>cs.all isPT
theorem qHu(hp:Heap)(n:Nat)(c:Cell)(hc:isPT c=true):∃ x,c.strip = .p x/\freeze hp (n+1) c=some (x,[]):=by
 cases c with
 |p v=>exact⟨v,rfl,rfl⟩
 |tsl sz rows r=>exact⟨_,rfl,rfl⟩
 |_=>cases hc
theorem qLP(hp:Heap)(n:Nat):∀ cs:List Cell,cs.all isPT=true->∃ xs:List PVal,cs.map Cell.strip=pcells xs/\cs.mapM (freeze hp (n+1))=some (xs.map λx=>(x,[])):=by
 intro cs
 induction cs with
 |nil=>intro _; exact⟨[],rfl,rfl⟩
 |cons c cs ih =>
  intro hc;rw[List.all_cons,Bool.and_eq_true] at hc;obtain⟨x,e1,e2⟩:=qHu hp n c hc.1;obtain⟨xs,e3,e4⟩:=ih hc.2;refine⟨x::xs,?_,?_⟩
  ·rw[List.map_cons,e1,e3]; rfl
  ·rw[List.mapM_cons,e2,e4]; rfl
theorem qD2(hp:Heap)(x:Comp)(hx:compPT x=true):freezeC hp x=some (x.strip,[])/\pComp x.strip=true:=by
 cases x with
 |c c =>
  obtain⟨v,e1,e2⟩:=qHu hp 29 c hx;constructor
  ·show(freeze hp 30 c).map _=_;rw[e2]; show _=some (Comp.c c.strip,[]); rw[e1]; rfl
  ·show isP c.strip=true; rw[e1]; rfl
 |agg cs =>
  obtain⟨xs,e1,e2⟩:=qLP hp 29 cs hx;constructor
  ·show(cs.mapM (freeze hp 30)).map _=_;rw[e2]; show _=some (Comp.agg (cs.map Cell.strip),[]); rw[e1];show some (Comp.agg ((xs.map λx=>(x,([]:List Ref))).map λy=>.p y.1),(xs.map λx=>(x,([]:List Ref))).flatMap (·.2))=_
   congr 2
   ·rw[List.map_map]; rfl
   ·clear e1 e2
    induction xs with
    |nil=>rfl
    |cons a l ih=>rw[List.map_cons,List.flatMap_cons,ih]; rfl
  ·show allB isP (cs.map Cell.strip)=true; rw[e1]; exact qB7 xs
theorem qFR(hp:Heap):∀ vs:List Comp,vs.all compPT=true->vs.mapM (freezeC hp)=some (vs.map λx=>(x.strip,[]))/\allB pComp (vs.map Comp.strip)=true:=by
 intro vs
 induction vs with
 |nil=>intro _; exact⟨rfl,rfl⟩
 |cons x vs ih =>
  intro hv;rw[List.all_cons,Bool.and_eq_true] at hv;obtain⟨e1,e2⟩:=qD2 hp x hv.1;obtain⟨e3,e4⟩:=ih hv.2;constructor
  ·rw[List.mapM_cons,e1,e3]; rfl
  ·rw[List.map_cons,qG0,e2,e4]; rfl
theorem qS6(vs:List Comp)(hv:vs.all compPT=true):vfin true 0 vs h=some (oneOf (vs.map Comp.strip),[]):=by
 letI:Sym:=⟨λ_=>0⟩
 rw[qCL];obtain⟨e1,e2⟩:=qFR h vs hv;have ef:freezeT h (oneOf vs)=some (oneOf (vs.map Comp.strip),[]):=by
  match vs,hv,e1,e2 with
  |[],_,_,_=>rfl
  |[x],hv,_,_ =>
   rw[List.all_cons,Bool.and_eq_true] at hv;show(freezeC h x).map _=_;rw[(qD2 h x hv.1).1]; rfl
  |x::y::vs,_,e1,_ =>
   show((x::y::vs).mapM (freezeC h)).map _=_;rw[e1];show some (TVal.tup (((x::y::vs).map λx=>(x.strip,([]:List Ref))).map (·.1)),((x::y::vs).map λx=>(x.strip,([]:List Ref))).flatMap (·.2))=_
   congr 2
   ·rw[List.map_map]; rfl
   ·generalize (x::y::vs)=l
    induction l with
    |nil=>rfl
    |cons a l ih=>rw[List.map_cons,List.flatMap_cons,ih]; rfl
 obtain⟨q1,q2,q3,q4⟩:=qAk (qDj e2);unfold finV;rw[show ims 0=([]:List Ref) from rfl];simp[ef,settle,q1,q3,reach,fuelReach]
def Bears(sz:Nat)(v:Cell)(rows:List (List PVal)):Prop:=(rows=[]/\v = .p .nilslice)\/(rows≠[]/\∃ r,v = .tsl sz rows r)
theorem Grow.bears{D:List Nat}{sz:Nat}{v:Cell}{rows:List (List PVal)}{h:Heap}(G:Grow D sz v rows h):Bears sz v rows:=by
 rcases G with ⟨a,b⟩|⟨a,e,g,_,b,_⟩
 ·exact .inl ⟨a,b⟩
 ·exact .inr ⟨a,_,b⟩
theorem Bears.strip{sz:Nat}{v:Cell}{rows:List (List PVal)}(G:Bears sz v rows):v.strip = .p (growP sz rows):=by
 rcases G with ⟨rfl,rfl⟩|⟨hne,r,rfl⟩
 ·rfl
 ·cases rows with
  |nil=>exact absurd rfl hne
  |cons _ _=>rfl
theorem Bears.pt{sz:Nat}{v:Cell}{rows:List (List PVal)}(G:Bears sz v rows):isPT v=true:=by
 rcases G with ⟨rfl,rfl⟩|⟨hne,r,rfl⟩ <;> rfl
theorem Bears.call1{sz:Nat}{v:Cell}{rows:List (List PVal)}(G:Bears sz v rows)(g:FuncId)(az:List TVal):vcall O (.v (.c (.func g []))) (.v (.c v)::az) h d k=vcall O (.v (.c (.func g []))) (.v (.c (.p (growP sz rows)))::az) h d k:=by
 rw[qUz g (_::az),qUz g (.v (.c (.p (growP sz rows)))::az)];show vcall O _ (.v (.c v.strip)::_) h d k=_;rw[G.strip]; rfl
theorem Bears.len{sz:Nat}{v:Cell}{rows:List (List PVal)}(G:Bears sz v rows):vlen O 2 (.v (.c v)) h d k=k (kI (rows.length:Int)) h:=by
 rcases G with ⟨rfl,rfl⟩|⟨_,r,rfl⟩
 ·rfl
 ·exact qFs _ _ _
theorem Bears.at{sz:Nat}{v:Cell}{rows:List (List PVal)}(G:Bears sz v rows)(i:Int):viaddr sz (.v (.c v)) (kI i) h k=chk (decide (0<=i)) (obnd rows[i.toNat]? λrow=>k (.v (.c (.p (.pptr row 0)))) h):=by
 rcases G with ⟨rfl,rfl⟩|⟨_,r,rfl⟩
 ·by_cases hi:0<=i
  ·obtain⟨n,rfl⟩:∃ n:Nat,i=n:=⟨i.toNat,by omega⟩;rw[decide_eq_true hi]; simp[chk,obnd]; rfl
  ·obtain⟨n,rfl⟩:∃ n:Nat,i=Int.negSucc n:=⟨(-i-1).toNat,by omega⟩;rw[decide_eq_false hi]; rfl
 ·exact qFa _ _ _ _
theorem Bears.fin{sz:Nat}{v:Cell}{rows:List (List PVal)}(G:Bears sz v rows):vfin true 0 [.c v] h=some (.v (.c (.p (growP sz rows))),[]):=by
 rw[qS6 _ (by show(isPT v&&true)=true; rw[G.pt]; rfl)];show some (TVal.v (.c v.strip),_)=_;rw[G.strip]
end
section
variable {β:Type} {O:Oracle} {h:Heap} {d:Nat} {kt:KT β}
@[congr] theorem vtouch_congr {op op':AOp} (e:op=op'):vtouch O op h d kt=vtouch O op' h d kt:=by rw[e]
theorem qHM(op:AOp)(hp:∀ p,plan .nil op=some p->∃ v,p = .pure v):vtouch O op h d kt=(slow O op .nil h d).bind λx=>kt x.1 x.2 noTouch:=by
 show bnd (plan2 op .nil) (λp=>bnd (p.exec O d h) λx=>kt x.1 x.2.1 x.2.2)=_;rw[qAr];unfold slow;cases hq:plan .nil op with
 |none=>rfl
 |some p =>
  obtain⟨v,rfl⟩:=hp p hq;rfl
theorem qPh{α:Type}{o:Option α}{f:α->TVal}{p:Plan}(e:(o.map λc=>Plan.pure (f c))=some p):∃ v,p = .pure v:=by
 cases o with
 |none=>cases e
 |some c=>exact⟨f c,(Option.some.inj e).symm⟩
theorem qTV(op:BinOp)(kd:Nat)(a b:Cell):vtouch O (.bin op kd (.k (.v (.c a))) (.k (.v (.c b)))) h d kt=vbin op kd (.v (.c a)) (.v (.c b)) h λv h=>kt v h noTouch:=by
 rw[qHM (.bin op kd (.k (.v (.c a))) (.k (.v (.c b)))) (λp e=>qPh (o:=binV op kd a b) (f:=λc=>.v (.c c)) e)];exact(qFj O op kd (.k (.v (.c a))) (.k (.v (.c b))) .nil h d (λv h=>kt v h noTouch)).symm
theorem t_mv(v:TVal):vtouch O (.mv (.k v)) h d kt=kt v h noTouch:=by
 exact qFW _ _ rfl
theorem qTm(vs:List Comp)(i:Nat):vtouch O (.extract (.k (.tup vs)) i) h d kt=obnd vs[i]? λv=>kt (.v v) h noTouch:=by
 cases hv:vs[i]? with
 |none =>
  have:plan .nil (.extract (.k (.tup vs)) i)=none:=by
   show(match vs[i]? with|some v=>some (Plan.pure (.v v))|none=>none)=none;rw[hv]
  show bnd (plan2 _ .nil) _=_;rw[qAr,this]; rfl
 |some v =>
  have:plan .nil (.extract (.k (.tup vs)) i)=some (.pure (.v v)):=by
   show(match vs[i]? with|some v=>some (Plan.pure (.v v))|none=>none)=_;rw[hv]
  show bnd (plan2 _ .nil) _=_;rw[qAr,this]; rfl
theorem qBe(op:AOp)(v:TVal)(hb:plan .nil op=some (.pure v)):vtouch O op h d kt=kt v h noTouch:=qFW op v hb
theorem qRC(o off:Nat)(r:Ref):vtouch O (.faddr off (.k (.v (.c (.ptr r o))))) h d kt=kt (.v (.c (.ptr r (o+off)))) h noTouch:=qBe _ _ rfl
theorem qPw(o off:Nat)(r:List PVal):vtouch O (.faddr off (.k (.v (.c (.p (.pptr r o)))))) h d kt=kt (.v (.c (.p (.pptr r (o+off))))) h noTouch:=qBe _ _ rfl
theorem qSE(s:LB):vtouch O (.len 0 (.k (kS s))) h d kt=kt (kI (s.length:Int)) h noTouch:=qBe _ _ rfl
theorem qMi:vtouch O (.len 2 (.k kNil)) h d kt=kt (kI 0) h noTouch:=qBe _ _ rfl
theorem qPY(sz:Nat)(t:Bool)(rows:List (List PVal)):vtouch O (.len 2 (.k (kSl sz t rows))) h d kt=kt (kI (rows.length:Int)) h noTouch:=qBe _ _ rfl
theorem qNJ(sz:Nat)(rows:List (List PVal))(r:Ref):vtouch O (.len 2 (.k (.v (.c (.tsl sz rows r))))) h d kt=kt (kI (rows.length:Int)) h noTouch:=qBe _ _ rfl
theorem qTj(b:Bool):vtouch O (.un .not (.k (kB b))) h d kt=kt (kB (!b)) h noTouch:=qBe _ _ rfl
theorem qId(op:AOp)(r:Ref)(pk:List AObj->Option Res)(hb:plan .nil op=some (.go [r] pk)):vtouch O op h d kt=((h.get r).bind λo=>goOp [r] pk d h).bind λx=>kt x.1 x.2.1 x.2.2:=by
 show bnd (plan2 op .nil) (λp=>bnd (p.exec O d h) λx=>kt x.1 x.2.1 x.2.2)=_;rw[qAr,hb];show bnd (goOp [r] pk d h) _=_;cases hg:h.get r with
 |none =>
  have:goOp [r] pk d h=none:=by unfold goOp; rw[qDK,hg]; rfl
  rw[this]; rfl
 |some o =>
  show bnd (goOp [r] pk d h) _=(goOp [r] pk d h).bind _;cases goOp [r] pk d h <;> rfl
theorem qSR(n off:Nat)(r:Ref):vtouch O (.load false n (.k (.v (.c (.ptr r off))))) h d kt=objK (h.get r) λcs _=>obnd cs[off]? λc=>kt (.v (.c c)) h ⟨[r.site],[],false⟩:=by
 rw[qId _ r _ rfl];cases hg:h.get r with
 |none=>rfl
 |some o =>
  show(goOp [r] _ d h).bind _=_;unfold goOp;rw[qDK,hg];cases o with
  |cells cs imm =>
   cases hc:cs[off]? with
   |none =>
    have h1:partOf false n cs off=none:=by simp[partOf,hc]
    simp only[Option.map_some,h1,objK,Option.map_none,hc]; rfl
   |some c =>
    have h1:partOf false n cs off=some (.v (.c c)):=by simp[partOf,hc]
    simp only[Option.map_some,h1,objK,hc]; rfl
  |_=>rfl
theorem qR5(n off:Nat)(r:Ref):vtouch O (.load true n (.k (.v (.c (.ptr r off))))) h d kt=objK (h.get r) λcs _=>chk (decide (((cs.drop off).take n).length=n)) (kt (.v (.agg ((cs.drop off).take n))) h ⟨[r.site],[],false⟩):=by
 rw[qId _ r _ rfl];cases hg:h.get r with
 |none=>rfl
 |some o =>
  show(goOp [r] _ d h).bind _=_;unfold goOp;rw[qDK,hg];cases o with
  |cells cs imm =>
   by_cases hc:((cs.drop off).take n).length=n
   ·have h1:partOf true n cs off=some (.v (.agg ((cs.drop off).take n))):=by unfold partOf; rw[if_pos rfl]; dsimp only; rw[if_pos hc]
    simp only[Option.map_some,h1,objK,chk];rw[decide_eq_true hc]; rfl
   ·have h1:partOf true n cs off=none:=by unfold partOf; rw[if_pos rfl]; dsimp only; rw[if_neg hc]
    simp only[Option.map_some,h1,objK,chk,Option.map_none];rw[decide_eq_false hc]; rfl
  |_=>rfl
theorem qKo(g:FuncId)(az:List TVal)(v:TVal)(ha:allB pT az=true)(ho:O g az []=some (v,[]))(hv:pT v=true):vtouch O (.call (.k (.v (.c (.func g [])))) (az.map .k)) h d kt=kt v h noTouch:=qJx g az v ha ho hv
theorem qIb(t:Touch):Touch.apart noTouch t=true:=by unfold Touch.apart noTouch disj; simp
theorem qIU(t:Touch):Touch.apart t noTouch=true:=by unfold Touch.apart noTouch disj; simp
theorem qLa(a b:List Site):Touch.apart ⟨a,[],false⟩ ⟨b,[],false⟩=true:=by unfold Touch.apart disj; simp
theorem qIZ(ts:List Touch):apartAll ts []=true:=rfl
theorem qIE(ts:List Touch)(i j:Nat)(ps:List (Nat×Nat)):apartAll ts ((i,j)::ps)=((match ts[i]?,ts[j]? with|some a,some b=>a.apart b|_,_=>false)&&apartAll ts ps):=rfl
theorem qT3(x y:Option β):(bif true then x else y)=x:=rfl
theorem exT :
  (∀ {β:Type}{O:Oracle}{h:Heap}{d:Nat}{kt:KT β}(op:BinOp)(kd:Nat)(a b:Cell),vtouch O (.bin op kd (.k (.v (.c a))) (.k (.v (.c b)))) h d kt=vbin op kd (.v (.c a)) (.v (.c b)) h λv h=>kt v h noTouch) /\
  (∀ {β:Type}{O:Oracle}{h:Heap}{d:Nat}{kt:KT β}(v:TVal),vtouch O (.mv (.k v)) h d kt=kt v h noTouch) /\
  (∀ {β:Type}{O:Oracle}{h:Heap}{d:Nat}{kt:KT β}(vs:List Comp)(i:Nat),vtouch O (.extract (.k (.tup vs)) i) h d kt=obnd vs[i]? λv=>kt (.v v) h noTouch) /\
  (∀ {β:Type}{O:Oracle}{h:Heap}{d:Nat}{kt:KT β}(o off:Nat)(r:Ref),vtouch O (.faddr off (.k (.v (.c (.ptr r o))))) h d kt=kt (.v (.c (.ptr r (o+off)))) h noTouch) /\
  (∀ {β:Type}{O:Oracle}{h:Heap}{d:Nat}{kt:KT β}(o off:Nat)(r:List PVal),vtouch O (.faddr off (.k (.v (.c (.p (.pptr r o)))))) h d kt=kt (.v (.c (.p (.pptr r (o+off))))) h noTouch) /\
  (∀ {β:Type}{O:Oracle}{h:Heap}{d:Nat}{kt:KT β}(s:LB),vtouch O (.len 0 (.k (kS s))) h d kt=kt (kI (s.length:Int)) h noTouch) /\
  (∀ {β:Type}{O:Oracle}{h:Heap}{d:Nat}{kt:KT β},vtouch O (.len 2 (.k kNil)) h d kt=kt (kI 0) h noTouch) /\
  (∀ {β:Type}{O:Oracle}{h:Heap}{d:Nat}{kt:KT β}(sz:Nat)(t:Bool)(rows:List (List PVal)),vtouch O (.len 2 (.k (kSl sz t rows))) h d kt=kt (kI (rows.length:Int)) h noTouch) /\
  (∀ {β:Type}{O:Oracle}{h:Heap}{d:Nat}{kt:KT β}(sz:Nat)(rows:List (List PVal))(r:Ref),vtouch O (.len 2 (.k (.v (.c (.tsl sz rows r))))) h d kt=kt (kI (rows.length:Int)) h noTouch) /\
  (∀ {β:Type}{O:Oracle}{h:Heap}{d:Nat}{kt:KT β}(b:Bool),vtouch O (.un .not (.k (kB b))) h d kt=kt (kB (!b)) h noTouch) /\
  (∀ {β:Type}{O:Oracle}{h:Heap}{d:Nat}{kt:KT β}(n off:Nat)(r:Ref),vtouch O (.load false n (.k (.v (.c (.ptr r off))))) h d kt=objK (h.get r) λcs _=>obnd cs[off]? λc=>kt (.v (.c c)) h ⟨[r.site],[],false⟩) /\
  (∀ {β:Type}{O:Oracle}{h:Heap}{d:Nat}{kt:KT β}(n off:Nat)(r:Ref),vtouch O (.load true n (.k (.v (.c (.ptr r off))))) h d kt=objK (h.get r) λcs _=>chk (decide (((cs.drop off).take n).length=n)) (kt (.v (.agg ((cs.drop off).take n))) h ⟨[r.site],[],false⟩)) /\
  (∀ t:Touch,Touch.apart noTouch t=true)/\(∀ t:Touch,Touch.apart t noTouch=true)/\(∀ a b:List Site,Touch.apart ⟨a,[],false⟩ ⟨b,[],false⟩=true)/\(∀ ts:List Touch,apartAll ts []=true) /\
  (∀ (ts:List Touch) (i j:Nat) (ps:List (Nat×Nat)),apartAll ts ((i,j)::ps)=((match ts[i]?,ts[j]? with|some a,some b=>a.apart b|_,_=>false)&&apartAll ts ps))/\(∀ {β:Type}(x y:Option β),(bif true then x else y)=x) :=
 ⟨qTV,t_mv,qTm,qRC,qPw,qSE,qMi,qPY,qNJ,qTj,qSR,qR5,qIb,qIU,qLa,qIZ,qIE,qT3⟩
end
section
variable {β:Type} {O:Oracle} {h:Heap} {d:Nat} {k:KO β}
theorem qTQ(f:FuncId)(r:Ref):vop O (.mkfn f [.k (.v (.c (.ptr r 0)))]) h d k=k (.v (.c (.func f [r]))) h:=qAx _ _ rfl
theorem qRB(f:FuncId):vop O (.mkfn f []) h d k=k (.v (.c (.func f []))) h:=qAx _ _ rfl
theorem qTU(g:FuncId)(c:Ref)(az:List TVal):vcall O (.v (.c (.func g [c]))) az h d k=vcall O (.v (.c (.func g []))) (az++[.v (.c (.ptr c 0))]) h d k:=rfl
theorem qXj(g:FuncId)(p1 p2:List TVal)(f:FuncId)(v:TVal)(h1:allB pT p1=true)(h2:allB pT p2=true)(hv:pT v=true)(hc:O g (p1 ++ .v (.c (.func f []))::p2) []=some (v,[])):vcall O (.v (.c (.func g []))) (p1 ++ .v (.c (.func f []))::p2) h d k=k v h:=by
 obtain⟨a1,a2,a3⟩:=qI9 h1;obtain⟨b1,b2,b3⟩:=qI9 h2;refine qFV g _ v ?_ ?_ (λσ=>?_) hc hv
 ·rw[List.map_append,List.map_cons,a1,b1]; rfl
 ·rw[List.flatMap_append,List.flatMap_cons,a2,b2]; rfl
 ·rw[List.map_append,List.map_cons,a3,b3]; rfl
theorem qM7(i:Nat)(o:AObj)(hg:h.get (.im i)=some o):h.put (.im i) o=h:=by
 have:h.ims[i]?=some o:=by
  unfold Heap.get at hg;dsimp only at hg;split at hg
  ·cases hg
  ·exact hg
 show({ h with ims:=h.ims.set i o }:Heap)=h;have e:h.ims.set i o=h.ims:=by
  obtain⟨hi,he⟩:=List.getElem?_eq_some_iff.1 this;rw[<- he]; exact List.set_getElem_self hi
 rw[e]
theorem qRS:vop O .mkmap h d k=k (.v (.c (.mref (.own d (h.gen d+1))))) (h.own d (h.gen d+1) (.map [] 0)):=rfl
theorem qPd(es:List (PVal×Bool×List PVal)):vlen O 3 (.v (.c (.p (.pmap es)))) h d k=k (kI (es.length:Int)) h:=by
 show opK O (.len 3 (.k _)) .nil h d k=_;rw[qA9]; rfl
def smP(m:List (LB×List PVal)):PVal:=.pmap (m.map λe=>(.str e.1,true,e.2))
def lookR{α:Type}(s:LB):List (LB×α)->Option α
 |[]=>none
 |e::m=>if s=e.1 then some e.2 else lookR s m
theorem qHZ{α:Type}(s:LB)(f:LB×α->PVal×Comp)(hf:∀ e,(f e).1 = .str e.1):∀ (m:List (LB×α)) (i:Nat),∃ o:Option (Nat×Comp),findE 2 (.str s) (m.map f) i=some o/\(o.map (·.2))=(m.find? λe=>decide (s=e.1)).map λe=>(f e).2
 |[],i=>⟨none,rfl,rfl⟩
 |e::m,i=>by
  have hk:keyEq 2 (.str s) (f e).1=some (s==e.1):=by rw[hf]; rfl
  obtain⟨o,h1,h2⟩:=qHZ s f hf m (i+1);rw[List.map_cons];unfold findE;rw[hk];by_cases hs:s=e.1
  ·rw[show(s==e.1)=true by simp[hs]];exact⟨some (i,(f e).2),rfl,by simp[hs]⟩
  ·rw[show(s==e.1)=false by simp[hs]];exact⟨o,h1,by rw[h2]; simp[hs]⟩
theorem qGn{α:Type}(s:LB):∀ m:List (LB×α),lookR s m=(m.find? λe=>decide (s=e.1)).map (·.2)
 |[]=>rfl
 |e::m=>by
  unfold lookR;by_cases hs:s=e.1
  ·simp[hs]
  ·simp[hs,qGn s m]
theorem qPy(zs:List Cell)(m:List (LB×List PVal))(s:LB):vop O (.lookup 2 (.agg zs) (.k (.v (.c (.p (smP m))))) (.k (kS s)) false) h d k=k (match lookR s m with|some r=>.v (.agg (pcells r))|none=>.v (.agg zs)) h:=by
 refine qAx _ _ ?_;obtain⟨o,h1,h2⟩:=qHZ s (λe:LB×List PVal=>((.str e.1,.agg (pcells e.2)):PVal×Comp)) (λ_=>rfl) m 0;show Option.map (λe=>Plan.pure (found (.agg zs) false e)) (findE 2 (.str s) ((m.map λe=>((.str e.1,true,e.2):PVal×Bool×List PVal)).map pmComp) 0)=_;have e1:(m.map λe=>((.str e.1,true,e.2):PVal×Bool×List PVal)).map pmComp=m.map λe:LB×List PVal=>((.str e.1,.agg (pcells e.2)):PVal×Comp):=by
  rw[List.map_map]; rfl
 rw[e1,h1,qGn];cases hf:m.find? (λe=>decide (s=e.1)) with
 |none =>
  rw[hf] at h2;have:o=none:=by cases o with|none=>rfl|some _=>cases h2
  subst this; rfl
 |some e =>
  rw[hf] at h2;cases o with
  |none=>cases h2
  |some x =>
   obtain⟨i,c⟩:=x;have:c = .agg (pcells e.2):=Option.some.inj h2;subst this; rfl
theorem qRr(m:List (LB×List PVal)):vlen O 3 (.v (.c (.p (smP m)))) h d k=k (kI (m.length:Int)) h:=by
 unfold smP; rw[qPd,List.length_map]
end
theorem exC :
  (∀ {β:Type}{O:Oracle}{h:Heap}{d:Nat}{k:KO β}(f:FuncId)(r:Ref),vop O (.mkfn f [.k (.v (.c (.ptr r 0)))]) h d k=k (.v (.c (.func f [r]))) h) /\
  (∀ {β:Type}{O:Oracle}{h:Heap}{d:Nat}{k:KO β}(f:FuncId),vop O (.mkfn f []) h d k=k (.v (.c (.func f []))) h) /\
  (∀ {β:Type}{O:Oracle}{h:Heap}{d:Nat}{k:KO β}(g:FuncId)(c:Ref)(az:List TVal),vcall O (.v (.c (.func g [c]))) az h d k=vcall O (.v (.c (.func g []))) (az++[.v (.c (.ptr c 0))]) h d k) /\
  (∀ {β:Type}{O:Oracle}{h:Heap}{d:Nat}{k:KO β},vop O .mkmap h d k=k (.v (.c (.mref (.own d (h.gen d+1))))) (h.own d (h.gen d+1) (.map [] 0))) /\
  (∀ {β:Type}{O:Oracle}{h:Heap}{d:Nat}{k:KO β}(m:List (LB×List PVal)),vlen O 3 (.v (.c (.p (smP m)))) h d k=k (kI (m.length:Int)) h) /\
  (∀ {β:Type}{O:Oracle}{h:Heap}{d:Nat}{k:KO β}(zs:List Cell)(m:List (LB×List PVal))(s:LB),vop O (.lookup 2 (.agg zs) (.k (.v (.c (.p (smP m))))) (.k (kS s)) false) h d k=k (match lookR s m with|some r=>.v (.agg (pcells r))|none=>.v (.agg zs)) h) :=
 ⟨qTQ,qRB,qTU,qRS,qRr,qPy⟩
inductive Sl (α:Type) where
 |nil
 |mk (t:Bool) (l:List α)
def Sl.list{α:Type}:Sl α->List α
 |.nil=>[]
 |.mk _ l=>l
def Sl.len{α:Type}(s:Sl α):Nat:=s.list.length
def slP{α:Type}(sz:Nat)(f:α->List PVal):Sl α->PVal
 |.nil=>.nilslice
 |.mk t l=>.slice sz t (l.map f)
def grown{α:Type}(l:List α):Sl α:=match l with
 |[]=>.nil
 |l=>.mk false l
theorem qEU{α:Type}(sz:Nat)(f:α->List PVal)(l:List α):growP sz (l.map f)=slP sz f (grown l):=by cases l <;> rfl
theorem qB3{α:Type}(l:List α):(grown l).list=l:=by cases l <;> rfl
def sRow(s:LB):List PVal:=[.str s]
def iRow(n:Int):List PVal:=[.int .i64 n]
inductive VT where
 |mk (kind:Int) (b:Bool) (n:Int) (s:LB) (keys:Sl (LB)) (l:Sl VT)
namespace VT
def kind:VT->Int | .mk k _ _ _ _ _=>k
def b:VT->Bool | .mk _ b _ _ _ _=>b
def n:VT->Int | .mk _ _ n _ _ _=>n
def s:VT->LB | .mk _ _ _ s _ _=>s
def keys:VT->Sl (LB) | .mk _ _ _ _ k _=>k
def l:VT->Sl VT | .mk _ _ _ _ _ l=>l
mutual
def row:VT->List PVal
 |.mk k b n s ks l=>[.int .i64 k,.bool b,.int .i64 n,.str s,slP 1 sRow ks,slRow l]
def slRow:Sl VT->PVal
 |.nil=>.nilslice
 |.mk t l=>.slice 6 t (rows l)
def rows:List VT->List (List PVal)
 |[]=>[]
 |v::vs=>row v::rows vs
end
theorem qBR:∀ l:List VT,rows l=l.map row
 |[]=>by simp[rows]
 |v::vs=>by simp[rows,qBR vs]
theorem qCB(l:Sl VT):slRow l=slP 6 row l:=by cases l <;> simp[slRow,slP,qBR]
theorem row_eq(v:VT):row v=[.int .i64 v.kind,.bool v.b,.int .i64 v.n,.str v.s,slP 1 sRow v.keys,slP 6 row v.l]:=by
 cases v; simp[row,qCB,kind,b,n,s,keys,l]
theorem row_len(v:VT):(row v).length=6:=by rw[row_eq]; rfl
theorem row0(v:VT):(row v)[0]?=some (.int .i64 v.kind):=by rw[row_eq]; rfl
theorem row1(v:VT):(row v)[1]?=some (.bool v.b):=by rw[row_eq]; rfl
theorem row2(v:VT):(row v)[2]?=some (.int .i64 v.n):=by rw[row_eq]; rfl
theorem row3(v:VT):(row v)[3]?=some (.str v.s):=by rw[row_eq]; rfl
theorem row4(v:VT):(row v)[4]?=some (slP 1 sRow v.keys):=by rw[row_eq]; rfl
theorem row5(v:VT):(row v)[5]?=some (slP 6 row v.l):=by rw[row_eq]; rfl
theorem mem_size{v x:VT}(h:x∈v.l.list):SizeOf.sizeOf x<SizeOf.sizeOf v:=by
 cases v with
 |mk k b n s ks l =>
  cases l with
  |nil=>simp[VT.l,Sl.list] at h
  |mk t l =>
   have:=List.sizeOf_lt_of_mem (show x∈l from h);simp; omega
end VT
inductive TT where
 |mk (kind:Int) (name:LB) (names:Sl (LB)) (kids:Sl TT)
namespace TT
def kind:TT->Int | .mk k _ _ _=>k
def name:TT->LB | .mk _ n _ _=>n
def names:TT->Sl (LB) | .mk _ _ n _=>n
def kids:TT->Sl TT | .mk _ _ _ k=>k
mutual
def row:TT->List PVal
 |.mk k n ns l=>[.int .i64 k,.str n,slP 1 sRow ns,slRow l]
def slRow:Sl TT->PVal
 |.nil=>.nilslice
 |.mk t l=>.slice 4 t (rows l)
def rows:List TT->List (List PVal)
 |[]=>[]
 |v::vs=>row v::rows vs
end
theorem qBR:∀ l:List TT,rows l=l.map row
 |[]=>by simp[rows]
 |v::vs=>by simp[rows,qBR vs]
theorem qCB(l:Sl TT):slRow l=slP 4 row l:=by cases l <;> simp[slRow,slP,qBR]
theorem row_eq(v:TT):row v=[.int .i64 v.kind,.str v.name,slP 1 sRow v.names,slP 4 row v.kids]:=by
 cases v; simp[row,qCB,kind,name,names,kids]
theorem row_len(v:TT):(row v).length=4:=by rw[row_eq]; rfl
theorem row0(v:TT):(row v)[0]?=some (.int .i64 v.kind):=by rw[row_eq]; rfl
theorem row1(v:TT):(row v)[1]?=some (.str v.name):=by rw[row_eq]; rfl
theorem row2(v:TT):(row v)[2]?=some (slP 1 sRow v.names):=by rw[row_eq]; rfl
theorem row3(v:TT):(row v)[3]?=some (slP 4 row v.kids):=by rw[row_eq]; rfl
theorem mem_size{v x:TT}(h:x∈v.kids.list):SizeOf.sizeOf x<SizeOf.sizeOf v:=by
 cases v with
 |mk k n ns l =>
  cases l with
  |nil=>simp[TT.kids,Sl.list] at h
  |mk t l =>
   have:=List.sizeOf_lt_of_mem (show x∈l from h);simp; omega
end TT
section
variable {β:Type} {O:Oracle} {h:Heap} {d:Nat} {k:KO β}
theorem qQN{α:Type}(sz:Nat)(f:α->List PVal)(s:Sl α):vlen O 2 (.v (.c (.p (slP sz f s)))) h d k=k (kI (s.len:Int)) h:=by
 cases s with
 |nil=>rfl
 |mk t l =>
  show vlen O 2 (kSl sz t (l.map f)) h d k=_;rw[qHJ,List.length_map]; rfl
theorem qLQ{α:Type}(sz:Nat)(f:α->List PVal)(s:Sl α)(i:Int):viaddr sz (.v (.c (.p (slP sz f s)))) (kI i) h k=chk (decide (0<=i)) (obnd (s.list[i.toNat]?) λa=>k (.v (.c (.p (.pptr (f a) 0)))) h):=by
 cases s with
 |nil =>
  show viaddr sz (.v (.c (.p .nilslice))) (kI i) h k=_;have e:viaddr sz (.v (.c (.p .nilslice))) (kI i) h k=none:=by
   by_cases hi:0<=i
   ·obtain⟨n,rfl⟩:∃ n:Nat,i=n:=⟨i.toNat,by omega⟩;rfl
   ·obtain⟨n,rfl⟩:∃ n:Nat,i=Int.negSucc n:=⟨(-i-1).toNat,by omega⟩;rfl
  rw[e];show none=chk _ (obnd ([][_]?) _);cases decide (0<=i) <;> simp[chk,obnd]
 |mk t l =>
  show viaddr sz (kSl sz t (l.map f)) (kI i) h k=_;rw[qKz,List.getElem?_map]
  congr 1
  show obnd (Option.map f l[i.toNat]?) _=_;rw[qPH]; rfl
end
theorem exV :
  (∀ s:LB,(sRow s)[0]?=some (.str s))/\(∀ n:Int,(iRow n)[0]?=some (.int .i64 n))/\(∀ s:LB,(sRow s).length=1)/\(∀ n:Int,(iRow n).length=1) /\
  (∀ v:VT,v.row.length=6)/\(∀ v:VT,v.row[0]?=some (.int .i64 v.kind))/\(∀ v:VT,v.row[1]?=some (.bool v.b))/\(∀ v:VT,v.row[2]?=some (.int .i64 v.n))/\(∀ v:VT,v.row[3]?=some (.str v.s)) /\
  (∀ v:VT,v.row[4]?=some (slP 1 sRow v.keys))/\(∀ v:VT,v.row[5]?=some (slP 6 VT.row v.l)) /\
  (∀ v:TT,v.row.length=4)/\(∀ v:TT,v.row[0]?=some (.int .i64 v.kind))/\(∀ v:TT,v.row[1]?=some (.str v.name))/\(∀ v:TT,v.row[2]?=some (slP 1 sRow v.names))/\(∀ v:TT,v.row[3]?=some (slP 4 TT.row v.kids)) /\
  (∀ {β α:Type}{O:Oracle}{h:Heap}{d:Nat}{k:KO β}(sz:Nat)(f:α->List PVal)(s:Sl α),vlen O 2 (.v (.c (.p (slP sz f s)))) h d k=k (kI (s.len:Int)) h) /\
  (∀ {β α:Type}{h:Heap}{k:KO β}(sz:Nat)(f:α->List PVal)(s:Sl α)(i:Int),viaddr sz (.v (.c (.p (slP sz f s)))) (kI i) h k=chk (decide (0<=i)) (obnd (s.list[i.toNat]?) λa=>k (.v (.c (.p (.pptr (f a) 0)))) h)) /\
  (∀ {β:Type}{h:Heap}{k:KO β}(v:VT),vload true 6 (.v (.c (.p (.pptr v.row 0)))) h k=k (.v (.agg (pcells v.row))) h) /\
  (∀ {β:Type}{h:Heap}{k:KO β}(v:TT),vload true 4 (.v (.c (.p (.pptr v.row 0)))) h k=k (.v (.agg (pcells v.row))) h) /\
  (∀ {β:Type}{h:Heap}{k:KO β}(n:Nat)(x:PVal),vload false n (.v (.c (.p (.pptr [x] 0)))) h k=k (.v (.c (.p x))) h) /\
  (∀ {β:Type}{h:Heap}{k:KO β}(n:Nat)(s:LB),vload false n (.v (.c (.p (.pptr (sRow s) 0)))) h k=k (kS s) h) /\
  (∀ {β:Type}{h:Heap}{k:KO β}(n:Nat)(s:Int),vload false n (.v (.c (.p (.pptr (iRow s) 0)))) h k=k (kI s) h) :=
 ⟨λ_=>rfl,λ_=>rfl,λ_=>rfl,λ_=>rfl,VT.row_len,VT.row0,VT.row1,VT.row2,VT.row3,VT.row4,VT.row5,TT.row_len,TT.row0,TT.row1,TT.row2,TT.row3,qQN,qLQ,λv=>qB1 6 v.row v.row_len,λv=>qB1 4 v.row v.row_len,λn x=>qCg n 0 [x],λn s=>qCg n 0 _,λn s=>qCg n 0 _⟩
structure NT where
 name:LB
 t:TT
structure GT where
 name:LB
 params:Sl TT
 result:TT
structure ST where
 main:TT
 types:Sl NT
 sigs:Sl GT
def NT.row(e:NT):List PVal:=.str e.name::e.t.row
def GT.row(e:GT):List PVal:=.str e.name::slP 4 TT.row e.params::e.result.row
def ST.row(s:ST):List PVal:=s.main.row++[slP 5 NT.row s.types,slP 6 GT.row s.sigs]
abbrev wkRow(s:ST)(n:Int):List PVal:=s.row++[.int .i64 n]
theorem ST.row_lit(s:ST):s.row=[.int .i64 s.main.kind,.str s.main.name,slP 1 sRow s.main.names,slP 4 TT.row s.main.kids,slP 5 NT.row s.types,slP 6 GT.row s.sigs]:=by unfold ST.row; rw[TT.row_eq]; rfl
theorem ST.row_len(s:ST):s.row.length=6:=by rw[ST.row_lit]; rfl
theorem NT.row_len(s:NT):s.row.length=5:=by unfold NT.row; rw[List.length_cons,TT.row_len]
theorem GT.row_len(s:GT):s.row.length=6:=by unfold GT.row; rw[List.length_cons,List.length_cons,TT.row_len]
theorem qNO{β:Type}{h:Heap}{k:KO β}(e:NT):vload true 4 (.v (.c (.p (.pptr e.row 1)))) h k=k (.v (.agg (pcells e.t.row))) h:=by
 rw[qFU];have:(e.row.drop 1).take 4=e.t.row:=qEr 4 _ (TT.row_len _);rw[this,TT.row_len]; rfl
theorem qOT{β:Type}{h:Heap}{k:KO β}(e:GT):vload true 4 (.v (.c (.p (.pptr e.row 2)))) h k=k (.v (.agg (pcells e.result.row))) h:=by
 rw[qFU];have:(e.row.drop 2).take 4=e.result.row:=qEr 4 _ (TT.row_len _);rw[this,TT.row_len]; rfl
theorem qSU(a:List PVal)(x:PVal):pcells a++[.p x]=pcells (a++[x]):=by simp[pcells]
theorem qRs(s:ST):(pcells s.row).take 4=pcells s.main.row:=by
 unfold ST.row pcells;rw[List.map_append,List.take_append_of_le_length (by simp[TT.row_len]),List.take_of_length_le (by simp[TT.row_len])]
theorem qR4(s:ST)(n:Int):(pcells (wkRow s n)).take 6=pcells s.row:=by
 unfold wkRow pcells;rw[List.map_append,List.take_append_of_le_length (by simp[ST.row_len]),List.take_of_length_le (by simp[ST.row_len])]
theorem qSz(s:ST)(n:Int):(wkRow s n)[6]?=some (.int .i64 n):=by unfold wkRow; rw[ST.row_lit]; rfl
theorem qTO(s:ST)(n m:Int):put1 (pcells (wkRow s n)) 6 [.p (.int .i64 m)]=pcells (wkRow s m):=by unfold wkRow; rw[ST.row_lit]; rfl
theorem qS4(s:ST)(n:Int):(wkRow s n).length=7:=by unfold wkRow; rw[ST.row_lit]; rfl
theorem qSA(e:GT):((pcells e.row).drop 2).take 4=pcells e.result.row:=by
 show(pcells e.result.row).take 4=_;exact qFi 4 _ (TT.row_len _)
theorem qRP(e:NT):((pcells e.row).drop 1).take 4=pcells e.t.row:=by
 show(pcells e.t.row).take 4=_;exact qFi 4 _ (TT.row_len _)
theorem exS :
  (∀ e:NT,((pcells e.row).drop 1).take 4=pcells e.t.row) /\
  (∀ s:ST,s.row.length=6)/\(∀ s:NT,s.row.length=5)/\(∀ s:GT,s.row.length=6)/\(∀ s:ST,s.row[4]?=some (slP 5 NT.row s.types))/\(∀ s:ST,s.row[5]?=some (slP 6 GT.row s.sigs)) /\
  (∀ s:NT,s.row[0]?=some (.str s.name))/\(∀ s:GT,s.row[0]?=some (.str s.name))/\(∀ s:GT,s.row[1]?=some (slP 4 TT.row s.params)) /\
  (∀ {β:Type}{h:Heap}{k:KO β}(e:NT),vload true 4 (.v (.c (.p (.pptr e.row 1)))) h k=k (.v (.agg (pcells e.t.row))) h) /\
  (∀ {β:Type}{h:Heap}{k:KO β}(e:GT),vload true 4 (.v (.c (.p (.pptr e.row 2)))) h k=k (.v (.agg (pcells e.result.row))) h) /\
  (∀ {β:Type}{h:Heap}{k:KO β}(e:GT),vload true 6 (.v (.c (.p (.pptr e.row 0)))) h k=k (.v (.agg (pcells e.row))) h) /\
  (∀ {β:Type}{h:Heap}{k:KO β}(e:NT),vload true 5 (.v (.c (.p (.pptr e.row 0)))) h k=k (.v (.agg (pcells e.row))) h) /\
  (∀ s:ST,(pcells s.row).take 4=pcells s.main.row)/\(∀ (s:ST) (n:Int),(pcells (wkRow s n)).take 6=pcells s.row)/\(∀ (s:ST) (n:Int),(wkRow s n)[6]?=some (.int .i64 n)) /\
  (∀ (s:ST) (n m:Int),put1 (pcells (wkRow s n)) 6 [.p (.int .i64 m)]=pcells (wkRow s m))/\(∀ (s:ST) (n:Int),(wkRow s n).length=7)/\(∀ e:GT,((pcells e.row).drop 2).take 4=pcells e.result.row) /\
  (∀ (a:List PVal) (x:PVal),pcells a++[.p x]=pcells (a++[x]))/\(∀ (cs:List Cell) (r:List PVal),r.length<cs.length->put1 cs 0 (pcells r)=pcells r++cs.drop r.length) :=
 ⟨qRP,ST.row_len,NT.row_len,GT.row_len,λs=>by rw[ST.row_lit]; rfl,λs=>by rw[ST.row_lit]; rfl,λ_=>rfl,λ_=>rfl,λ_=>rfl,qNO,qOT,λe=>qB1 6 _ (GT.row_len e),λe=>qB1 5 _ (NT.row_len e),qRs,qR4,qSz,qTO,qS4,qSA,qSU,λcs r _=>qQC cs r⟩
theorem exL:(∀ {α β:Type}(f:α->β)(a:α),Option.map f (some a)=some (f a))/\((!false)=true)/\((!true)=false)/\(∀ b:Bool,(!!b)=b)/\(∀ b:Bool,(b&&b)=b)/\(∀ b:Bool,(b&&true)=b)/\(∀ b:Bool,(true&&b)=b)/\(∀ b:Bool,(b||b)=b) /\
  (∀ b:Bool,(true||b)=true)/\(∀ b:Bool,(b||true)=true)/\(∀ b:Bool,(false||b)=b)/\(∀ b:Bool,(b||false)=b)/\(∀ b:Bool,(false&&b)=false)/\(∀ b:Bool,(b&&false)=false)/\(∀ n:Nat,0+n=n)/\(∀ n:Nat,n+0=n)/\(decide True=true)/\(decide False=false) /\
  (∀ n:Nat,((n:Nat):Int).toNat=n)/\(∀ {α:Type}(a:α)(l:List α),(a::l).length=l.length+1)/\(∀ {α:Type},([]:List α).length=0)/\(∀ {α:Type}(a:α)(l:List α),(a::l)[0]?=some a)/\(∀ {α:Type}(a:α)(l:List α)(i:Nat),(a::l)[i+1]?=l[i]?) /\
  (∀ {α:Type}(a:α)(l:List α)(i:Nat),(a::l).take (i+1)=a::l.take i)/\(∀ {α:Type}(a:α)(l:List α)(i:Nat),(a::l).drop (i+1)=l.drop i)/\(∀ {α:Type}(l:List α),l.drop 0=l)/\(∀ {α:Type}(l:List α),l.take 0=[]) :=
 ⟨λ_ _=>rfl,rfl,rfl,Bool.not_not,Bool.and_self,Bool.and_true,Bool.true_and,Bool.or_self,Bool.true_or,Bool.or_true,Bool.false_or,Bool.or_false,Bool.false_and,Bool.and_false,Nat.zero_add,Nat.add_zero,rfl,rfl,Int.toNat_natCast,λ_ _=>rfl,rfl,λ_ _=>rfl,λ_ _ _=>rfl,λ_ _ _=>rfl,λ_ _ _=>rfl,λ_=>rfl,λ_=>rfl⟩
def exa:=And.intro @ne_eq.{1} (And.intro @not_false_eq_true (And.intro @ex (And.intro @exG (And.intro @exM (And.intro @exV (And.intro @exF (And.intro @exQ (And.intro @exB (And.intro @exS (And.intro @exT (And.intro @exC @exL)))))))))))
theorem qE7{p:Nat->Prop}(n:Nat)(hd:∀ i,n<=i->p i)(hs:∀ i,i<n->p (i+1)->p i):∀ i,p i:=by
 have key:∀ m i,n - i<=m->p i:=by
  intro m
  induction m with
  |zero=>intro i h; exact hd i (by omega)
  |succ m ih =>
   intro i h;by_cases hi:i<n
   ·exact hs i hi (ih (i+1) (by omega))
   ·exact hd i (by omega)
 exact λi=>key (n - i) i (Nat.le_refl _)
theorem qBN{α:Type}{l:List α}{i:Nat}(hi:i<l.length):∃ a,l[i]?=some a/\l.drop i=a::l.drop (i+1)/\a∈l :=
 ⟨l[i],by simp[hi],List.drop_eq_getElem_cons hi,List.getElem_mem hi⟩
theorem qB8{α:Type}{l:List α}{i:Nat}(hi:l.length<=i):l.drop i=[]:=List.drop_eq_nil_of_le hi
theorem qBq(n:Nat)(h:n<4611686018427387904):IntKind.i64.wrap ((n:Int)+1)=((n+1:Nat):Int):=by rw[qAL _ (by omega) (by omega)]; omega
section
variable {β:Type} {O:Oracle} {h:Heap} {d:Nat} {k:KO β} {kt:KT β}
theorem qEx(op:AOp):vop O op h d k=vtouch O op h d λv h _=>k v h:=by
 show opK O op .nil h d k=bnd (plan2 op .nil) (λp=>bnd (p.exec O d h) λx=>k x.1 x.2.1);rw[qA9,qAr];unfold slow;cases plan .nil op with
 |none=>rfl
 |some p =>
  show Option.bind ((p.exec O d h).map λx=>(x.1,x.2.1)) (λx=>k x.1 x.2)=bnd (p.exec O d h) _;cases p.exec O d h <;> rfl
def GS(D:List Nat)(sz:Nat)(v:Cell)(rows:List (List PVal))(h:Heap):Prop :=
 (rows=[]/\v = .p .nilslice)\/v = .p (.slice sz true rows)\/(∃ e g,e∈D/\v = .tsl sz rows (.own e g)/\h.get (.own e g)=some (.cells [] 0))
def TouchIn(D:List Nat)(t:Touch):Prop:=(∀ s∈t.rd,∃ e,e∈D/\s = .own e)/\(∀ s∈t.wr,∃ e,e∈D/\s = .own e)/\t.wild=false
def SrcR(sz:Nat)(b:PVal)(new:List (List PVal)):Prop:=(b = .nilslice/\new=[])\/∃ t,b = .slice sz t new
theorem SrcR.cells{sz:Nat}{b:PVal}{new:List (List PVal)}(H:SrcR sz b new):srcCells sz (.v (.c (.p b))) none=some (pcells new.flatten,new.length):=by
 rcases H with ⟨rfl,rfl⟩|⟨t,rfl⟩
 ·rfl
 ·unfold srcCells; simp
theorem qML{D:List Nat}{sz by':Nat}{v:Cell}{rows new:List (List PVal)}{b:PVal}(H:SrcR sz b new)(G:GS D sz v rows h)(hD:d∈D)(hsz:∀ r∈new,r.length=sz)(hb:(rows.length+new.length)*by'<=1099511627776)(hd:d+1<1048576) :
  ∃ v' h' t,GS D sz v' (rows++new) h'/\(∀ (β:Type) (O:Oracle) (kt:KT β),vtouch O (.append sz by' false (.k (.v (.c v))) (.k (.v (.c (.p b))))) h d kt=kt (.v (.c v')) h' t)/\TouchIn D t /\
   (∀ e g o,e∉D->h.get (.own e g)=some o->h'.get (.own e g)=some o)/\(∀ i,h'.get (.im i)=h.get (.im i))/\((new≠[]\/∃ r,v = .tsl sz rows r)->∃ r,v' = .tsl sz (rows++new) r):=by
 have hc:=H.cells;have hs:srcRef (.v (.c (.p b)))=none:=by rcases H with ⟨rfl,_⟩|⟨t,rfl⟩ <;> rfl
 have go1:∀ (op:AOp) (needs:List Ref) (pk:List AObj->Option Res) (x:TVal×Heap×Touch),plan .nil op=some (.go needs pk)->goOp needs pk d h=some x->∀ (β:Type) (O:Oracle) (kt:KT β),vtouch O op h d kt=kt x.1 x.2.1 x.2.2 :=
  λop needs pk x e1 e2 β O kt=>qBv op needs pk x.1 x.2.1 x.2.2 e1 e2
 by_cases hn:new=[]
 ·subst hn;have hr:rows++[]=rows:=List.append_nil _;have hsl:isSl (.v (.c v))=true:=by rcases G with ⟨_,rfl⟩|rfl|⟨e,g,_,rfl,_⟩ <;> rfl
  have hap:∀ o,appendTo sz by' false (.v (.c v)) o (pcells ([]:List (List PVal)).flatten) 0=some ⟨λ_=>.v (.c v),[],none,false⟩:=by
   intro o; unfold appendTo; rw[if_pos rfl,if_pos hsl]
  rcases G with ⟨g1,rfl⟩|rfl|⟨e,g,he,rfl,hh⟩
  ·refine⟨_,h,⟨[],[],false⟩,by rw[hr]; exact .inl ⟨g1,rfl⟩,go1 _ [] _ (_,h,⟨[],[],false⟩) rfl ?_,⟨λs hs=>(by cases hs),λs hs=>(by cases hs),rfl⟩,λ_ _ _ _ ho=>ho,λ_=>rfl,λx=>by rcases x with x|⟨r,x⟩; exact absurd rfl x; cases x⟩;unfold goOp;simp only[List.mapM_nil,Option.pure_def,hs,dstRef,splitNeeds,rL,Option.bind_some,hc,List.length_nil,hap];rfl
  ·refine⟨_,h,⟨[],[],false⟩,by rw[hr]; exact .inr (.inl rfl),go1 _ [] _ (_,h,⟨[],[],false⟩) rfl ?_,⟨λs hs=>(by cases hs),λs hs=>(by cases hs),rfl⟩,λ_ _ _ _ ho=>ho,λ_=>rfl,λx=>by rcases x with x|⟨r,x⟩; exact absurd rfl x; cases x⟩;unfold goOp;simp only[List.mapM_nil,Option.pure_def,hs,dstRef,splitNeeds,rL,Option.bind_some,hc,List.length_nil,hap];rfl
  ·refine⟨_,h,⟨[.own e],[],false⟩,by rw[hr]; exact .inr (.inr ⟨e,g,he,rfl,hh⟩),go1 _ [.own e g] (λos=>do let (oa,ob) <- splitNeeds (some (.own e g)) none os; let (new,n) <- srcCells sz (.v (.c (.p b))) ob; appendTo sz by' false (.v (.c (.tsl sz rows (.own e g)))) oa new n) (_,h,⟨[.own e],[],false⟩) ?_ ?_,⟨λs hs=>⟨e,he,(by simpa using hs)⟩,λs hs=>(by cases hs),rfl⟩,λ_ _ _ _ ho=>ho,λ_=>rfl,λ_=>⟨_,by rw[hr]⟩⟩
   ·show some (Plan.go (zipNeeds (dstRef _) (srcRef (.v (.c (.p b))))) _)=_;rw[hs]; rfl
   ·unfold goOp;simp only[qDK,hh,Option.map_some,hs,dstRef,splitNeeds,rL,Option.bind_some,hc,List.length_nil,hap];rfl
 ·have hnl:new.length≠0:=by simpa using hn
  have gr:∀ ups,growRow sz by' rows (pcells new.flatten) new.length ups=some ⟨λr=>.v (.c (.tsl sz (rows++new) r)),ups,some (.cells [] 0),false⟩:=by
   intro ups;unfold growRow;rw[qEK sz new hsz];dsimp only;rw[if_pos (by omega)]
  rcases G with ⟨rfl,rfl⟩|rfl|⟨e,g,he,rfl,hh⟩
  ·have ea:appendTo sz by' false kNil none (pcells new.flatten) new.length=some ⟨λr=>.v (.c (.tsl sz ([]++new) r)),[],some (.cells [] 0),false⟩:=by
    unfold appendTo; rw[if_neg hnl]; exact gr []
   refine⟨.tsl sz ([]++new) (.own d (h.gen d+1)),h.own d (h.gen d+1) (.cells [] 0),⟨[],[.own d],false⟩,.inr (.inr ⟨d,_,hD,rfl,Heap.own_get h d _ _ hd (λe=>by cases e)⟩),go1 _ [] _ (_,_,_) rfl ?_,⟨λs hs=>(by cases hs),λs hs=>⟨d,hD,(by simpa using hs)⟩,rfl⟩,λe g o he ho=>(Heap.own_get_ne h d _ _ e g (λx=>he (x▸hD))).trans ho,λi=>rfl,λ_=>⟨_,rfl⟩⟩;unfold goOp;simp only[List.mapM_nil,Option.pure_def,hs,dstRef,splitNeeds,rL,Option.bind_some,hc,ea];rfl
  ·have ea:appendTo sz by' false (.v (.c (.p (.slice sz true rows)))) none (pcells new.flatten) new.length=some ⟨λr=>.v (.c (.tsl sz (rows++new) r)),[],some (.cells [] 0),false⟩:=by
    unfold appendTo; rw[if_neg hnl];show(if sz=sz then (if false then _ else growRow sz by' rows (pcells new.flatten) new.length []) else none)=_;rw[if_pos rfl];exact gr []
   refine⟨.tsl sz (rows++new) (.own d (h.gen d+1)),h.own d (h.gen d+1) (.cells [] 0),⟨[],[.own d],false⟩,.inr (.inr ⟨d,_,hD,rfl,Heap.own_get h d _ _ hd (λe=>by cases e)⟩),go1 _ [] _ (_,_,_) rfl ?_,⟨λs hs=>(by cases hs),λs hs=>⟨d,hD,(by simpa using hs)⟩,rfl⟩,λe g o he ho=>(Heap.own_get_ne h d _ _ e g (λx=>he (x▸hD))).trans ho,λi=>rfl,λ_=>⟨_,rfl⟩⟩;unfold goOp;simp only[List.mapM_nil,Option.pure_def,hs,dstRef,splitNeeds,rL,Option.bind_some,hc,ea];rfl
  ·have ea:appendTo sz by' false (.v (.c (.tsl sz rows (.own e g)))) (some (.cells [] 0)) (pcells new.flatten) new.length=some ⟨λr=>.v (.c (.tsl sz (rows++new) r)),[(.own e g,.dead)],some (.cells [] 0),false⟩:=by
    unfold appendTo; rw[if_neg hnl];show(if sz=sz then growRow sz by' rows (pcells new.flatten) new.length [(.own e g,.dead)] else none)=_;rw[if_pos rfl];exact gr _
   have hgen:(h.put (.own e g) .dead).gen d+1=(h.put (.own e g) .dead).gen d+1:=rfl;refine⟨.tsl sz (rows++new) (.own d (h.gen d+1)),(h.put (.own e g) .dead).own d (h.gen d+1) (.cells [] 0),⟨[.own e],.own d::[.own e],false⟩,.inr (.inr ⟨d,_,hD,rfl,Heap.own_get _ d _ _ hd (λe=>by cases e)⟩),go1 _ [.own e g] (λos=>do let (oa,ob) <- splitNeeds (some (.own e g)) none os; let (new,n) <- srcCells sz (.v (.c (.p b))) ob; appendTo sz by' false (.v (.c (.tsl sz rows (.own e g)))) oa new n) (_,_,_) ?_ ?_,⟨λs hs=>⟨e,he,(by simpa using hs)⟩,λs hs=>?_,rfl⟩,λe' g' o he' ho=>?_,λi=>rfl,λ_=>⟨_,rfl⟩⟩
   ·show some (Plan.go (zipNeeds (dstRef _) (srcRef (.v (.c (.p b))))) _)=_;rw[hs]; rfl
   ·unfold goOp;simp only[qDK,hh,Option.map_some,hs,dstRef,splitNeeds,rL,Option.bind_some,hc,ea];simp;rfl
   ·simp only[List.mem_cons,List.not_mem_nil,or_false] at hs
    rcases hs with rfl|rfl
    ·exact⟨d,hD,rfl⟩
    ·exact⟨e,he,rfl⟩
   ·refine(Heap.own_get_ne _ d _ _ e' g' (λx=>he' (x▸hD))).trans ?_;exact(Heap.own_get_ne h e g _ e' g' (λx=>he' (x▸he))).trans ho
theorem GS.pt{D:List Nat}{sz:Nat}{v:Cell}{rows:List (List PVal)}{h:Heap}(G:GS D sz v rows h):isPT v=true:=by
 rcases G with ⟨_,rfl⟩|rfl|⟨e,g,_,rfl,_⟩ <;> rfl
theorem GS.keep{D:List Nat}{sz:Nat}{v:Cell}{rows:List (List PVal)}{h h':Heap}(G:GS D sz v rows h)(hk:∀ e∈D,∀ g,h.get (.own e g)=some (.cells [] 0)->h'.get (.own e g)=some (.cells [] 0)):GS D sz v rows h':=by
 rcases G with g|g|⟨e,g,m,b,c⟩
 ·exact .inl g
 ·exact .inr (.inl g)
 ·exact .inr (.inr ⟨e,g,m,b,hk _ m _ c⟩)
theorem GS.own{D:List Nat}{sz:Nat}{v:Cell}{rows:List (List PVal)}{h:Heap}(G:GS D sz v rows h){d:Nat}(g:Nat)(o:AObj)(hd:d∉D):GS D sz v rows (h.own d g o) :=
 G.keep λe he g' hh=>(Heap.own_get_ne h d g o e g' (λx=>hd (x▸he))).trans hh
theorem qEe{D:List Nat}{t:Touch}(T:TouchIn D t)(e:Nat)(he:e∉D):Touch.apart t ⟨[.own e],[],false⟩=true:=by
 have h1:disj t.wr [Site.own e]=true:=by
  unfold disj;rw[List.all_eq_true];intro s hs;obtain⟨e',h',rfl⟩:=T.2.1 s hs;have:e'≠e:=λx=>he (x▸h')
  simp[this]
 unfold Touch.apart;rw[h1,T.2.2];simp[disj]
theorem qMZ(z:List Cell)(x:PVal)(hz:z.length=1):vtouch O (.bslice 1 1 z [(0,.k (.v (.c (.p x))))] false) h d kt=kt (kSl 1 true [[x]]) h noTouch:=by
 match z,hz with
 |[z0],_=>exact qBe _ _ rfl
theorem qIO(sz:Nat)(z:List Cell)(r:List PVal)(hz:z.length=sz)(hr:r.length=sz):plan .nil (.bslice sz 1 z [(0,.k (.v (.agg (pcells r))))] false)=some (.pure (kSl sz true [r])):=by
 subst hz;have e1:fillA (rep 1 z) [(0*z.length,z.length,Comp.agg (pcells r))]=some (pcells r):=by
  have l1:(Comp.agg (pcells r)).cells.length=z.length:=by show(pcells r).length=_; unfold pcells; rw[List.length_map,hr]
  have l2:(rep 1 z).length=z.length:=by simp[rep]
  simp only[fillA,l1,l2,Nat.zero_mul,Nat.zero_add,Nat.le_refl,and_self,if_true];show some (splice (rep 1 z) 0 (pcells r))=_;have l3:(pcells r).length=z.length:=l1;simp[splice,l2,l3,rep]
 have e2:chunk z.length 1 (pcells r)=some [r]:=by
  show(do let row <- unps ((pcells r).take z.length); if row.length=z.length then pure (row::(<- chunk z.length 0 ((pcells r).drop z.length))) else none)=_;have:(pcells r).take z.length=pcells r:=List.take_of_length_le (by simp[pcells,hr]);rw[this,qGa];simp[hr,chunk]
 simp only[plan,List.mapM_cons,List.mapM_nil,X.ev,Option.pure_def,rL,Option.bind_some,e1,e2,Bool.false_eq_true,if_false]
theorem qLb(sz:Nat)(z:List Cell)(r:List PVal)(hz:z.length=sz)(hr:r.length=sz):vtouch O (.bslice sz 1 z [(0,.k (.v (.agg (pcells r))))] false) h d kt=kt (kSl sz true [r]) h noTouch:=qBe _ _ (qIO sz z r hz hr)
theorem qAv(n off:Nat)(r:Ref)(x:Comp):vtouch O (.store n (.k (.v (.c (.ptr r off)))) (.k (.v x))) h d kt=objK (h.get r) λcs imm=>chk (decide (imm<=off)&&(decide (x.cells.length=n)&&decide (off+n<=cs.length))) (kt .undef (h.put r (.cells (put1 cs off x.cells) imm)) ⟨[r.site],[r.site],false⟩):=by
 rw[qId _ r _ rfl];cases hg:h.get r with
 |none=>rfl
 |some o =>
  show(goOp [r] _ d h).bind _=_;unfold goOp;rw[qDK,hg];cases o with
  |cells cs imm =>
   by_cases hc:imm<=off/\x.cells.length=n/\off+n<=cs.length
   ·simp only[Option.map_some,objK,if_pos hc,decide_eq_true hc.1,decide_eq_true hc.2.1,decide_eq_true hc.2.2,Bool.and_self,chk,cond_true];simp[put1]
   ·have hb:(decide (imm<=off)&&(decide (x.cells.length=n)&&decide (off+n<=cs.length)))=false:=by
     refine Bool.eq_false_iff.2 λe=>hc ?_
     simp only[Bool.and_eq_true,decide_eq_true_eq] at e;exact e
    simp only[Option.map_some,objK,if_neg hc,Option.map_none,hb,chk,cond_false];rfl
  |_=>rfl
end
def bRow(b:UInt8):List PVal:=[.int .u8 (b.toNat:Int)]
inductive RT where
 |mk (kind n:Int) (s:Sl UInt8) (keys:Sl Int) (kids:Sl RT)
namespace RT
def kind:RT->Int | .mk k _ _ _ _=>k
def n:RT->Int | .mk _ n _ _ _=>n
def s:RT->Sl UInt8 | .mk _ _ s _ _=>s
def keys:RT->Sl Int | .mk _ _ _ k _=>k
def kids:RT->Sl RT | .mk _ _ _ _ l=>l
mutual
def row:RT->List PVal
 |.mk k n s ks l=>[.int .i64 k,.int .i64 n,slP 1 bRow s,slP 1 iRow ks,slRow l]
def slRow:Sl RT->PVal
 |.nil=>.nilslice
 |.mk t l=>.slice 5 t (rows l)
def rows:List RT->List (List PVal)
 |[]=>[]
 |v::vs=>row v::rows vs
end
theorem qBR:∀ l:List RT,rows l=l.map row
 |[]=>by simp[rows]
 |v::vs=>by simp[rows,qBR vs]
theorem qCB(l:Sl RT):slRow l=slP 5 row l:=by cases l <;> simp[slRow,slP,qBR]
theorem row_eq(v:RT):row v=[.int .i64 v.kind,.int .i64 v.n,slP 1 bRow v.s,slP 1 iRow v.keys,slP 5 row v.kids]:=by
 cases v; simp[row,qCB,kind,n,s,keys,kids]
theorem row_len(v:RT):(row v).length=5:=by rw[row_eq]; rfl
theorem mem_size{v x:RT}(h:x∈v.kids.list):SizeOf.sizeOf x<SizeOf.sizeOf v:=by
 cases v with
 |mk k n s ks l =>
  cases l with
  |nil=>simp[RT.kids,Sl.list] at h
  |mk t l =>
   have:=List.sizeOf_lt_of_mem (show x∈l from h);simp; omega
end RT
section
variable {β:Type} {O:Oracle} {h:Heap} {d:Nat} {k:KO β} {kt:KT β}
theorem exW :
  (∀ v:RT,v.row.length=5)/\(∀ v:RT,v.row[0]?=some (.int .i64 v.kind))/\(∀ v:RT,v.row[1]?=some (.int .i64 v.n))/\(∀ v:RT,v.row[2]?=some (slP 1 bRow v.s))/\(∀ v:RT,v.row[3]?=some (slP 1 iRow v.keys))/\(∀ v:RT,v.row[4]?=some (slP 5 RT.row v.kids)) /\
  (∀ {β:Type}{h:Heap}{k:KO β}(v:RT),vload true 5 (.v (.c (.p (.pptr v.row 0)))) h k=k (.v (.agg (pcells v.row))) h)/\(∀ b:UInt8,(bRow b)[0]?=some (.int .u8 (b.toNat:Int))) :=
 ⟨RT.row_len,λv=>by rw[RT.row_eq]; rfl,λv=>by rw[RT.row_eq]; rfl,λv=>by rw[RT.row_eq]; rfl,λv=>by rw[RT.row_eq]; rfl,λv=>by rw[RT.row_eq]; rfl,λv=>qB1 5 v.row v.row_len,λ_=>rfl⟩
theorem qWA{α:Type}(sz:Nat)(f:α->List PVal)(s:Sl α)(k:Nat)(hk:k<=s.len):∃ b,SrcR sz b ((s.list.take k).map f)/\plan .nil (.slice sz false (.k (.v (.c (.p (slP sz f s))))) none (some (.k (kI (k:Int)))) none)=some (.pure (.v (.c (.p b)))):=by
 cases s with
 |nil =>
  have:k=0:=Nat.le_zero.1 hk;subst this;exact⟨.nilslice,.inl ⟨rfl,by simp[Sl.list]⟩,rfl⟩
 |mk t l =>
  have hk':k<=l.length:=hk;refine⟨.slice sz (tightOf (t&&k==(l.map f).length) k none) (((l.map f).take k).drop 0),.inr ⟨_,by rw[List.drop_zero,<- List.map_take]; rfl⟩,?_⟩;show Option.map (λc=>Plan.pure (.v (.c c))) (sliceV sz false (.p (.slice sz t (l.map f))) none (some k) none)=_;have:sliceV sz false (.p (.slice sz t (l.map f))) none (some k) none=some (.p (.slice sz (tightOf (t&&k==(l.map f).length) k none) (((l.map f).take k).drop 0))):=by
   simp only[sliceV];simp[hk']
  rw[this]; rfl
theorem qV2{α:Type}(sz:Nat)(f:α->List PVal)(s:Sl α)(k:Nat)(hk:k<=s.len):∃ b,SrcR sz b ((s.list.drop k).map f)/\plan .nil (.slice sz false (.k (.v (.c (.p (slP sz f s))))) (some (.k (kI (k:Int)))) none none)=some (.pure (.v (.c (.p b)))):=by
 cases s with
 |nil =>
  have:k=0:=Nat.le_zero.1 hk;subst this;exact⟨.nilslice,.inl ⟨rfl,by simp[Sl.list]⟩,rfl⟩
 |mk t l =>
  have hk':k<=l.length:=hk;refine⟨.slice sz (tightOf (t&&(l.map f).length==(l.map f).length) (l.map f).length none) (((l.map f).take (l.map f).length).drop k),.inr ⟨_,by rw[List.take_length,<- List.map_drop]; rfl⟩,?_⟩;show Option.map (λc=>Plan.pure (.v (.c c))) (sliceV sz false (.p (.slice sz t (l.map f))) (some k) none none)=_;have:sliceV sz false (.p (.slice sz t (l.map f))) (some k) none none=some (.p (.slice sz (tightOf (t&&(l.map f).length==(l.map f).length) (l.map f).length none) (((l.map f).take (l.map f).length).drop k))):=by
   simp only[sliceV];simp[hk']
  rw[this]; rfl
end
open Go.RowKit Go.ChangeShapes Go.WideShapes
section
variable [Sym] {H:Type} {enc:TypeId×Value->H} {P:Program} {w:World} {spare:Nat->Bool} {held:Bool}
theorem qWL{ts:List TypeId}(hts:plainB P ts=true){t:TypeId}{fs:Array Field}(hu:P.underlying t=some (.struct fs))(hc:P.cellsOf t≠1){v:Value}{d:DataW H}{ps:List MemPlace}(ht:t∈ts)(hd:DataW.Trod enc P w 0 spare held t v d ps) :
  ∃ cs n row,v = .agg cs/\TRel noEnv (allI w) (.v (.agg (pcells row))) (.agg cs)/\HasT P n t row:=by
 have hv:∃ cs,v = .agg cs:=by
  obtain⟨fuel,hf⟩:=hd;cases fuel with
  |zero=>simp[DataW.trod] at hf
  |succ n =>
   obtain⟨_,_,_,_,hl,_⟩:=DataW.trod_struct hu hf;cases v with
   |agg cs=>exact⟨cs,rfl⟩
   |_=>exact absurd hl.symm hc
 obtain⟨cs,rfl⟩:=hv;obtain⟨n,row,h1,h2⟩:=qXv hts ht hd;exact⟨cs,n,row,rfl,h1,h2⟩
end
theorem qU9{Q:TypeId->List PVal->Prop}:∀ (fs:List Field) (rs:List (List PVal)),All2 (λ(f:Field) r=>Q f.type r) fs rs->All2 Q (fs.map (·.type)) rs
 |[],[],_=>trivial
 |_::fs,_::rs,h=>⟨h.1,qU9 fs rs h.2⟩
 |[],_::_,h=>h.elim
 |_::_,[],h=>h.elim
section
variable {P:Program}
theorem qVJ{t:TypeId}{k:IntKind}(hu:P.underlying t=some (.int k)){n:Nat}{row:List PVal}(h:HasT P n t row):∃ x,row=[.int k x]/\(Lit.int k x).wf=true:=by
 cases n with
 |zero=>exact h.elim
 |succ n=>simp only[HasT,hu] at h; exact h
theorem qVi{α:Type}{f:α->List PVal}{Q:List PVal->Prop}(hq:∀ r,Q r->∃ a,r=f a):∀ rows:List (List PVal),(∀ r∈rows,Q r)->∃ l:List α,rows=l.map f
 |[],_=>⟨[],rfl⟩
 |r::rows,h=>by
  obtain⟨a,rfl⟩:=hq r (h r (by simp));obtain⟨l,rfl⟩:=qVi hq rows (λr hr=>h r (by simp[hr]));exact⟨a::l,rfl⟩
theorem qW1{t e:TypeId}{sz:Nat}{α:Type}{f:α->List PVal}(hu:P.underlying t=some (.slice e))(hc:P.cellsOf e=sz){n:Nat}{row:List PVal}(hq:∀ m,m<n->∀ r,HasT P m e r->∃ a,r=f a)(h:HasT P n t row):∃ s:Sl α,row=[slP sz f s]/\s.len<=maxLen:=by
 cases n with
 |zero=>exact h.elim
 |succ n =>
  simp only[HasT,hu] at h
  rcases h with rfl|⟨rows,rfl,hl,hr⟩
  ·exact⟨.nil,rfl,Nat.zero_le _⟩
  ·obtain⟨l,rfl⟩:=qVi (f:=f) (hq n (Nat.lt_succ_self _)) rows hr;refine⟨.mk false l,by rw[hc]; rfl,?_⟩;rw[List.length_map] at hl;exact hl
theorem qXQ{t e:TypeId}(hu:P.underlying t=some (.slice e))(he:P.underlying e=some (.int .i64))(hc:P.cellsOf e=1){n:Nat}{row:List PVal}(h:HasT P n t row):∃ s:Sl Int,row=[slP 1 iRow s]/\s.len<=maxLen :=
 qW1 hu hc (λm _ r hr=>by obtain⟨x,rfl,_⟩:=qVJ he hr; exact⟨x,rfl⟩) h
end
open Go.RowKit Go.ChangeShapes Go.WideShapes
namespace RT
end RT
section
variable {P:Program}
theorem qVP{α:Type}{f:α->List PVal}{Q:List PVal->Prop}{p:α->Prop}(hq:∀ r,Q r->∃ a,r=f a/\p a):∀ rows:List (List PVal),(∀ r∈rows,Q r)->∃ l:List α,rows=l.map f/\∀ a∈l,p a
 |[],_=>⟨[],rfl,λa h=>by cases h⟩
 |r::rows,h=>by
  obtain⟨a,rfl,ha⟩:=hq r (h r (by simp));obtain⟨l,rfl,hl⟩:=qVP hq rows (λr hr=>h r (by simp[hr]));exact⟨a::l,rfl,λx hx=>by rcases List.mem_cons.1 hx with rfl|hx; exact ha; exact hl x hx⟩
theorem qWV{t e:TypeId}{sz:Nat}{α:Type}{f:α->List PVal}{p:α->Prop}(hu:P.underlying t=some (.slice e))(hc:P.cellsOf e=sz){n:Nat}{row:List PVal}(hq:∀ m,m<n->∀ r,HasT P m e r->∃ a,r=f a/\p a)(h:HasT P n t row):∃ s:Sl α,row=[slP sz f s]/\s.len<=maxLen/\∀ a∈s.list,p a:=by
 cases n with
 |zero=>exact h.elim
 |succ n =>
  simp only[HasT,hu] at h
  rcases h with rfl|⟨rows,rfl,hl,hr⟩
  ·exact⟨.nil,rfl,Nat.zero_le _,λa h=>by cases h⟩
  ·obtain⟨l,rfl,hl2⟩:=qVP (f:=f) (p:=p) (hq n (Nat.lt_succ_self _)) rows hr;refine⟨.mk false l,by rw[hc]; rfl,?_,hl2⟩;rw[List.length_map] at hl;exact hl
end
open Go.RowKit Go.ChangeShapes Go.WideShapes
section
variable [Sym] {H:Type} {enc:TypeId×Value->H} {P:Program} {w:World} {spare:Nat->Bool} {held:Bool} {r:Reach} {b0:Nat}
theorem qJ9{t e:TypeId}{k:IntKind}{v:Value}{d:DataW H}{ps:List MemPlace}(ht:P.underlying t=some (.slice e))(he:P.underlying e=some (.int k))(hc:P.cellsOf e=1)
  (hval:Value.okWide P w r b0 t v) (hd:DataW.Trod enc P w 0 spare held t v d ps) :
  ∃ o:Option (List Int),TRel noEnv (allI w) (.pv (intsP k o)) v/\(∀ n∈intsL o,(Lit.int k n).wf=true)/\(intsL o).length<=maxLen/\((∀ x∈d.weights P t,x<=reachBytes)->(intsL o).length*P.bytesOf e<=reachBytes):=by
 obtain⟨a0,len0,cap0,rfl⟩:=okWide_slice ht hval;obtain⟨fuel,hf⟩:=hd
 rcases open_ints ht he hc hf with ⟨h,_⟩|⟨a,len,cap,zs,h,h1,h2,h3,h4,hx,h5,h6⟩
 ·simp[Value.cells] at h;obtain⟨rfl,rfl,rfl⟩:=h;exact⟨none,CRel.p _ _ .nilslice,by simp[intsL],by simp[intsL],λ_=>by simp[intsL]⟩
 ·simp[Value.cells] at h;obtain⟨rfl,rfl,rfl⟩:=h;have hzl:len0<=zs.length:=by rw[h4]; split <;> omega
  have h0:a.spot=none:=by
   unfold Value.okWide at hval;rw[ht] at hval;dsimp only at hval;unfold Cell.okWide at hval;rw[ht] at hval;dsimp only at hval;unfold Cell.ok at hval;rw[ht] at hval;exact hval.2.2.2.1
  have hxd:d = .slice (lits k (zs.take len0)) (lits k (zs.drop len0)):=by
   have:=congrArg Prod.fst hx;exact this
  refine⟨some (zs.take len0),?_,λn hn=>h6 n (List.mem_of_mem_take hn),by simp[intsL]; omega,λhw=>?_⟩
  rotate_left
  ·have:=hw (((lits (H:=H) k (zs.take len0)).length+(lits (H:=H) k (zs.drop len0)).length)*P.bytesOf e) (by rw[hxd]; simp[DataW.weights,ht]);have hl:(lits (H:=H) k (zs.take len0)).length=(zs.take len0).length:=by simp[lits]
   rw[hl] at this;show(zs.take len0).length*_<=_;exact Nat.le_trans (Nat.mul_le_mul_right _ (Nat.le_add_right _ _)) this
  have hlen:((zs.take len0).map λn=>[PVal.int k n]).length=len0:=by simp; omega
  have ea:a=⟨a.block,a.off,none⟩:=by cases a; simp at h0; subst h0; rfl
  have el:∀ i,i<len0->((zs.take len0).map λn=>[PVal.int k n])[i]?=some [.int k (zs.getD i 0)]:=by
   intro i hi;rw[List.getElem?_map,List.getElem?_take,if_pos hi,List.getElem?_eq_getElem (by omega)];simp[List.getD_eq_getElem?_getD,List.getElem?_eq_getElem (show i<zs.length by omega)]
  have row:∀ i r,((zs.take len0).map λn=>[PVal.int k n])[i]?=some r->i<len0/\r=[.int k (zs.getD i 0)]:=by
   intro i r hr;have hi:=(List.getElem?_eq_some_iff.1 hr).1;rw[hlen] at hi;rw[el i hi] at hr;exact⟨hi,(Option.some.inj hr).symm⟩
  have key:PRel (allI w) (.slice 1 false ((zs.take len0).map λn=>[.int k n])) (.slice (some ⟨a.block,a.off,none⟩) ((zs.take len0).map λn=>[PVal.int k n]).length cap0):=by
   refine PRel.slice 1 false _ a.block a.off cap0 (λi _=>.int k (zs.getD i 0)) (λe=>by cases e) (by rw[hlen]; exact h2) ?_ ?_ ?_
   ·intro i r hr;rw[(row i r hr).2]; rfl
   ·intro i r j v hr hj;obtain⟨hi,rfl⟩:=row i r hr;cases j with
    |succ j=>simp at hj
    |zero =>
     have:=h5 i (by omega);rw[ea] at this;show w.cell? ⟨a.block,a.off+i*1+0,none⟩=_;rw[<- this];unfold Addr.add;split
     ·rename_i h; subst h; rfl
     ·simp
   ·intro i r j v hr hj;obtain⟨hi,rfl⟩:=row i r hr;cases j with
    |succ j=>simp at hj
    |zero=>simp only[List.getElem?_cons_zero,rJ] at hj; subst hj; exact .int k _
  rw[hlen,<- ea] at key;exact CRel.p _ _ key
theorem qL7{ts:List TypeId}{ds:List (DataW H)}(h:(DataW.weightsEach P ts ds).all (·<=reachBytes)=true):∀ (j:Nat) {t:TypeId} {d:DataW H},ts[j]?=some t->ds[j]?=some d->∀ x∈d.weights P t,x<=reachBytes:=by
 have key:∀ (ts:List TypeId) (ds:List (DataW H)) (j:Nat) {t:TypeId} {d:DataW H},ts[j]?=some t->ds[j]?=some d->∀ x∈d.weights P t,x∈DataW.weightsEach P ts ds:=by
  intro ts
  induction ts with
  |nil=>intro ds j t d h1; cases h1
  |cons a ts ih =>
   intro ds j t d h1 h2 x hx;cases ds with
   |nil=>cases h2
   |cons b ds =>
    rw[DataW.weightsEach];cases j with
    |zero =>
     simp only[List.getElem?_cons_zero,rJ] at h1 h2;subst h1; subst h2;exact List.mem_append.2 (.inl hx)
    |succ j=>exact List.mem_append.2 (.inr (ih ds j h1 h2 x hx))
 intro j t d h1 h2 x hx;have:=List.all_eq_true.1 h x (key ts ds j h1 h2 x hx)
 simpa using this
end
inductive RW where
 |mk (kind n:Int) (names:Sl Int) (kids:Sl RW)
namespace RW
def kind:RW->Int | .mk k _ _ _=>k
def n:RW->Int | .mk _ n _ _=>n
def names:RW->Sl Int | .mk _ _ s _=>s
def kids:RW->Sl RW | .mk _ _ _ l=>l
mutual
def row:RW->List PVal
 |.mk k n s l=>[.int .i64 k,.int .i64 n,slP 1 iRow s,slRow l]
def slRow:Sl RW->PVal
 |.nil=>.nilslice
 |.mk t l=>.slice 4 t (rows l)
def rows:List RW->List (List PVal)
 |[]=>[]
 |v::vs=>row v::rows vs
end
theorem qBR:∀ l:List RW,rows l=l.map row
 |[]=>by simp[rows]
 |v::vs=>by simp[rows,qBR vs]
theorem qCB(l:Sl RW):slRow l=slP 4 row l:=by cases l <;> simp[slRow,slP,qBR]
theorem row_eq(v:RW):row v=[.int .i64 v.kind,.int .i64 v.n,slP 1 iRow v.names,slP 4 row v.kids]:=by
 cases v; simp[row,qCB,kind,n,names,kids]
theorem row_len(v:RW):(row v).length=4:=by rw[row_eq]; rfl
theorem mem_size{v x:RW}(h:x∈v.kids.list):SizeOf.sizeOf x<SizeOf.sizeOf v:=by
 cases v with
 |mk k n s l =>
  cases l with
  |nil=>simp[RW.kids,Sl.list] at h
  |mk t l =>
   have:=List.sizeOf_lt_of_mem (show x∈l from h);simp; omega
end RW
section
theorem exR :
  (∀ v:RW,v.row.length=4)/\(∀ v:RW,v.row[0]?=some (.int .i64 v.kind))/\(∀ v:RW,v.row[1]?=some (.int .i64 v.n))/\(∀ v:RW,v.row[2]?=some (slP 1 iRow v.names))/\(∀ v:RW,v.row[3]?=some (slP 4 RW.row v.kids)) /\
  (∀ {β:Type}{h:Heap}{k:KO β}(v:RW),vload true 4 (.v (.c (.p (.pptr v.row 0)))) h k=k (.v (.agg (pcells v.row))) h) :=
 ⟨RW.row_len,λv=>by rw[RW.row_eq]; rfl,λv=>by rw[RW.row_eq]; rfl,λv=>by rw[RW.row_eq]; rfl,λv=>by rw[RW.row_eq]; rfl,λv=>qB1 4 v.row v.row_len⟩
end
open Go.RowKit Go.ChangeShapes Go.WideShapes
section
variable {P:Program}
theorem qX6{tR tK tN tS tE tL:TypeId}{fs:Array Field}(uR:P.underlying tR=some (.struct fs))(hf:fs.toList.map (·.type)=[tK,tN,tS,tL])(uK:P.underlying tK=some (.int .i64))(uN:P.underlying tN=some (.int .i64))
  (uS:P.underlying tS=some (.slice tE)) (uE:P.underlying tE=some (.int .i64)) (cE:P.cellsOf tE=1) (uL:P.underlying tL=some (.slice tR)) (cR:P.cellsOf tR=4) :
  ∀ (n:Nat) (row:List PVal),HasT P n tR row->∃ r:RW,row=r.row/\True:=by
 intro n
 induction n using Nat.strongRecOn with
 |ind n ih =>
  intro row h;cases n with
  |zero=>exact h.elim
  |succ n =>
   simp only[HasT,uR] at h;obtain⟨rs,rfl,h⟩:=h;have h:=qU9 _ _ h;rw[hf] at h
   match rs,h with
   |[a,b,c,d],⟨h1,h2,h3,h4,_⟩ =>
    obtain⟨k,rfl,_⟩:=qVJ uK h1;obtain⟨m,rfl,_⟩:=qVJ uN h2;obtain⟨s,rfl,_⟩:=qXQ uS uE cE h3;obtain⟨l,rfl,_⟩:=qWV (f:=RW.row) (p:=λ_=>True) uL cR (λm hm r hr=>ih m (by omega) r hr) h4;refine⟨.mk k m s l,?_,trivial⟩;rw[RW.row_eq]; rfl
end
section
variable {β:Type} {O:Oracle} {h:Heap} {d:Nat} {k:KO β} {kt:KT β}
theorem qMQ(sz:Nat)(a i:TVal)(p:Plan)(e:plan .nil (.iaddr sz (.k a) (.k i))=some p):∃ v,p = .pure v:=by
 have e':(match some a,(some i).bind asN with
  |some (.v (.c (.p (.slice sz' _ rows)))),some k =>
   if sz'=sz then (match rows[k]? with|some row=>some (Plan.pure (.pv (.pptr row 0)))|none=>none) else none
  |some (.v (.c (.tsl sz' rows _))),some k =>
   if sz'=sz then (match rows[k]? with|some row=>some (.pure (.pv (.pptr row 0)))|none=>none) else none
  |some (.v (.c (.sref r off len _ sz'))),some k=>if sz'=sz/\k<len then some (.pure (.v (.c (.ptr r (off+k*sz))))) else none
  |_,_=>none)=some p:=e
 clear e;revert e';generalize (some i).bind asN=j;intro e;split at e
 ·split at e
  ·split at e
   ·exact⟨_,(Option.some.inj e).symm⟩
   ·cases e
  ·cases e
 ·split at e
  ·split at e
   ·exact⟨_,(Option.some.inj e).symm⟩
   ·cases e
  ·cases e
 ·split at e
  ·exact⟨_,(Option.some.inj e).symm⟩
  ·cases e
 ·cases e
theorem qHC(sz:Nat)(a i:TVal):vtouch O (.iaddr sz (.k a) (.k i)) h d kt=viaddr sz a i h λv h=>kt v h noTouch:=by
 rw[qHM _ (qMQ sz a i)];exact(qDu O sz (.k a) (.k i) .nil h d (λv h=>kt v h noTouch)).symm
theorem qRz(g:Bool)(n off:Nat)(row:List PVal):vtouch O (.load g n (.k (.v (.c (.p (.pptr row off)))))) h d kt=vload g n (.v (.c (.p (.pptr row off)))) h λv h=>kt v h noTouch:=by
 rw[qHM (.load g n (.k (.v (.c (.p (.pptr row off)))))) (λp e=>?_)]
 ·exact(qEd O g n (.k (.v (.c (.p (.pptr row off))))) .nil h d (λv h=>kt v h noTouch)).symm
 ·have e':(partOf g n (pcells row) off).map Plan.pure=some p:=e;cases hp:partOf g n (pcells row) off with
  |none=>rw[hp] at e'; cases e'
  |some v=>rw[hp] at e'; exact⟨v,(Option.some.inj e').symm⟩
theorem exY :
  (∀ {β:Type}{O:Oracle}{h:Heap}{d:Nat}{kt:KT β}(sz:Nat)(a i:TVal),vtouch O (.iaddr sz (.k a) (.k i)) h d kt=viaddr sz a i h λv h=>kt v h noTouch) /\
  (∀ {β:Type}{O:Oracle}{h:Heap}{d:Nat}{kt:KT β}(g:Bool)(n off:Nat)(row:List PVal),vtouch O (.load g n (.k (.v (.c (.p (.pptr row off)))))) h d kt=vload g n (.v (.c (.p (.pptr row off)))) h λv h=>kt v h noTouch) :=
 ⟨qHC,qRz⟩
end
section
variable {β:Type} {O:Oracle} {h:Heap} {d:Nat} {k:KO β} {kt:KT β}
theorem qAu(h:Heap)(o:AObj)(ho:o ≠ .dead):(h.push o).get (.im h.ims.length)=some o:=by
 unfold Heap.push Heap.get;simp;cases o <;> first|rfl|exact absurd rfl ho
theorem qCP(r:Ref)(off len sz:Nat)(cap:Option Nat):vlen O 2 (.v (.c (.sref r off len cap sz))) h d k=k (kI (len:Int)) h:=by
 show opK O (.len 2 (.k _)) .nil h d k=_;rw[qA9]; rfl
end
section
variable {β:Type} {O:Oracle} {h:Heap} {d:Nat} {k:KO β} {kt:KT β}
end
section
variable {β:Type} {O:Oracle} {h:Heap} {d:Nat} {k:KO β}
theorem qEL(sz i len:Nat)(cap:Option Nat)(cs:List Cell)(imm:Nat)(hl:cs.length=len*sz):srcCells sz (.v (.c (.sref (.im i) 0 len cap sz))) (some (.cells cs imm))=some (cs,len):=by
 unfold srcCells;dsimp only;rw[if_pos ⟨rfl,by omega⟩,List.drop_zero,List.take_of_length_le (by omega)]
theorem qMA{sz by':Nat}{i j la lb:Nat}{capb:Option Nat}{xs ys:List Cell}{ib:Nat}(hb:lb≠0)(hm:(la+lb)*by'<=1099511627776)(ga:h.get (.im i)=some (.cells xs 0))(gb:h.get (.im j)=some (.cells ys ib))(lx:xs.length=la*sz)(ly:ys.length=lb*sz) :
  vop O (.append sz by' true (.k (.v (.c (.sref (.im i) 0 la none sz)))) (.k (.v (.c (.sref (.im j) 0 lb capb sz))))) h d k=k (.v (.c (.sref (.im h.ims.length) 0 (la+lb) none sz))) ((h.put (.im i) .dead).push (.cells (xs++ys) 0)):=by
 have ea:appendTo sz by' true (.v (.c (.sref (.im i) 0 la none sz))) (some (.cells xs 0)) ys lb=some ⟨λr=>.v (.c (.sref r 0 (la+lb) none sz)),[(.im i,.dead)],some (.cells (xs++ys) 0),true⟩:=by
  unfold appendTo;rw[if_neg hb];dsimp only;rw[if_pos ⟨rfl,by omega,by omega⟩,if_pos (by omega),List.drop_zero,List.take_of_length_le (by omega)]
 show opK O _ .nil h d k=_;rw[qA9];have hl:(h.put (.im i) .dead).ims.length=h.ims.length:=by show(h.ims.set i .dead).length=_; rw[List.length_set]
 have:slow O (.append sz by' true (.k (.v (.c (.sref (.im i) 0 la none sz)))) (.k (.v (.c (.sref (.im j) 0 lb capb sz))))) .nil h d=some (.v (.c (.sref (.im h.ims.length) 0 (la+lb) none sz)),(h.put (.im i) .dead).push (.cells (xs++ys) 0)):=by
  unfold slow;show((Plan.go [.im i,.im j] _).exec O d h).map _=_;simp only[Plan.exec,goOp,List.mapM_cons,List.mapM_nil,ga,gb,Option.pure_def,rL,Option.bind_some,dstRef,srcRef,splitNeeds,qEL sz j lb capb ys ib ly,ea];simp[hl];rfl
 rw[this]; rfl
end
section
variable {β:Type} {O:Oracle} {h:Heap} {d:Nat} {k:KO β} {kt:KT β}
noncomputable def hAfter(h:Heap)(rs:List Ref)(qs:List AObj):Heap :=
 match (qs.map (AObj.ren (back rs qs.length (newRef h.ims.length)))).drop rs.length with
 |[]=>putAll h rs ((qs.map (AObj.ren (back rs qs.length (newRef h.ims.length)))).take rs.length)
 |o::new=>{ ims:=(putAll h rs ((qs.map (AObj.ren (back rs qs.length (newRef h.ims.length)))).take rs.length)).ims++o::new,owns:=(putAll h rs ((qs.map (AObj.ren (back rs qs.length (newRef h.ims.length)))).take rs.length)).owns }
noncomputable def gTouch(h:Heap)(qA2:List TVal)(os:List AObj)(rs:List Ref)(qs:List AObj):Touch :=
 { rd:=(qA2.flatMap TVal.refs++os.flatMap AObj.refs++rs).map Ref.site,wr:=rs.map Ref.site++(List.range ((qs.map (AObj.ren (back rs qs.length (newRef h.ims.length)))).drop rs.length).length).map (λj=>Site.im (h.ims.length+j)),wild:=Nat.blt 0 ((qs.map (AObj.ren (back rs qs.length (newRef h.ims.length)))).drop rs.length).length }
theorem qF2(g:FuncId)(args qA2 as':List TVal)(rs:List Ref)(os os' qs:List AObj)(v:TVal)(e1:args.map TVal.strip=qA2)(e2:reach h fuelReach (qA2.flatMap TVal.refs) []=rs)(e3:rs.mapM h.get=some os)
  (e4:qA2.map (TVal.ren (inn rs))=as') (e5:os.map (AObj.ren (inn rs))=os') (hc:O g as' os'=some (v,qs)) (e6:rs.length<=qs.length) :
  callOp O g args d h=some (v.ren (back rs qs.length (newRef h.ims.length)),hAfter h rs qs,gTouch h qA2 os rs qs):=by
 unfold callOp hAfter gTouch;simp only[e1,e2,e3,e4,e5,hc,if_neg (Nat.not_lt.2 e6)];cases hd:(qs.map (AObj.ren (back rs qs.length (newRef h.ims.length)))).drop rs.length <;> rfl
theorem qDb(g:FuncId)(args qA2 as':List TVal)(rs:List Ref)(os os' qs:List AObj)(v:TVal)(e1:args.map TVal.strip=qA2)(e2:reach h fuelReach (qA2.flatMap TVal.refs) []=rs)(e3:rs.mapM h.get=some os)
  (e4:qA2.map (TVal.ren (inn rs))=as') (e5:os.map (AObj.ren (inn rs))=os') (hc:O g as' os'=some (v,qs)) (e6:rs.length<=qs.length) :
  vcall O (.v (.c (.func g []))) args h d k=k (v.ren (back rs qs.length (newRef h.ims.length))) (hAfter h rs qs):=by
 have e:=qF2 (d:=d) g args qA2 as' rs os os' qs v e1 e2 e3 e4 e5 hc e6;show callF O g args d h k=_;rw[qC6,e];rfl
theorem qAc(n:Nat)(seen:List Ref):reach h (n+1) [] seen=seen:=by unfold reach; rfl
theorem qAK(n:Nat)(r:Ref)(todo seen:List Ref)(o:AObj)(hs:r∉seen)(hg:h.get r=some o):reach h (n+1) (r::todo) seen=reach h n (o.refs++todo) (seen++[r]):=by
 have:seen.contains r=false:=by simpa using hs
 conv=>lhs; unfold reach
 rw[this,cond_false,hg]
theorem qA1(n:Nat)(r:Ref)(todo seen:List Ref)(hs:r∈seen):reach h (n+1) (r::todo) seen=reach h n todo seen:=by
 have:seen.contains r=true:=by simpa using hs
 conv=>lhs; unfold reach
 rw[this,cond_true]
end
theorem Heap.get_im_some{h:Heap}{i:Nat}{o:AObj}(hg:h.get (.im i)=some o):h.ims[i]?=some o/\o ≠ .dead:=by
 unfold Heap.get at hg;cases hi:h.ims[i]? with
 |none=>simp only[hi] at hg; cases hg
 |some a =>
  simp only[hi] at hg;cases a <;> first|(simp only[rJ] at hg; subst hg; exact⟨rfl,λe=>by cases e⟩)|cases hg
theorem Heap.get_im_of{h:Heap}{i:Nat}{o:AObj}(hi:h.ims[i]?=some o)(ho:o ≠ .dead):h.get (.im i)=some o:=by
 unfold Heap.get;simp only[hi];cases o <;> first|rfl|exact absurd rfl ho
theorem Heap.get_own_some{h:Heap}{d g:Nat}{o:AObj}(hg:h.get (.own d g)=some o):h.owns.get d=some (g,o)/\o ≠ .dead:=by
 unfold Heap.get at hg;cases hi:h.owns.get d with
 |none=>simp only[hi] at hg; cases hg
 |some a =>
  obtain⟨g',x⟩:=a;simp only[hi] at hg;cases hb:Nat.beq g g' with
  |false=>rw[hb,cond_false] at hg; cases hg
  |true =>
   rw[hb,cond_true] at hg;have:=Nat.eq_of_beq_eq_true hb;subst this;cases x <;> first|(simp only[rJ] at hg; subst hg; exact⟨rfl,λe=>by cases e⟩)|cases hg
theorem Heap.get_own_of{h:Heap}{d g:Nat}{o:AObj}(hi:h.owns.get d=some (g,o))(ho:o ≠ .dead):h.get (.own d g)=some o:=by
 unfold Heap.get;simp only[hi,Nat.beq_refl,cond_true]
theorem Heap.zput_self{h:Heap}{r:Ref}{o x:AObj}(hs:h.get r=some x)(ho:o ≠ .dead):(h.put r o).get r=some o:=by
 cases r with
 |im i =>
  obtain⟨h1,_⟩:=Heap.get_im_some hs;refine Heap.get_im_of ?_ ho;show(h.ims.set i o)[i]?=some o;rw[List.getElem?_set,if_pos rfl,if_pos (List.getElem?_eq_some_iff.1 h1).1]
 |own d g =>
  obtain⟨h1,_⟩:=Heap.get_own_some hs
  letI:Sym:=⟨λ_=>0⟩
  exact Heap.get_own_of (qBd (g,o) (by rw[h1]; rfl)) ho
theorem Heap.zput_ne{h:Heap}{r r':Ref}{o x:AObj}(hs:h.get r=some x)(hne:r≠r'):(h.put r o).get r'=h.get r':=by
 cases r with
 |im i=>cases r' with
  |im j =>
   have hij:i≠j:=λe=>hne (by rw[e])
   unfold Heap.get Heap.put;simp only[List.getElem?_set,if_neg hij]
  |own d g=>rfl
 |own d g =>
  obtain⟨h1,_⟩:=Heap.get_own_some hs;cases r' with
  |im j=>rfl
  |own e g' =>
   by_cases hde:d=e
   ·subst hde;have hg:g'≠g:=λe=>hne (by rw[e])
    have hb:Nat.beq g' g=false:=Bool.eq_false_iff.2 λe=>hg (Nat.eq_of_beq_eq_true e)
    letI:Sym:=⟨λ_=>0⟩
    have h2:(TM.set (g,o) h.owns d).get d=some (g,o):=qBd (g,o) (by rw[h1]; rfl);show(match (TM.set (g,o) h.owns d).get d with|some (g2,o2)=>bif Nat.beq g' g2 then (match o2 with | .dead=>none|o2=>some o2) else none|none=>none)=(match h.owns.get d with|some (g2,o2)=>bif Nat.beq g' g2 then (match o2 with | .dead=>none|o2=>some o2) else none|none=>none);rw[h1,h2];dsimp only;rw[hb]; rfl
   ·unfold Heap.get Heap.put;simp only[TM.get_set_ne _ _ _ _ hde]
theorem Heap.zput_len(h:Heap)(r:Ref)(o:AObj):(h.put r o).ims.length=h.ims.length:=by
 cases r with
 |im i=>show(h.ims.set i o).length=_; simp
 |own d g=>rfl
theorem Heap.zput_gen{h:Heap}{r:Ref}{o x:AObj}(hs:h.get r=some x)(d:Nat):(h.put r o).gen d=h.gen d:=by
 cases r with
 |im i=>rfl
 |own e g =>
  obtain⟨h1,_⟩:=Heap.get_own_some hs;by_cases hde:e=d
  ·subst hde
   letI:Sym:=⟨λ_=>0⟩
   show(match (TM.set (g,o) h.owns e).get e with|some (g2,_)=>g2|none=>0)=(match h.owns.get e with|some (g2,_)=>g2|none=>0);rw[qBd (g,o) (by rw[h1]; rfl),h1]
  ·unfold Heap.gen Heap.put;simp only[TM.get_set_ne _ _ _ _ hde]
theorem zputAll:∀ (rs:List Ref) (os:List AObj) (h:Heap),rs.Nodup->(∀ r∈rs,∃ x,h.get r=some x) ->
  (∀ (i:Nat) (r:Ref) (o:AObj),rs[i]?=some r->os[i]?=some o->o ≠ .dead->(putAll h rs os).get r=some o)/\(∀ r',r'∉rs->(putAll h rs os).get r'=h.get r')/\(putAll h rs os).ims.length=h.ims.length/\∀ d,(putAll h rs os).gen d=h.gen d
 |[],os,h,_,_=>⟨λi r o e=>by simp at e,λ_ _=>by cases os <;> rfl,by cases os <;> rfl,λd=>by cases os <;> rfl⟩
 |r::rs,[],h,_,_=>⟨λi r o e1 e2=>by simp at e2,λ_ _=>rfl,rfl,λd=>rfl⟩
 |r::rs,o::os,h,hn,hx=>by
  obtain⟨hn1,hn2⟩:=List.nodup_cons.1 hn;obtain⟨x,hr⟩:=hx r (by simp);have hx':∀ s∈rs,∃ x,(h.put r o).get s=some x:=λs hs=>by
   obtain⟨y,hy⟩:=hx s (by simp[hs]);exact⟨y,by rw[Heap.zput_ne hr (λe=>hn1 (by rw[e]; exact hs))]; exact hy⟩
  obtain⟨i1,i2,i3,i4⟩:=zputAll rs os (h.put r o) hn2 hx';refine⟨λi s q e1 e2 hq=>?_,λs hs=>?_,i3.trans (Heap.zput_len h r o),λd=>(i4 d).trans (Heap.zput_gen hr d)⟩
  ·cases i with
   |zero =>
    simp only[List.getElem?_cons_zero,rJ] at e1 e2;subst e1; subst e2;exact(i2 r hn1).trans (Heap.zput_self hr hq)
   |succ i =>
    simp only[List.getElem?_cons_succ] at e1 e2;exact i1 i s q e1 e2 hq
  ·simp only[List.mem_cons,not_or] at hs;exact(i2 s hs.2).trans (Heap.zput_ne hr (λe=>hs.1 e.symm))
structure Behind (h:Heap) (rs:List Ref) (qs:List AObj) (h':Heap):Prop where
 own:∀ (i:Nat) (r:Ref) (q:AObj),rs[i]?=some r->(qs.map (AObj.ren (back rs qs.length (newRef h.ims.length))))[i]?=some q->q ≠ .dead->h'.get r=some q
 old:∀ (r:Ref) (o:AObj),r∉rs->h.get r=some o->h'.get r=some o
 new:∀ (j:Nat) (q:AObj),(qs.map (AObj.ren (back rs qs.length (newRef h.ims.length))))[rs.length+j]?=some q->q ≠ .dead->h'.get (.im (h.ims.length+j))=some q
 len:h'.ims.length=h.ims.length+(qs.length - rs.length)
 gen:∀ d:Nat,h'.gen d=h.gen d
theorem qOE(h:Heap)(rs:List Ref)(qs:List AObj):hAfter h rs qs={ ims:=(putAll h rs ((qs.map (AObj.ren (back rs qs.length (newRef h.ims.length)))).take rs.length)).ims++(qs.map (AObj.ren (back rs qs.length (newRef h.ims.length)))).drop rs.length,owns:=(putAll h rs ((qs.map (AObj.ren (back rs qs.length (newRef h.ims.length)))).take rs.length)).owns }:=by
 unfold hAfter;cases hd:(qs.map (AObj.ren (back rs qs.length (newRef h.ims.length)))).drop rs.length with
 |nil=>simp only[List.append_nil]
 |cons o new=>rfl
theorem qGQ{h:Heap}{l:List AObj}{r:Ref}{o:AObj}(hg:h.get r=some o):(Heap.mk (h.ims++l) h.owns).get r=some o:=by
 cases r with
 |im i =>
  obtain⟨h1,h2⟩:=Heap.get_im_some hg;refine Heap.get_im_of ?_ h2;show(h.ims++l)[i]?=some o;rw[List.getElem?_append_left (List.getElem?_eq_some_iff.1 h1).1,h1]
 |own d g=>exact hg
theorem behind{h:Heap}{rs:List Ref}{os qs:List AObj}(hn:rs.Nodup)(e3:rs.mapM h.get=some os)(e6:rs.length<=qs.length):Behind h rs qs (hAfter h rs qs):=by
 letI:Sym:=⟨λ_=>0⟩
 have hx:∀ r∈rs,∃ x,h.get r=some x:=(qD8 e3).1;rw[qOE];generalize hps:qs.map (AObj.ren (back rs qs.length (newRef h.ims.length)))=ps;have hl:ps.length=qs.length:=by rw[<- hps]; simp
 obtain⟨i1,i2,i3,i4⟩:=zputAll rs (ps.take rs.length) h hn hx;constructor
 ·rw[hps];intro i r q e1 e2 hq;have hi:i<rs.length:=(List.getElem?_eq_some_iff.1 e1).1;exact qGQ (i1 i r q e1 (by rw[List.getElem?_take,if_pos hi]; exact e2) hq)
 ·intro r o hr hg;exact qGQ ((i2 r hr).trans hg)
 ·rw[hps];intro j q e hq;refine Heap.get_im_of ?_ hq;show((putAll h rs (ps.take rs.length)).ims++ps.drop rs.length)[h.ims.length+j]?=some q;rw[List.getElem?_append_right (by omega),i3,List.getElem?_drop];rw[show rs.length+(h.ims.length+j - h.ims.length)=rs.length+j by omega];exact e
 ·show((putAll h rs (ps.take rs.length)).ims++ps.drop rs.length).length=_;rw[List.length_append,i3,List.length_drop,hl]
 ·intro d;exact i4 d
theorem qBz{O:Oracle}{h:Heap}(g:FuncId)(args qA2 as':List TVal)(rs:List Ref)(os os' qs:List AObj)(v v':TVal)(e1:args.map TVal.strip=qA2)(e2:reach h fuelReach (qA2.flatMap TVal.refs) []=rs)(e3:rs.mapM h.get=some os)
  (e4:qA2.map (TVal.ren (inn rs))=as') (e5:os.map (AObj.ren (inn rs))=os') (hc:O g as' os'=some (v,qs)) (e6:rs.length<=qs.length) (hn:rs.Nodup) (e7:v.ren (back rs qs.length (newRef h.ims.length))=v') :
  ∃ h',(∀ {β:Type}(d:Nat)(k:KO β),vcall O (.v (.c (.func g []))) args h d k=k v' h')/\Behind h rs qs h' :=
 ⟨hAfter h rs qs,λd k=>by rw[<- e7]; exact qDb g args qA2 as' rs os os' qs v e1 e2 e3 e4 e5 hc e6,behind hn e3 e6⟩
end Go.AI
