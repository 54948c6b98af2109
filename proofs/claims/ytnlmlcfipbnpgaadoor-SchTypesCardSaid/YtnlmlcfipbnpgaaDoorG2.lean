/- Own work. Condition: what each theorem names. -/
import Derived.Test.YtnlmlcfipbnpgaaDoorG1
set_option linter.all false
set_option maxRecDepth 100000
set_option maxHeartbeats 4000000
open Nat renaming reduceAdd->rA,reduceMul->rB,reduceLT->rC,reduceLeDiff->rD,reduceEqDiff->rE
open Int renaming reduceLT->rF,reduceLE->rG,reduceEq->rH,reduceToNat->rI
namespace Go.Proofs.YtnlmlcfipbnpgaaDoor.Ab
open Go Go.AI
abbrev TW:=Int×LB
def tw(t:Tok):TW:=(t.kind,t.text)
def Rd(s:LB)(ws:List TW)(r:LB):Prop:=ws.length+r.length<=s.length/\∀ f i acc,∃ l i',l.map tw=ws/\toksGo (f+ws.length) s i acc=toksGo f r i' (acc++l)
theorem Rd.name{w:LB}(hw:nameB w=true){r:LB}(hr:endW r):Rd (w++r) [(1,w)] r:=by
 refine⟨?_,λf i acc=>⟨[⟨1,w,0,(i:Int)⟩],_,rfl,qNH hw hr f i acc⟩⟩;cases w with
 |nil=>cases hw
 |cons c q=>simp; omega
theorem Rd.sign{c:UInt8}(hc:sgnB c=true)(r:LB)(hr:c=58->r.head?≠some 61):Rd (c::r) [(4,[c])] r :=
 ⟨by simp; omega,λf i acc=>⟨[⟨4,[c],0,(i:Int)⟩],_,rfl,qNj hc r hr f i acc⟩⟩
theorem Rd.trans{s m r:LB}{a b:List TW}(h1:Rd s a m)(h2:Rd m b r):Rd s (a++b) r:=by
 refine⟨by have:=h1.1; have:=h2.1; rw[List.length_append]; omega,λf i acc=>?_⟩;obtain⟨l1,i1,e1,e2⟩:=h1.2 (f+b.length) i acc;obtain⟨l2,i2,e3,e4⟩:=h2.2 f i1 (acc++l1);refine⟨l1++l2,i2,by rw[List.map_append,e1,e3],?_⟩;rw[List.length_append,show f+(a.length+b.length)=f+b.length+a.length by omega,e2,e4,List.append_assoc]
theorem Rd.blank{s r:LB}{a:List TW}(h1:Rd s a r)(ha:a≠[]):Rd (32::s) a r:=by
 refine⟨by have:=h1.1; rw[List.length_cons]; omega,λf i acc=>?_⟩;obtain⟨l1,i1,e1,e2⟩:=h1.2 f (i+1) acc;refine⟨l1,i1,e1,?_⟩;obtain⟨x,xs,rfl⟩:∃ x xs,a=x::xs:=by cases a with|nil=>exact absurd rfl ha|cons x xs=>exact⟨x,xs,rfl⟩
 rw[List.length_cons,<- Nat.add_assoc] at e2 ⊢;rw[qLx];exact e2
def keyL:List (LB):=[wordM 1,wordM 2,wordM 3,wordM 4,wordM 5,wordM 6,wordM 8]
def strictS(l:Es):Prop:=∀ i p q,l[i]?=some p->l[i+1]?=some q->bless p.1 q.1=true
def WF:Nat->TT->Prop
 |0,_=>False
 |n+1,t=>(∃ k:Int,(k=1\/k=2\/k=3)/\t=leafT k)\/(∃ w,nameB w=true/\w∉keyL/\t = .mk 9 w .nil .nil)\/(∃ (k:Int) (x:TT),(k=4\/k=5\/k=6)/\WF n x/\t = .mk k [] .nil (.mk true [x])) \/
  (∃ (k:Int) (l:Es),(k=7\/k=8)/\l.length<=1000/\(∀ p∈l,nameB p.1=true/\WF n p.2)/\strictS l/\t=recT k l)
def fldW(sub:TT->List TW):Es->List TW
 |[]=>[]
 |[p]=>(1,p.1)::(4,[58])::sub p.2
 |p::q::l=>((1,p.1)::(4,[58])::sub p.2)++(4,[44])::fldW sub (q::l)
def tokN:Nat->TT->List TW
 |0,_=>[]
 |n+1,t=>if t.kind=9 then [(1,t.name)] else if t.kind=7 then (4,[123])::(fldW (tokN n) (t.names.list.zip t.kids.list)++[(4,[125])]) else if t.kind=8 then (1,wordM 8)::(4,[123])::(fldW (tokN n) (t.names.list.zip t.kids.list)++[(4,[125])])
  else match t.kids.list with
   |[]=>[(1,wordM t.kind)]
   |x::_=>(1,wordM t.kind)::(4,[60])::(tokN n x++[(4,[62])])
theorem qCm(n:Nat)(t:TT):tokN (n+1) t=if t.kind=9 then [(1,t.name)] else if t.kind=7 then (4,[123])::(fldW (tokN n) (t.names.list.zip t.kids.list)++[(4,[125])]) else if t.kind=8 then (1,wordM 8)::(4,[123])::(fldW (tokN n) (t.names.list.zip t.kids.list)++[(4,[125])])
  else match t.kids.list with
   |[]=>[(1,wordM t.kind)]
   |x::_=>(1,wordM t.kind)::(4,[60])::(tokN n x++[(4,[62])]):=rfl
theorem qB3{α:Type}(l:List α):(grown l).list=l:=by cases l <;> rfl
theorem qKX(k:Int)(l:Es):(recT k l).names.list.zip (recT k l).kids.list=l:=by
 show(grown (l.map (·.1))).list.zip (grown (l.map (·.2))).list=l;rw[qB3,qB3]
 induction l with
 |nil=>rfl
 |cons p l ih=>simp[ih]
def fldTx:Es->LB
 |[]=>[]
 |[p]=>p.1++58::32::txtM p.2
 |p::q::l=>p.1++58::32::(txtM p.2++44::32::fldTx (q::l))
theorem qVj:∀ l:Es,Lib.join (fldL (l.map (·.1)) (l.map (·.2))) sepC=fldTx l
 |[]=>rfl
 |[p]=>by
  show Lib.join [p.1++colC++txtM p.2] sepC=_;rw[Lib.join_one];simp[fldTx,colC]
 |p::q::l=>by
  have ih:=qVj (q::l);show Lib.join ((p.1++colC++txtM p.2)::(q.1++colC++txtM q.2)::fldL (l.map (·.1)) (l.map (·.2))) sepC=_;have e:∀ (x y:LB) (r:List (LB)),Lib.join (x::y::r) sepC=x++sepC++Lib.join (y::r) sepC:=λx y r=>by
   simp[Lib.join,List.intercalate,List.intersperse]
  rw[e];have ih':Lib.join ((q.1++colC++txtM q.2)::fldL (l.map (·.1)) (l.map (·.2))) sepC=fldTx (q::l):=ih;rw[ih'];simp[fldTx,colC,sepC]
theorem qVW(k:Int)(l:Es):brM (recT k l)=123::(fldTx l++[125]):=by
 unfold brM;rw[show(recT k l).names.list=l.map (·.1) from qB3 _,show(recT k l).kids.list=l.map (·.2) from qB3 _,qVj];simp
theorem qCK{c:UInt8}(hc:sgnB c=true)(r:LB):endW (c::r):=by
 intro b t e;injection e with e1 e2
 subst e1
 rcases qEY hc with rfl|rfl|rfl|rfl|rfl|rfl|rfl|rfl|rfl|rfl <;> decide
theorem qWK{n:Nat}{t:TT}(h:WF n t):tokN n t≠[]:=by
 cases n with
 |zero=>exact h.elim
 |succ n =>
  unfold tokN;split
  ·simp
  split
  ·simp
  split
  ·simp
  split <;> simp
theorem qW3{n:Nat}(ih:∀ t,WF n t->∀ r,endW r->Rd (txtM t++r) (tokN n t) r):∀ (l:Es),l≠[]->(∀ p∈l,nameB p.1=true/\WF n p.2)->∀ r,Rd (fldTx l++125::r) (fldW (tokN n) l) (125::r)
 |[],h,_,_=>absurd rfl h
 |[p],_,hp,r=>by
  obtain⟨h1,h2⟩:=hp p (List.mem_cons_self ..);have a:=Rd.name h1 (r:=58::32::(txtM p.2++125::r)) (qCK (by decide) _);have b:=Rd.sign (c:=58) (by decide) (32::(txtM p.2++125::r)) (λ_=>by simp);have c:=(ih p.2 h2 (125::r) (qCK (by decide) _)).blank (qWK h2);have:=a.trans (b.trans c)
  simpa [fldTx,fldW] using this
 |p::q::l,_,hp,r=>by
  obtain⟨h1,h2⟩:=hp p (List.mem_cons_self ..);have hq:=qW3 ih (q::l) (by simp) (λx hx=>hp x (List.mem_cons_of_mem _ hx)) r;have a:=Rd.name h1 (r:=58::32::(txtM p.2++44::32::(fldTx (q::l)++125::r))) (qCK (by decide) _);have b:=Rd.sign (c:=58) (by decide) (32::(txtM p.2++44::32::(fldTx (q::l)++125::r))) (λ_=>by simp);have c:=(ih p.2 h2 (44::32::(fldTx (q::l)++125::r)) (qCK (by decide) _)).blank (qWK h2);have d:=Rd.sign (c:=44) (by decide) (32::(fldTx (q::l)++125::r)) (λe=>by cases e);have e:=hq.blank (by cases l <;> simp[fldW]);have:=a.trans (b.trans (c.trans (d.trans e)))
  simpa [fldTx,fldW] using this
theorem qUq(k:Int)(hk:k=1\/k=2\/k=3\/k=4\/k=5\/k=6\/k=8):nameB (wordM k)=true:=by
 rcases hk with rfl|rfl|rfl|rfl|rfl|rfl|rfl <;> decide
theorem qXB:∀ (n:Nat) (t:TT),WF n t->∀ r,endW r->Rd (txtM t++r) (tokN n t) r
 |0,t,h,_,_=>h.elim
 |n+1,t,h,r,hr=>by
  have ih:=qXB n
  rcases h with ⟨k,hk,rfl⟩|⟨w,hw,_,rfl⟩|⟨k,x,hk,hx,rfl⟩|⟨k,l,hk,hl,hp,_,rfl⟩
  ·have e1:txtM (leafT k)=wordM k:=by
    rw[qUL];show(if k=9 then _ else if k=7 then _ else if k=8 then _ else wordM k++angL [])=_;rw[if_neg (by omega),if_neg (by omega),if_neg (by omega)];simp[angL]
   have e2:tokN (n+1) (leafT k)=[(1,wordM k)]:=by
    rw[qCm];show(if k=9 then _ else if k=7 then _ else if k=8 then _ else _)=_;rw[if_neg (by omega),if_neg (by omega),if_neg (by omega)]; rfl
   rw[e1,e2];exact Rd.name (qUq k (by omega)) hr
  ·exact Rd.name hw hr
  ·have e1:txtM (.mk k [] .nil (.mk true [x]))=wordM k++60::(txtM x++[62]):=by
    rw[qUL];show(if k=9 then _ else if k=7 then _ else if k=8 then _ else wordM k++angL [x])=_;rw[if_neg (by omega),if_neg (by omega),if_neg (by omega)];simp[angL]
   have e2:tokN (n+1) (.mk k [] .nil (.mk true [x]))=(1,wordM k)::(4,[60])::(tokN n x++[(4,[62])]):=by
    rw[qCm];show(if k=9 then _ else if k=7 then _ else if k=8 then _ else _)=_;rw[if_neg (by omega),if_neg (by omega),if_neg (by omega)]; rfl
   rw[e1,e2];have a:=Rd.name (qUq k (by omega)) (r:=60::(txtM x++62::r)) (qCK (by decide) _);have b:=Rd.sign (c:=60) (by decide) (txtM x++62::r) (λe=>by cases e);have c:=ih x hx (62::r) (qCK (by decide) _);have d:=Rd.sign (c:=62) (by decide) r (λe=>by cases e);have:=a.trans (b.trans (c.trans d))
   simpa using this
  ·have F:Rd (123::(fldTx l++[125])++r) ((4,[123])::(fldW (tokN n) l++[(4,[125])])) r:=by
    have a:=Rd.sign (c:=123) (by decide) (fldTx l++125::r) (λe=>by cases e);have d:=Rd.sign (c:=125) (by decide) r (λe=>by cases e);by_cases h0:l=[]
    ·subst h0;have:=a.trans d
     simpa [fldTx,fldW] using this
    ·have b:=qW3 ih l h0 hp r;have:=a.trans (b.trans d)
     simpa using this
   rcases hk with rfl|rfl
   ·have e1:txtM (recT 7 l)=brM (recT 7 l):=by rw[qUL]; rfl
    have e2:tokN (n+1) (recT 7 l)=(4,[123])::(fldW (tokN n) l++[(4,[125])]):=by
     rw[qCm];rw[qKX]; rfl
    rw[e1,e2,qVW];exact F
   ·have e1:txtM (recT 8 l)=wordM 8++32::brM (recT 8 l):=by rw[qUL]; rfl
    have e2:tokN (n+1) (recT 8 l)=(1,wordM 8)::(4,[123])::(fldW (tokN n) l++[(4,[125])]):=by
     rw[qCm];rw[qKX]; rfl
    rw[e1,e2,qVW];have a:=Rd.name (qUq 8 (by omega)) (r:=32::(123::(fldTx l++[125])++r)) (λb t e=>by injection e with e1 e2; subst e1; decide);have:=a.trans (F.blank (by simp))
    simpa using this
theorem qXN{n:Nat}{t:TT}(h:WF n t):(wordsM (txtM t)).2=4/\(wordsM (txtM t)).1=[]\/(wordsM (txtM t)).2=3/\(wordsM (txtM t)).1=[]\/(wordsM (txtM t)).2=0/\(wordsM (txtM t)).1.map tw=tokN n t:=by
 have R:=qXB n t h [] (λb t e=>by cases e);rw[List.append_nil] at R;obtain⟨h1,h2⟩:=R;obtain⟨l,i',e1,e2⟩:=h2 ((txtM t).length+1 - (tokN n t).length) 0 [];rw[show(txtM t).length+1 - (tokN n t).length+(tokN n t).length=(txtM t).length+1 by simp at h1; omega,qOt,List.nil_append] at e2;unfold wordsM tokensM;split
 ·rename_i e he;split at he
  ·cases he; exact .inl ⟨rfl,rfl⟩
  ·rw[e2] at he;unfold toksFin at he;split at he
   ·rename_i he2; cases he2
   ·rename_i l' hl';cases hl';split at he
    ·cases he; exact .inr (.inl ⟨rfl,rfl⟩)
    ·cases he
 ·rename_i l' he;split at he
  ·cases he
  ·rw[e2] at he;unfold toksFin at he;split at he
   ·cases he
   ·rename_i l2 hl2;cases hl2;split at he
    ·cases he
    ·cases he; exact .inr (.inr ⟨rfl,e1⟩)
def Pos(L:List Tok)(s:RS)(ws:List TW):Prop:=s.e=0/\(L.map tw).drop s.p=ws
def advM(s:RS)(k:Nat):RS:={ s with p:=s.p+k }
theorem Pos.adv{L:List Tok}{s:RS}{a b:List TW}(h:Pos L s (a++b)):Pos L (advM s a.length) b:=by
 refine⟨h.1,?_⟩;show(L.map tw).drop (s.p+a.length)=b;rw[<- List.drop_drop,h.2,List.drop_left'];rfl
theorem qAb(s:RS)(a b:Nat):advM (advM s a) b=advM s (a+b):=by unfold advM; simp[Nat.add_assoc]
theorem qAn(s:RS):nextM s=advM s 1:=rfl
section
variable {L:List Tok} {s:RS} {k:Int} {x:LB} {w:List TW}
theorem Pos.at(h:Pos L s ((k,x)::w)):∃ t,L[s.p]?=some t/\t.kind=k/\t.text=x:=by
 have h2:((L.map tw).drop s.p)[0]?=some (k,x):=by rw[h.2]; rfl
 rw[List.getElem?_drop,Nat.add_zero,List.getElem?_map] at h2;cases ht:L[s.p]? with
 |none=>rw[ht] at h2; cases h2
 |some t =>
  rw[ht] at h2;have:tw t=(k,x):=Option.some.inj h2;exact⟨t,rfl,congrArg Prod.fst this,congrArg Prod.snd this⟩
theorem Pos.peek(h:Pos L s ((k,x)::w)):(peekM L s).kind=k/\(peekM L s).text=x:=by
 obtain⟨t,h1,h2,h3⟩:=h.at;unfold peekM;rw[if_pos h.1,h1];exact⟨h2,h3⟩
theorem Pos.lt(h:Pos L s ((k,x)::w)):s.p<L.length:=by
 obtain⟨t,h1,_⟩:=h.at;exact(List.getElem?_eq_some_iff.1 h1).1
theorem Pos.next(h:Pos L s ((k,x)::w)):Pos L (nextM s) w:=Pos.adv (a:=[(k,x)]) h
theorem Pos.is(h:Pos L s ((k,x)::w))(k':Int)(y:LB):isM k' L s y=(decide (k=k')&&decide (x=y)):=by
 unfold isM;rw[h.peek.1,h.peek.2]
theorem Pos.take(h:Pos L s ((4,x)::w)):isM 4 L s x=true/\takeM 4 L s x=nextM s:=by
 have:isM 4 L s x=true:=by rw[h.is]; simp
 exact⟨this,by unfold takeM; rw[if_pos this]⟩
theorem Pos.must(h:Pos L s ((4,x)::w)):mustM (takeM 4 L s x) (isM 4 L s x)=nextM s:=by
 rw[h.take.1,h.take.2]; rfl
end
theorem Pos.col{L:List Tok}{s:RS}{nm:LB}{w:List TW}(h:Pos L s ((1,nm)::(4,[58])::w)):colM L s=advM s 2/\(peekM L s).text=nm:=by
 refine⟨?_,h.peek.2⟩;have h1:nmS1 L s=nextM s:=by
  unfold nmS1;rw[h.peek.1]; rfl
 have h2:=h.next;unfold colM;rw[h1,h2.must];rfl
def tailW(sub:TT->List TW):Es->List TW
 |[]=>[]
 |q::l=>(4,[44])::(1,q.1)::(4,[58])::(sub q.2++tailW sub l)
theorem qHa(sub:TT->List TW):∀ (p:LB×TT) (l:Es),fldW sub (p::l)=(1,p.1)::(4,[58])::(sub p.2++tailW sub l)
 |p,[]=>by simp[fldW,tailW]
 |p,q::l=>by
  show((1,p.1)::(4,[58])::sub p.2)++(4,[44])::fldW sub (q::l)=_;rw[qHa sub q l];simp[tailW]
def KidOK(L:List Tok)(sub:RS->TT×RS)(ok:RS->Prop)(tk:TT->List TW)(t:TT):Prop:=∀ s rest,Pos L s (tk t++rest)->sub s=(t,advM s (tk t).length)/\ok s
theorem qJM{L:List Tok}{sub:RS->TT×RS}{ok:RS->Prop}{tk:TT->List TW}{p:LB×TT}(K:KidOK L sub ok tk p.2){s:RS}{rest:List TW}(h:Pos L s ((1,p.1)::(4,[58])::(tk p.2++rest))) :
  fieldM sub L s=(p,advM s (2+(tk p.2).length))/\ok (colM L s)/\Pos L (advM s (2+(tk p.2).length)) rest:=by
 obtain⟨h1,h2⟩:=h.col;have h3:Pos L (advM s 2) (tk p.2++rest):=Pos.adv (a:=[(1,p.1),(4,[58])]) h;obtain⟨h4,h5⟩:=K _ _ h3;refine⟨?_,by rw[h1]; exact h5,?_⟩
 ·unfold fieldM;rw[h1,h2,h4,qAb]
 ·have:=h3.adv
  rwa [qAb] at this
theorem qKY{L:List Tok}{sub:RS->TT×RS}{ok:RS->Prop}{tk:TT->List TW}:∀ (l:Es),(∀ p∈l,KidOK L sub ok tk p.2)->∀ (f:Nat) (s:RS) (acc:Es) (rest:List TW),(tailW tk l).length<f->Pos L s (tailW tk l++(4,[125])::rest) ->
  loopM sub L [125] f s acc=(acc++l,advM s ((tailW tk l).length+1))/\loopOK sub ok L f s
 |[],_,0,s,acc,rest,hf,_=>by omega
 |[],_,f+1,s,acc,rest,hf,h=>by
  have h:Pos L s ((4,[125])::rest):=h;have hi:isM 4 L s [44]=false:=by rw[h.is]; rfl
  refine⟨?_,?_⟩
  ·unfold loopM;rw[if_neg (by rw[hi]; decide),h.must,List.append_nil]; rfl
  ·unfold loopOK;intro e;rw[hi] at e; cases e
 |q::l,K,0,s,acc,rest,hf,_=>by omega
 |q::l,K,f+1,s,acc,rest,hf,h=>by
  have h':Pos L s ((4,[44])::(1,q.1)::(4,[58])::(tk q.2++(tailW tk l++(4,[125])::rest))):=by
   have:=h;simp only[tailW,List.cons_append,List.append_assoc] at this;exact this
  obtain⟨hi,ht⟩:=h'.take;obtain⟨h1,h2,h3⟩:=qJM (K q (List.mem_cons_self ..)) h'.next;have hlen:(tailW tk (q::l)).length=3+(tk q.2).length+(tailW tk l).length:=by simp[tailW]; omega
  obtain⟨h4,h5⟩:=qKY l (λp hp=>K p (List.mem_cons_of_mem _ hp)) f _ (acc++[q]) rest (by omega) h3;refine⟨?_,?_⟩
  ·unfold loopM;rw[if_pos hi,h1];show loopM sub L [125] f (advM (nextM s) (2+(tk q.2).length)) (acc++[q])=_;rw[h4,qAn,qAb,qAb,List.append_assoc,hlen]
   congr 2
   omega
  ·unfold loopOK;intro _;rw[h1];exact⟨h2,h5⟩
theorem qKk{L:List Tok}{s:RS}{a b:List TW}(h:Pos L s (a++b)):a.length<=L.length:=by
 have:=congrArg List.length h.2;rw[List.length_drop,List.length_map,List.length_append] at this;omega
theorem qMu{L:List Tok}{sub:RS->TT×RS}{ok:RS->Prop}{tk:TT->List TW}(l:Es)(K:∀ p∈l,KidOK L sub ok tk p.2){s:RS}{rest:List TW}(h:Pos L s (fldW tk l++(4,[125])::rest)) :
  rowM sub L [125] s=(l,advM s ((fldW tk l).length+1))/\rowOK sub ok L [125] s:=by
 cases l with
 |nil =>
  have h:Pos L s ((4,[125])::rest):=h;refine⟨?_,λe=>by rw[h.take.1] at e; cases e⟩;unfold rowM;rw[if_pos h.take.1]; rfl
 |cons p l =>
  rw[qHa] at h ⊢;have h':Pos L s ((1,p.1)::(4,[58])::(tk p.2++(tailW tk l++(4,[125])::rest))):=by
   have:=h;simp only[List.cons_append,List.append_assoc] at this;exact this
  have hi:isM 4 L s [125]=false:=by rw[h'.is]; rfl
  obtain⟨h1,h2,h3⟩:=qJM (K p (List.mem_cons_self ..)) h';have hle:=qKk h3;obtain⟨h4,h5⟩:=qKY l (λq hq=>K q (List.mem_cons_of_mem _ hq)) (L.length+2) _ [p] rest (by omega) h3;refine⟨?_,λ_=>⟨h2,?_⟩⟩
  ·unfold rowM;rw[if_neg (by rw[hi]; decide),h1];show loopM sub L [125] (L.length+2) (advM s (2+(tk p.2).length)) [p]=_;rw[h4,qAb]
   congr 2
   simp; omega
  ·rw[h1]; exact h5
def adjS(l:Es)(a b:Nat):Prop:=∀ p q,l[a]?=some p->l[b]?=some q->bless q.1 p.1=false
theorem qCz(l:Es)(h:l.length<=1000):Ord ltE (sortedM l):=(qC4 l h).1
theorem qWv(l:Es)(h:l.length<=1000)(j:Nat)(hj:j+1<l.length):adjS (sortedM l) j (j+1):=λp q hp hq=>by
 have o:=List.pairwise_iff_getElem.1 (qCz l h);obtain⟨h1,e1⟩:=List.getElem?_eq_some_iff.1 hp;obtain⟨h2,e2⟩:=List.getElem?_eq_some_iff.1 hq;have:=o j (j+1) h1 h2 (by omega);rw[e1,e2] at this;exact this
theorem qWR(l:Es)(p:LB×TT)(h:p∈sortedM l):p∈l:=(qBX l).mem_iff.1 h
theorem qEt:∀ {l:Es},strictS l->l.Pairwise λp q=>ltE p q=true
 |[],_=>List.Pairwise.nil
 |[a],_=>List.pairwise_singleton _ _
 |a::b::l,h=>by
  have ih:=qEt (l:=b::l) (λi p q hp hq=>h (i+1) p q hp hq);have ab:ltE a b=true:=h 0 a b rfl rfl;refine List.pairwise_cons.2 ⟨λx hx=>?_,ih⟩
  rcases List.mem_cons.1 hx with rfl|hx
  ·exact ab
  ·have bx:=(List.pairwise_cons.1 ih).1 x hx;cases hc:ltE a x
   ·have:=qAe b x a (qBQ _ _ bx) hc;rw[ab] at this; cases this
   ·rfl
theorem qI1:∀ (l Z:Es),(l.Pairwise λp q=>ltE p q=true)->Ord ltE Z->Z.Perm l->Z=l
 |[],Z,_,_,p=>List.perm_nil.1 p
 |a::l,[],_,_,p=>by have:=p.length_eq; simp at this
 |a::l,z::Z,s,o,p=>by
  have s':=List.pairwise_cons.1 s;have o':=List.pairwise_cons.1 o;have e:z=a:=by
   rcases List.mem_cons.1 (p.mem_iff.1 (List.mem_cons_self)) with e|hz
   ·exact e
   ·rcases List.mem_cons.1 (p.mem_iff.2 (List.mem_cons_self (a:=a) (l:=l))) with e|ha
    ·exact e.symm
    ·have h1:=s'.1 z hz;have h2:=o'.1 a ha;rw[h1] at h2; cases h2
  subst e;rw[qI1 l Z s'.2 o'.2 (List.Perm.cons_inv p)]
theorem qJw{l:Es}(hl:l.length<=1000)(h:strictS l):sortedM l=l:=qI1 l _ (qEt h) (qCz l hl) (qBX l)
theorem qOW{l:Es}(h:strictS l)(i:Nat):adjM l i=false:=by
 cases i with
 |zero=>rfl
 |succ j =>
  show(match l[j]?,l[j+1]? with|some q,some p=>decide (q.1=p.1)|_,_=>false)=false;split
  ·rename_i q p hq hp;rw[decide_eq_false];intro e;have:=h j q p hq hp;rw[e,qCp] at this;cases this
  ·rfl
theorem qHK{l:Es}(h:strictS l)(b:Bool):∀ n,twM l b n=b
 |0=>rfl
 |n+1=>by
  show(twM l b n||adjM l n)=b;rw[qOW h,Bool.or_false]; exact qHK h b n
theorem qMk{L:List Tok}{sub:RS->TT×RS}{ok:RS->Prop}{tk:TT->List TW}(k:Int)(l:Es)(hl:l.length<=1000)(hs:strictS l)(K:∀ p∈l,KidOK L sub ok tk p.2){s:RS}{rest:List TW}(h:Pos L s ((4,[123])::(fldW tk l++[(4,[125])]++rest))) :
  recdM sub L k s=(recT k l,advM s ((fldW tk l).length+2))/\recOK sub ok L s:=by
 have ho:opnM L s=advM s 1:=h.must;have h2:Pos L (advM s 1) (fldW tk l++(4,[125])::rest):=by
  have:=h.next
  simpa [qAn] using this
 obtain⟨h3,h4⟩:=qMu l K h2;refine⟨?_,?_⟩
 ·unfold recdM;rw[ho,h3];have hsr:sortedM l=l:=qJw hl hs;show(recT k (sortedM l),_)=_;rw[hsr,qHK hs,qAb]
  congr 1
  show advM s (1+((fldW tk l).length+1))=_;rw[show 1+((fldW tk l).length+1)=(fldW tk l).length+2 by omega]
 ·unfold recOK;rw[ho];exact⟨h4,by rw[h3]; exact hl⟩
theorem qDl{L:List Tok}{s:RS}{k:Int}{x:LB}{w:List TW}(h:Pos L s ((k,x)::w))(hb:k=1\/(k=4/\x=[123])){d:Int}(hd:d<=12):hedM d L s=s:=by
 have hbeg:begM (peekM L s)=true:=by
  unfold begM;rw[h.peek.1,h.peek.2]
  rcases hb with rfl|⟨rfl,rfl⟩ <;> rfl
 unfold hedM;rw[hbeg,Bool.true_and,if_neg (by rw[decide_eq_true_eq]; omega)];rfl
theorem qTP{w:LB}(h:w∉keyL):w≠wordM 1/\w≠wordM 2/\w≠wordM 3/\w≠wordM 4/\w≠wordM 5/\w≠wordM 6/\w≠wordM 8:=by
 unfold keyL at h;simp only[List.mem_cons,List.not_mem_nil,or_false,not_or] at h;exact⟨h.1,h.2.1,h.2.2.1,h.2.2.2.1,h.2.2.2.2.1,h.2.2.2.2.2.1,h.2.2.2.2.2.2⟩
theorem qG9(L:List Tok):∀ (n:Nat) (t:TT),WF n t->∀ (m:Nat),n<=m->∀ (d:Int),d+n<=13->KidOK L (oneF L m d) (okF L m d) (tokN n) t
 |0,t,h,_,_,_,_=>h.elim
 |n+1,t,h,0,hm,_,_=>by omega
 |n+1,t,h,m+1,hm,d,hd=>by
  have ih:=λx hx=>qG9 L n x hx m (by omega) (d+1) (by omega)
  have hd12:d<=12:=by omega
  intro s rest P;show oneP (oneF L m (d+1)) d L s=_/\oneOK (oneF L m (d+1)) (okF L m (d+1)) d L s
  rcases h with ⟨k,hk,rfl⟩|⟨w,hw,hne,rfl⟩|⟨k,x,hk,hx,rfl⟩|⟨k,l,hk,hl,hp,hs,rfl⟩
  ·have e2:tokN (n+1) (leafT k)=[(1,wordM k)]:=by
    rw[qCm];show(if k=9 then _ else if k=7 then _ else if k=8 then _ else _)=_;rw[if_neg (by omega),if_neg (by omega),if_neg (by omega)]; rfl
   rw[e2] at P ⊢;have P:Pos L s ((1,wordM k)::rest):=P;have hh:=qDl P (.inl rfl) hd12;have kw:∀ a:Int,(a=4\/a=5\/a=6\/a=8)->wordM k≠wordM a:=λa ha=>by
    rcases hk with rfl|rfl|rfl <;> rcases ha with rfl|rfl|rfl|rfl <;> decide
   refine⟨?_,?_⟩
   ·unfold oneP;rw[hh,if_neg (λh=>h P.1),P.peek.1,P.peek.2,if_neg (by decide)];unfold wrdT
    rcases hk with rfl|rfl|rfl
    ·rw[if_pos rfl]; rfl
    ·rw[if_neg (by decide),if_pos rfl]; rfl
    ·rw[if_neg (by decide),if_neg (by decide),if_pos rfl]; rfl
   ·intro _;rw[P.peek.1,P.peek.2];refine⟨λe=>(by cases e),λ_=>⟨λe=>absurd e (kw 8 (by omega)),λe=>?_⟩⟩
    rcases e with e|e|e
    ·exact absurd e (kw 4 (by omega))
    ·exact absurd e (kw 5 (by omega))
    ·exact absurd e (kw 6 (by omega))
  ·have P:Pos L s ((1,w)::rest):=P;have hh:=qDl P (.inl rfl) hd12;obtain⟨k1,k2,k3,k4,k5,k6,k8⟩:=qTP hne;refine⟨?_,?_⟩
   ·unfold oneP;rw[hh,if_neg (λh=>h P.1),P.peek.1,P.peek.2,if_neg (by decide)];unfold wrdT;rw[if_neg k1,if_neg k2,if_neg k3,if_neg k8,if_neg k4,if_neg k5,if_neg k6];rfl
   ·intro _;rw[P.peek.1,P.peek.2];refine⟨λe=>(by cases e),λ_=>⟨λe=>absurd e k8,λe=>?_⟩⟩
    rcases e with e|e|e
    ·exact absurd e k4
    ·exact absurd e k5
    ·exact absurd e k6
  ·have e2:tokN (n+1) (.mk k [] .nil (.mk true [x]))=(1,wordM k)::(4,[60])::(tokN n x++[(4,[62])]):=by
    rw[qCm];show(if k=9 then _ else if k=7 then _ else if k=8 then _ else _)=_;rw[if_neg (by omega),if_neg (by omega),if_neg (by omega)]; rfl
   rw[e2] at P ⊢;have P:Pos L s ((1,wordM k)::(4,[60])::(tokN n x++(4,[62])::rest)):=by simpa using P
   have hh:=qDl P (.inl rfl) hd12;have P1:=P.next;have ha:angM L (nextM s)=nextM (nextM s):=P1.must;have P2:=P1.next;obtain⟨h1,h2⟩:=ih x hx _ _ P2;have P3:=P2.adv;have he:engM L (advM (nextM (nextM s)) (tokN n x).length)=nextM (advM (nextM (nextM s)) (tokN n x).length):=P3.must;have kw:∀ a:Int,(a=1\/a=2\/a=3\/a=8)->wordM k≠wordM a:=λa ha=>by
    rcases hk with rfl|rfl|rfl <;> rcases ha with rfl|rfl|rfl|rfl <;> decide
   refine⟨?_,?_⟩
   ·unfold oneP;rw[hh,if_neg (λh=>h P.1),P.peek.1,P.peek.2,if_neg (by decide)];unfold wrdT;rw[if_neg (kw 1 (by omega)),if_neg (kw 2 (by omega)),if_neg (kw 3 (by omega)),if_neg (kw 8 (by omega))];have fin:ofM (oneF L m (d+1)) L k (nextM s)=(.mk k [] .nil (.mk true [x]),advM s ((1,wordM k)::(4,[60])::(tokN n x++[((4:Int),([62]:LB))])).length):=by
     unfold ofM;rw[ha,h1];show(_,engM L (advM (nextM (nextM s)) (tokN n x).length))=_;rw[he,qAn,qAn,qAn,qAb,qAb,qAb]
     congr 2
     simp; omega
    rcases hk with rfl|rfl|rfl
    ·rw[if_pos rfl]; exact fin
    ·rw[if_neg (by decide),if_pos rfl]; exact fin
    ·rw[if_neg (by decide),if_neg (by decide),if_pos rfl]; exact fin
   ·intro _;rw[P.peek.1,P.peek.2,hh];refine⟨λe=>(by cases e),λ_=>⟨λe=>absurd e (kw 8 (by omega)),λ_=>?_⟩⟩;rw[ha]; exact h2
  ·have K:∀ p∈l,KidOK L (oneF L m (d+1)) (okF L m (d+1)) (tokN n) p.2:=λp hpl=>ih p.2 (hp p hpl).2
   rcases hk with rfl|rfl
   ·have e2:tokN (n+1) (recT 7 l)=(4,[123])::(fldW (tokN n) l++[(4,[125])]):=by
     rw[qCm,qKX]; rfl
    rw[e2] at P ⊢;have hh:=qDl P (.inr ⟨rfl,rfl⟩) hd12;obtain⟨h1,h2⟩:=qMk 7 l hl hs K P;refine⟨?_,?_⟩
    ·unfold oneP;rw[hh,if_neg (λh=>h P.1),P.peek.1,if_pos rfl,h1]
     congr 2
     simp
    ·intro _;rw[P.peek.1,hh];exact⟨λ_=>h2,λe=>absurd rfl e⟩
   ·have e2:tokN (n+1) (recT 8 l)=(1,wordM 8)::(4,[123])::(fldW (tokN n) l++[(4,[125])]):=by
     rw[qCm,qKX]; rfl
    rw[e2] at P ⊢;have hh:=qDl P (.inl rfl) hd12;have P1:=P.next;obtain⟨h1,h2⟩:=qMk 8 l hl hs K P1;refine⟨?_,?_⟩
    ·unfold oneP;rw[hh,if_neg (λh=>h P.1),P.peek.1,P.peek.2,if_neg (by decide)];unfold wrdT;rw[if_neg (by decide),if_neg (by decide),if_neg (by decide),if_pos rfl,h1,qAn,qAb]
     congr 2
     simp; omega
    ·intro _;rw[P.peek.1,P.peek.2,hh];refine⟨λe=>(by cases e),λ_=>⟨λ_=>h2,λe=>?_⟩⟩
     rcases e with e|e|e <;> exact absurd e (by decide)
theorem qUc:∀ (n:Nat) (s acc:LB) (i:Nat),s.length<=n->(textGo s acc i).t.kind≠1
 |_,[],acc,i,_=>by show(0:Int)≠1; decide
 |_,[c],acc,i,_=>by
  unfold textGo;split
  ·show(0:Int)≠1; decide
  split
  ·split
   ·show(0:Int)≠1; decide
   ·show(2:Int)≠1; decide
  ·show(0:Int)≠1; decide
 |0,c::d::s,acc,i,h=>by simp at h
 |n+1,c::d::s,acc,i,h=>by
  have h:s.length+2<=n+1:=h;unfold textGo;split
  ·show(0:Int)≠1; decide
  split
  ·split
   ·show(0:Int)≠1; decide
   ·show(2:Int)≠1; decide
  split
  ·split
   ·show(0:Int)≠1; decide
   ·exact qUc n s _ _ (by omega)
  ·exact qUc n (d::s) _ _ (by show s.length+1<=n; omega)
theorem qVV(s:LB)(h:(oneM s).t.kind=1):nameB (oneM s).t.text=true:=by
 cases s with
 |nil=>exact absurd h (by show ¬ (0:Int)=1; decide)
 |cons c r =>
  have e:oneM (c::r)=if isLetter c.toNat=true then wrdM (c::r) else if numHead (c::r)=true then numberM (c::r) else if c.toNat=34 then textM (c::r) else signM (c::r):=rfl
  rw[e] at h ⊢;split at h
  ·rename_i hl;rw[if_pos hl];unfold wrdM at h ⊢;split at h
   ·exact absurd h (by show ¬ (0:Int)=1; decide)
   ·rename_i h16;rw[if_neg h16];show nameB ((c::r).take (runLen isWord (c::r)))=true;have hw:isWord c.toNat=true:=by unfold isWord; rw[hl]; rfl
    have hr:runLen isWord (c::r)=runLen isWord r+1:=by simp[runLen,hw]
    have ha:=qRH isWord (c::r);rw[hr] at ha h16 ⊢;rw[List.take_succ_cons] at ha ⊢;unfold nameB;simp only[Bool.and_eq_true,List.all_eq_true,Nat.ble_eq];refine⟨⟨hl,ha⟩,?_⟩;rw[List.length_cons,List.length_take];omega
  ·split at h
   ·exfalso;unfold numberM at h;split at h
    ·exact absurd h (by show ¬ (0:Int)=1; decide)
    split at h
    ·exact absurd h (by show ¬ (0:Int)=1; decide)
    ·exact absurd h (by show ¬ (3:Int)=1; decide)
   ·split at h
    ·exact absurd h (qUc _ _ _ _ (Nat.le_refl _))
    ·exfalso;unfold signM at h;split at h
     ·exact absurd h (by show ¬ (4:Int)=1; decide)
     split at h
     ·exact absurd h (by show ¬ (4:Int)=1; decide)
     ·dsimp only at h;split at h
      ·exact absurd h (by show ¬ (4:Int)=1; decide)
      ·exact absurd h (by show ¬ (0:Int)=1; decide)
def validL(L:List Tok):Prop:=∀ t∈L,t.kind=1->nameB t.text=true
theorem qVF:∀ (f:Nat) (s:LB) (i:Nat) (acc l:List Tok),validL acc->toksGo f s i acc = .ok l->validL l
 |0,s,i,acc,l,h,e=>by cases e; exact h
 |f+1,s,i,acc,l,h,e=>by
  rw[toksGo] at e;dsimp only at e;split at e
  ·cases e; exact h
  ·rename_i c r hs;split at e
   ·refine qVF f _ _ _ l ?_ e;intro t ht hk
    rcases List.mem_append.1 ht with h1|h1
    ·exact h t h1 hk
    ·rw[List.mem_singleton.1 h1] at hk ⊢;exact qVV _ hk
   ·cases e
theorem qVv(src:LB):validL (wordsM src).1:=by
 unfold wordsM;split
 ·intro t ht; cases ht
 ·rename_i l he;unfold tokensM at he;split at he
  ·cases he
  ·unfold toksFin at he;split at he
   ·cases he
   ·rename_i l2 h2;split at he
    ·cases he
    ·cases he;exact qVF _ _ _ _ _ (λt ht=>by cases ht) h2
def Good(s:RS):Prop:=s.e=0/\s.tw=false
theorem qUT{s:RS}{b:Bool}(h:Good (mustM s b)):b=true/\Good s:=by
 obtain⟨h1,h2⟩:=qHO h.1;rw[h1] at h;exact⟨h1,h⟩
theorem qUX{k:Int}{L:List Tok}{s:RS}{x:LB}(h:Good (takeM k L s x)):Good s:=by
 unfold takeM at h;split at h
 ·exact h
 ·exact h
theorem qXW{L:List Tok}{s:RS}(h:Good (colM L s)):Good s/\(peekM L s).kind=1:=by
 have h1:=qUX (qUT h).2;have h2:Good (mustM s (decide ((peekM L s).kind=1))):=h1;obtain⟨h3,h4⟩:=qUT h2;exact⟨h4,of_decide_eq_true h3⟩
theorem qVE{L:List Tok}(v:validL L){s:RS}(h:(peekM L s).kind=1):nameB (peekM L s).text=true:=by
 obtain⟨h1,h2⟩:=qCo (L:=L) (s:=s) (by rw[h]; decide);unfold peekM at h ⊢;rw[if_pos h1,List.getElem?_eq_getElem h2] at h ⊢;exact v _ (List.getElem_mem h2) h
def SubWF(n:Nat)(sub:RS->TT×RS)(ok:RS->Prop):Prop:=∀ s,ok s->Good (sub s).2->Good s/\WF n (sub s).1
def QE(n:Nat)(p:LB×TT):Prop:=nameB p.1=true/\WF n p.2
theorem qU3{n:Nat}{L:List Tok}{sub:RS->TT×RS}{ok:RS->Prop}(v:validL L)(S:SubWF n sub ok){s:RS}(o:ok (colM L s))(h:Good (fieldM sub L s).2):Good s/\QE n (fieldM sub L s).1:=by
 obtain⟨h1,h2⟩:=S _ o h;obtain⟨h3,h4⟩:=qXW h1;exact⟨h3,qVE v h4,h2⟩
theorem qUl{n:Nat}{L:List Tok}{sub:RS->TT×RS}{ok:RS->Prop}(v:validL L)(S:SubWF n sub ok)(x:LB):∀ (f:Nat) (s:RS) (acc:Es),loopOK sub ok L f s->Good (loopM sub L x f s acc).2->Good s
 |0,s,acc,_,h=>h
 |f+1,s,acc,lo,h=>by
  unfold loopM at h;by_cases hi:isM 4 L s [44]=true
  ·rw[if_pos hi] at h;obtain⟨o1,o2⟩:=lo hi;exact(qU3 v S o1 (qUl v S x f _ _ o2 h)).1
  ·rw[if_neg hi] at h;exact qUX (qUT h).2
theorem qV1{n:Nat}{L:List Tok}{sub:RS->TT×RS}{ok:RS->Prop}(v:validL L)(S:SubWF n sub ok)(x:LB):∀ (f:Nat) (s:RS) (acc:Es),loopOK sub ok L f s->Good (loopM sub L x f s acc).2->(∀ p∈acc,QE n p)->∀ p∈(loopM sub L x f s acc).1,QE n p
 |0,s,acc,_,h,ha=>ha
 |f+1,s,acc,lo,h,ha=>by
  unfold loopM at h ⊢;by_cases hi:isM 4 L s [44]=true
  ·rw[if_pos hi] at h ⊢;obtain⟨o1,o2⟩:=lo hi;have h1:=qUl v S x f _ _ o2 h;have h2:=(qU3 v S o1 h1).2;refine qV1 v S x f _ _ o2 h λp hp=>?_
   rcases List.mem_append.1 hp with h3|h3
   ·exact ha p h3
   ·rw[List.mem_singleton.1 h3]; exact h2
  ·rw[if_neg hi] at h ⊢;exact ha
theorem qX9{n:Nat}{L:List Tok}{sub:RS->TT×RS}{ok:RS->Prop}(v:validL L)(S:SubWF n sub ok)(x:LB){s:RS}(ro:rowOK sub ok L x s)(h:Good (rowM sub L x s).2):Good s/\∀ p∈(rowM sub L x s).1,QE n p:=by
 unfold rowM at h ⊢;cases hx:isM 4 L s x with
 |true =>
  rw[hx,if_pos rfl] at h;rw[if_pos rfl];exact⟨h,λp hp=>by cases hp⟩
 |false =>
  rw[hx,if_neg (by decide)] at h;rw[if_neg (by decide)];obtain⟨o1,o2⟩:=ro hx;have h1:=qUl v S x _ _ _ o2 h;obtain⟨h2,h3⟩:=qU3 v S o1 h1;exact⟨h2,qV1 v S x _ _ _ o2 h λp hp=>by rw[List.mem_singleton.1 hp]; exact h3⟩
theorem qHe:∀ (n:Nat) (l:Es) (b:Bool),twM l b n=false->b=false/\∀ i,i<n->adjM l i=false
 |0,l,b,h=>⟨h,λi hi=>by omega⟩
 |n+1,l,b,h=>by
  have h:(twM l b n||adjM l n)=false:=h;rw[Bool.or_eq_false_iff] at h;obtain⟨h1,h2⟩:=qHe n l b h.1;refine⟨h1,λi hi=>?_⟩;by_cases e:i=n
  ·rw[e]; exact h.2
  ·exact h2 i (by omega)
theorem qN5{l:Es}(h:∀ i,i<l.length->adjM l i=false)(ho:∀ j,j+1<l.length->adjS l j (j+1)):strictS l:=by
 intro i p q hp hq;have hl:i+1<l.length:=(List.getElem?_eq_some_iff.1 hq).1;have h1:=ho i hl p q hp hq;have h2:=h (i+1) hl;have h3:(match l[i]?,l[i+1]? with|some q,some p=>decide (q.1=p.1)|_,_=>false)=false:=h2;rw[hp,hq] at h3;have hne:p.1≠q.1:=of_decide_eq_false h3;cases hb:bless p.1 q.1 with
 |true=>rfl
 |false=>exact absurd (qDS _ _ hb h1) hne
theorem qWi{n:Nat}{L:List Tok}{sub:RS->TT×RS}{ok:RS->Prop}(v:validL L)(S:SubWF n sub ok)(k:Int)(hk:k=7\/k=8){s:RS}(ro:recOK sub ok L s)(h:Good (recdM sub L k s).2):Good s/\WF (n+1) (recdM sub L k s).1:=by
 obtain⟨h1,h2⟩:=qHe _ _ _ h.2;have hg:Good (rowM sub L [125] (opnM L s)).2:=⟨h.1,h1⟩;obtain⟨h3,h4⟩:=qX9 v S [125] ro.1 hg;refine⟨qUX (qUT h3).2,.inr (.inr (.inr ⟨k,sortedM (rowM sub L [125] (opnM L s)).1,hk,?_,λp hp=>h4 p (qWR _ p hp),qN5 h2 (λj hj=>qWv _ ro.2 j (by rw[qGm] at hj; exact hj)),rfl⟩))⟩;rw[qGm];exact ro.2
theorem qWP{n:Nat}{L:List Tok}{sub:RS->TT×RS}{ok:RS->Prop}(S:SubWF n sub ok)(k:Int)(hk:k=4\/k=5\/k=6){s:RS}(o:ok (angM L s))(h:Good (ofM sub L k s).2):Good s/\WF (n+1) (ofM sub L k s).1:=by
 have h1:Good (sub (angM L s)).2:=qUX (qUT h).2;obtain⟨h2,h3⟩:=S _ o h1;exact⟨qUX (qUT h2).2,.inr (.inr (.inl ⟨k,_,hk,h3,rfl⟩))⟩
theorem qYK{n:Nat}{L:List Tok}{sub:RS->TT×RS}{ok:RS->Prop}(v:validL L)(S:SubWF n sub ok)(w:LB)(hw:nameB w=true){s:RS}(o:wrdOK sub ok L w s)(h:Good (wrdT sub L w s).2):Good s/\WF (n+1) (wrdT sub L w s).1:=by
 unfold wrdT at h ⊢;by_cases k1:w=wordM 1
 ·rw[if_pos k1] at h ⊢; exact⟨h,.inl ⟨1,by omega,rfl⟩⟩
 rw[if_neg k1] at h ⊢;by_cases k2:w=wordM 2
 ·rw[if_pos k2] at h ⊢; exact⟨h,.inl ⟨2,by omega,rfl⟩⟩
 rw[if_neg k2] at h ⊢;by_cases k3:w=wordM 3
 ·rw[if_pos k3] at h ⊢; exact⟨h,.inl ⟨3,by omega,rfl⟩⟩
 rw[if_neg k3] at h ⊢;by_cases k8:w=wordM 8
 ·rw[if_pos k8] at h ⊢; exact qWi v S 8 (.inr rfl) (o.1 k8) h
 rw[if_neg k8] at h ⊢;by_cases k4:w=wordM 4
 ·rw[if_pos k4] at h ⊢; exact qWP S 4 (by omega) (o.2 (.inl k4)) h
 rw[if_neg k4] at h ⊢;by_cases k5:w=wordM 5
 ·rw[if_pos k5] at h ⊢; exact qWP S 5 (by omega) (o.2 (.inr (.inl k5))) h
 rw[if_neg k5] at h ⊢;by_cases k6:w=wordM 6
 ·rw[if_pos k6] at h ⊢; exact qWP S 6 (by omega) (o.2 (.inr (.inr k6))) h
 rw[if_neg k6] at h ⊢;refine⟨h,.inr (.inl ⟨w,hw,?_,rfl⟩)⟩;unfold keyL;simp only[List.mem_cons,List.not_mem_nil,or_false,not_or];exact⟨k1,k2,k3,k4,k5,k6,k8⟩
theorem qW4{n:Nat}{L:List Tok}{sub:RS->TT×RS}{ok:RS->Prop}(v:validL L)(S:SubWF n sub ok)(d:Int){s:RS}(o:oneOK sub ok d L s)(h:Good (oneP sub d L s).2):Good s/\WF (n+1) (oneP sub d L s).1/\d<=12:=by
 unfold oneP at h ⊢;by_cases he:(hedM d L s).e=0
 ·obtain⟨h1,h2,h3,h4⟩:=qGq he;obtain⟨o1,o2⟩:=o he;rw[if_neg (λh=>h he)] at h ⊢;rw[h1] at h o1 o2 ⊢;by_cases hk:(peekM L s).kind=4
  ·rw[if_pos hk] at h ⊢;obtain⟨h5,h6⟩:=qWi v S 7 (.inl rfl) (o1 hk) h;exact⟨h5,h6,h4⟩
  ·rw[if_neg hk] at h ⊢;have hk1:(peekM L s).kind=1:=by
    unfold begM at h2;rw[decide_eq_false hk,Bool.false_and,Bool.or_false,decide_eq_true_eq] at h2;exact h2
   obtain⟨h5,h6⟩:=qYK v S _ (qVE v hk1) (o2 hk) h;exact⟨h5,h6,h4⟩
 ·rw[if_pos he] at h;exact absurd h.1 he
theorem qWE{L:List Tok}(v:validL L):∀ (m:Nat) (d:Int),d+m=14->∀ s,okF L m d s->Good (oneF L m d s).2->Good s/\WF (m - 1) (oneF L m d s).1
 |0,d,hd,s,o,h=>o.elim
 |1,d,hd,s,o,h=>by
  have:=(qW4 (n:=0) v (sub:=oneF L 0 (d+1)) (ok:=okF L 0 (d+1)) (λs o _=>o.elim) d o h).2.2;omega
 |m+2,d,hd,s,o,h=>by
  obtain⟨h1,h2,h3⟩:=qW4 (n:=m) v (sub:=oneF L (m+1) (d+1)) (ok:=okF L (m+1) (d+1)) (λs o h=>qWE v (m+1) (d+1) (by omega) s o h) d o h;exact⟨h1,h2⟩
theorem qVS{src:LB}{e:Int}(he:e≠0)(h1:(wordsM src).1=[])(h2:(wordsM src).2=e):typeOK src/\typeE src=e:=by
 have hs:s0M src=⟨0,e,false⟩:=by rw[<- h2]
 have hh:hedM 1 [] ⟨0,e,false⟩=⟨0,e,false⟩:=by
  have hp:peekM [] ⟨0,e,false⟩=Tok.zero:=by unfold peekM; rw[if_neg he]
  unfold hedM;rw[hp];show mustM ⟨0,e,false⟩ false=_;unfold mustM failM;rw[if_neg (by decide),if_neg he]
 refine⟨?_,?_⟩
 ·unfold typeOK;rw[hs,h1];intro h;rw[hh] at h;exact absurd h he
 ·unfold typeE typeR;rw[hs,h1];show errM (endM [] (oneP (oneF [] 12 (1+1)) 1 [] ⟨0,e,false⟩).2)=e;unfold oneP;rw[hh,if_pos he];show errM ⟨0,e,false⟩=e;unfold errM;rw[if_pos he]
theorem qYR{t:TT}(h:WF 12 t):typeOK (txtM t)/\(typeE (txtM t)=4\/typeE (txtM t)=3\/(typeE (txtM t)=0/\typeM (txtM t)=t)):=by
 rcases qXN h with ⟨h1,h2⟩|⟨h1,h2⟩|⟨h1,h2⟩
 ·obtain⟨h3,h4⟩:=qVS (by decide) h2 h1;exact⟨h3,.inl h4⟩
 ·obtain⟨h3,h4⟩:=qVS (by decide) h2 h1;exact⟨h3,.inr (.inl h4)⟩
 ·have P:Pos (wordsM (txtM t)).1 (s0M (txtM t)) (tokN 12 t++[]):=⟨h1,by rw[List.append_nil]; show((wordsM (txtM t)).1.map tw).drop 0=_; rw[List.drop_zero,h2]⟩;obtain⟨h3,h4⟩:=qG9 (wordsM (txtM t)).1 12 t h 13 (by decide) 1 (by decide) _ _ P;have hl:(wordsM (txtM t)).1.length=(tokN 12 t).length:=by rw[<- h2,List.length_map]
  have hE:typeE (txtM t)=0:=by
   unfold typeE typeR;rw[h3];unfold endM;rw[decide_eq_true (show(wordsM (txtM t)).1.length<=(advM (s0M (txtM t)) (tokN 12 t).length).p by show _<=0+(tokN 12 t).length; omega)];unfold mustM errM;rw[if_pos rfl,if_neg (λhh=>hh h1)];rfl
  refine⟨h4,.inr (.inr ⟨hE,?_⟩)⟩;unfold typeM;rw[if_pos hE];unfold typeR;rw[h3]
theorem qXX{L:List Tok}{s:RS}(h:errM (endM L s)=0):Good s:=by
 unfold errM at h;split at h
 ·rename_i he; exact absurd h he
 ·rename_i he;have he:(endM L s).e=0:=Decidable.byContradiction he;have h1:=(qHO he).1;unfold endM at h he;rw[h1] at h he;split at h
  ·cases h
  ·rename_i ht;have ht':¬ s.tw=true:=ht;exact⟨he,by simpa using ht'⟩
theorem qXk{src:LB}(o:typeOK src)(h:typeE src=0):WF 12 (typeM src):=by
 have hg:=qXX h;have:=(qWE (qVv src) 13 1 (by decide) _ o hg).2;unfold typeM;rw[if_pos h];exact this
def wt1(t:Tok):Nat:=if t.kind=1\/(t.kind=4/\(t.text=[44]\/t.text=[58])) then 1 else 0
def wsum(L:List Tok):Nat:=(L.map wt1).sum
theorem qEW(L:List Tok)(i:Nat)(t:Tok)(h:L[i]?=some t):wsum (L.drop i)=wt1 t+wsum (L.drop (i+1)):=by
 obtain⟨h1,h2⟩:=List.getElem?_eq_some_iff.1 h;unfold wsum;rw[List.drop_eq_getElem_cons h1,h2];simp
theorem qKZ(L:List Tok):∀ (k i:Nat),wsum (L.drop (i+k))<=wsum (L.drop i)
 |0,i=>Nat.le_refl _
 |k+1,i=>by
  have ih:=qKZ L k (i+1);rw[show i+1+k=i+(k+1) by omega] at ih;cases ht:L[i]? with
  |some t=>rw[qEW L i t ht]; omega
  |none =>
   have h1:L.length<=i:=List.getElem?_eq_none_iff.1 ht;rw[List.drop_eq_nil_of_le (by omega:L.length<=i+(k+1))];exact Nat.zero_le _
theorem qH5(L:List Tok){i j:Nat}(h:i<=j):wsum (L.drop j)<=wsum (L.drop i):=by
 have:=qKZ L (j - i) i
 rwa [show i+(j - i)=j by omega] at this
theorem qQg{k:Int}{L:List Tok}{s:RS}{x:LB}(hk:k≠0)(h:isM k L s x=true)(hw:∀ t:Tok,t.kind=k->t.text=x->wt1 t=1):wsum (L.drop s.p)=1+wsum (L.drop (s.p+1)):=by
 obtain⟨h1,h2⟩:=qBC hk h;have ht:L[s.p]?=some L[s.p]:=List.getElem?_eq_getElem h2;unfold isM peekM at h;rw[if_pos h1,ht,Option.getD_some,Bool.and_eq_true,decide_eq_true_eq,decide_eq_true_eq] at h;rw[qEW L _ _ ht,hw _ h.1 h.2]
theorem qSf{L:List Tok}{s:RS}(h:(colM L s).e=0):wsum (L.drop (colM L s).p)+2<=wsum (L.drop s.p):=by
 obtain⟨h1,h2⟩:=qHO h;have hc:colM L s=nextM (nmS1 L s):=by
  unfold colM takeM;rw[h1]; rfl
 have h3:(nmS1 L s).e=0:=by
  have:(takeM 4 L (nmS1 L s) [58]).e=0:=h2;unfold takeM at this;rw[h1] at this;exact this
 obtain⟨h4,h5⟩:=qHO (show(mustM s (decide ((peekM L s).kind=1))).e=0 from h3);have hk:=of_decide_eq_true h4;obtain⟨h6,h7⟩:=qCo (L:=L) (s:=s) (by rw[hk]; decide);have ht:L[s.p]?=some L[s.p]:=List.getElem?_eq_getElem h7;unfold peekM at hk;rw[if_pos h6,ht,Option.getD_some] at hk;have w1:=qEW L _ _ ht;have:wt1 L[s.p]=1:=by unfold wt1; rw[if_pos (.inl hk)]
 have w2:=qQg (by decide) h1 (λt a b=>by unfold wt1; rw[if_pos (.inr ⟨a,.inr b⟩)]);rw[qB6] at w2;have hp:(colM L s).p=s.p+2:=by rw[hc]; show(nmS1 L s).p+1=_; rw[qB6]
 rw[hp];show wsum (L.drop (s.p+1+1))+2<=_;omega
def Eb(sub:RS->TT×RS):Prop:=∀ s,(sub s).2.e=0->s.e=0
theorem qSp(sub:RS->TT×RS)(d:Int)(L:List Tok):Eb (oneP sub d L):=by
 intro s h;by_cases he:(hedM d L s).e=0
 ·exact(qGq he).2.2.1
 ·unfold oneP at h;rw[if_pos he] at h;exact absurd h he
theorem qKi(L:List Tok):∀ (m:Nat) (d:Int),Eb (oneF L m d)
 |0,d=>λs h=>h
 |m+1,d=>qSp _ d L
def phi(L:List Tok)(s:RS):Nat:=if s.e=0 then wsum (L.drop s.p)+2 else 0
theorem qJO{L:List Tok}{sub:RS->TT×RS}(inv:Inv L sub)(eb:Eb sub)(x:LB):∀ (f:Nat) (s:RS) (acc:Es),I1 L s->(loopM sub L x f s acc).1.length*3<=acc.length*3+phi L s
 |0,s,acc,h=>by show acc.length*3<=_; omega
 |f+1,s,acc,h=>by
  unfold loopM;by_cases hi:isM 4 L s [44]=true
  ·rw[if_pos hi];obtain⟨h1,h2⟩:=qBC (by decide) hi;have hn:(nextM s).p<=L.length:=h2;obtain⟨h3,h4⟩:=qCN inv hn;have ih:=qJO inv eb x f _ (acc++[(fieldM sub L (nextM s)).1]) h3;have w:=qQg (by decide) hi (λt a b=>by unfold wt1; rw[if_pos (.inr ⟨a,.inl b⟩)]);have hphi:phi L s=wsum (L.drop s.p)+2:=by unfold phi; rw[if_pos h1]
   have hacc:(acc++[(fieldM sub L (nextM s)).1]).length=acc.length+1:=by simp
   rw[hacc] at ih;have:phi L (fieldM sub L (nextM s)).2+3<=phi L s:=by
    unfold phi;rw[if_pos h1];by_cases he:(fieldM sub L (nextM s)).2.e=0
    ·rw[if_pos he];have hc:(colM L (nextM s)).e=0:=eb _ he;have w2:=qSf hc;obtain⟨hi1,_⟩:=qGS hn;have hm:=(inv _ hi1).2;have w3:=qH5 L (show(colM L (nextM s)).p<=(fieldM sub L (nextM s)).2.p from hm);have:(nextM s).p=s.p+1:=rfl;rw[this] at w2;omega
    ·rw[if_neg he]; omega
   omega
  ·rw[if_neg hi];show acc.length*3<=_;omega
theorem row_len{L:List Tok}{sub:RS->TT×RS}(inv:Inv L sub)(eb:Eb sub)(x:LB){s:RS}(h:s.p<=L.length)(hw:wsum L<=2000):(rowM sub L x s).1.length<=1000:=by
 unfold rowM;split
 ·show 0<=1000; decide
 ·obtain⟨h3,h4⟩:=qCN inv h;have:=qJO inv eb x (L.length+2) _ [(fieldM sub L s).1] h3;have hp:phi L (fieldM sub L s).2<=2002:=by
   unfold phi;split
   ·have:=qH5 L (Nat.zero_le (fieldM sub L s).2.p);rw[List.drop_zero] at this;omega
   ·omega
  have:[(fieldM sub L s).1].length=1:=rfl;omega
theorem qIr{L:List Tok}{sub:RS->TT×RS}{ok:RS->Prop}(inv:Inv L sub)(ho:∀ s,I1 L s->ok s):∀ (f:Nat) (s:RS),I1 L s->loopOK sub ok L f s
 |0,_,_=>trivial
 |f+1,s,h=>by
  intro hi;have hn:(nextM s).p<=L.length:=(qBC (by decide) hi).2;exact⟨ho _ (qGS hn).1,qIr inv ho f _ (qCN inv hn).1⟩
theorem qKM{L:List Tok}{sub:RS->TT×RS}{ok:RS->Prop}(hw:wsum L<=2000)(inv:Inv L sub)(eb:Eb sub)(ho:∀ s,I1 L s->ok s){s:RS}(h:s.p<=L.length):recOK sub ok L s :=
 ⟨λ_=>⟨ho _ (qGS (qGw h)).1,qIr inv ho _ _ (qCN inv (qGw h)).1⟩,row_len inv eb [125] (qGw h) hw⟩
theorem qKe{L:List Tok}{sub:RS->TT×RS}{ok:RS->Prop}(hw:wsum L<=2000)(inv:Inv L sub)(eb:Eb sub)(d:Int)(ho:d<=12->∀ s,I1 L s->ok s){s:RS}(h:I1 L s):oneOK sub ok d L s:=by
 intro he;obtain⟨h1,h2,h3,h4⟩:=qGq he;rw[h1];have hp:=h.1 h3;refine⟨λ_=>qKM hw inv eb (ho h4) hp,λhk=>?_⟩;have hk1:(peekM L s).kind=1:=by
  unfold begM at h2;rw[decide_eq_false hk,Bool.false_and,Bool.or_false,decide_eq_true_eq] at h2;exact h2
 have hl:=(qCo (L:=L) (s:=s) (by rw[hk1]; decide)).2;have hn:(nextM s).p<=L.length:=hl;exact⟨λ_=>qKM hw inv eb (ho h4) hn,λ_=>ho h4 _ (qAg [60] ⟨λ_=>hn,by omega⟩).1⟩
theorem qG5{L:List Tok}(hw:wsum L<=2000):∀ (m:Nat) (d:Int),d+m=14->0<m->∀ s,I1 L s->okF L m d s
 |0,_,_,h,_,_=>by omega
 |1,d,hd,_,s,I=>qKe hw (qDF L 0 (d+1)) (qKi L 0 (d+1)) d (λh=>by omega) I
 |m+2,d,hd,_,s,I=>qKe hw (qDF L (m+1) (d+1)) (qKi L (m+1) (d+1)) d (λ_ s I=>qG5 hw (m+1) (d+1) (by omega) (by omega) s I) I
theorem qLY{src:LB}(h:wsum (wordsM src).1<=2000):typeOK src:=qG5 h 13 1 (by decide) (by decide) _ ⟨λ_=>Nat.zero_le _,Nat.zero_le _⟩
theorem qFz:∀ L:List Tok,wsum L<=L.length
 |[]=>Nat.le_refl _
 |t::L=>by
  have:=qFz L;have h1:wt1 t<=1:=by unfold wt1; split <;> omega
  show wt1 t+wsum L<=L.length+1;omega
theorem qGD(src:LB):typeOK src:=qLY (by have:=qFz (wordsM src).1; have:=qE0 src; omega)
theorem s0_I(src:LB):I1 (wordsM src).1 (s0M src):=⟨λ_=>Nat.zero_le _,Nat.zero_le _⟩
theorem qPP(r:LB)(f i:Nat)(acc:List Tok):toksGo (f+1) (45::62::r) i acc=toksGo f r (i+2) (acc++[⟨4,[45,62],0,(i:Int)⟩]):=by
 have ho:oneM (45::62::r)=⟨⟨4,[45,62],0,0⟩,2,0⟩:=by
  have hn:numHead (45::62::r)=false:=rfl;show(if isLetter (45:UInt8).toNat=true then wrdM (45::62::r) else if numHead (45::62::r)=true then numberM (45::62::r) else if (45:UInt8).toNat=34 then textM (45::62::r) else signM (45::62::r))=_;rw[hn,if_neg (by decide),if_neg (by decide),if_neg (by decide)];unfold signM;rw[if_pos (show((45:UInt8)::62::r).take 2=two1 from rfl)];rfl
 have hk:runLen isBlank (45::62::r)=0:=rfl;rw[toksGo];simp only[hk,List.drop_zero];simp only[ho,Nat.add_zero,if_true];rfl
theorem Rd.arr(r:LB):Rd (45::62::r) [(4,[45,62])] r :=
 ⟨by simp; omega,λf i acc=>⟨[⟨4,[45,62],0,(i:Int)⟩],_,rfl,qPP r f i acc⟩⟩
theorem Pos.takek{L:List Tok}{s:RS}{k:Int}{x:LB}{w:List TW}(h:Pos L s ((k,x)::w)):isM k L s x=true/\takeM k L s x=nextM s:=by
 have:isM k L s x=true:=by rw[h.is,decide_eq_true rfl,decide_eq_true rfl]; rfl
 exact⟨this,by unfold takeM; rw[if_pos this]⟩
theorem Pos.mustk{L:List Tok}{s:RS}{k:Int}{x:LB}{w:List TW}(h:Pos L s ((k,x)::w)):mustM (takeM k L s x) (isM k L s x)=nextM s:=by
 rw[h.takek.1,h.takek.2]; rfl
theorem Pos.sep{L:List Tok}{s:RS}{nm y:LB}{w:List TW}(h:Pos L s ((1,nm)::(4,y)::w)):sepM y L s=advM s 2/\(peekM L s).text=nm:=by
 obtain⟨h1,h2⟩:=h.peek;have h3:nmS1 L s=nextM s:=by unfold nmS1; rw[h1]; rfl
 refine⟨?_,h2⟩;unfold sepM;rw[h3,h.next.mustk,qAn,qAn,qAb]
theorem Pos.nil{L:List Tok}{s:RS}(h:Pos L s []):L.length<=s.p:=by
 have:=congrArg List.length h.2;rw[List.length_drop,List.length_map,List.length_nil] at this;omega
theorem qLZ{α:Type}(lt:α->α->Bool):∀ (l Z:List α),(l.Pairwise λp q=>lt p q=true)->Ord lt Z->Z.Perm l->Z=l
 |[],Z,_,_,p=>List.perm_nil.1 p
 |a::l,[],_,_,p=>by have:=p.length_eq; simp at this
 |a::l,z::Z,s,o,p=>by
  have s':=List.pairwise_cons.1 s;have o':=List.pairwise_cons.1 o;have e:z=a:=by
   rcases List.mem_cons.1 (p.mem_iff.1 (List.mem_cons_self)) with e|hz
   ·exact e
   ·rcases List.mem_cons.1 (p.mem_iff.2 (List.mem_cons_self (a:=a) (l:=l))) with e|ha
    ·exact e.symm
    ·have h1:=s'.1 z hz;have h2:=o'.1 a ha;rw[h1] at h2; cases h2
  subst e;rw[qLZ lt l Z s'.2 o'.2 (List.Perm.cons_inv p)]
theorem qIn{Z:Es}(o:Ord ltE Z)(hn:(Z.map (·.1)).Nodup):Z.Pairwise λp q=>ltE p q=true:=by
 rw[List.Nodup,List.pairwise_map] at hn;refine(o.and hn).imp λ{p q} h=>?_
 cases hc:ltE p q
 ·exact absurd (qDS _ _ hc h.1) h.2
 ·rfl
theorem qMg{Z:Es}(h:Z.Pairwise λp q=>ltE p q=true):strictS Z:=λi p q hp hq=>by
 obtain⟨h1,e1⟩:=List.getElem?_eq_some_iff.1 hp;obtain⟨h2,e2⟩:=List.getElem?_eq_some_iff.1 hq;have:=List.pairwise_iff_getElem.1 h i (i+1) h1 h2 (by omega);rw[e1,e2] at this;exact this
theorem qP2{Z:Es}(h:Z.Pairwise λp q=>ltE p q=true):(Z.map (·.1)).Nodup:=by
 rw[List.Nodup,List.pairwise_map];refine h.imp λ{p q} h e=>?_
 unfold ltE at h;rw[e,qCp] at h; cases h
theorem qRY{Z:Es}(o:Ord ltE Z)(j:Nat)(hj:j+1<Z.length):adjS Z j (j+1):=λp q hp hq=>by
 obtain⟨h1,e1⟩:=List.getElem?_eq_some_iff.1 hp;obtain⟨h2,e2⟩:=List.getElem?_eq_some_iff.1 hq;have:=List.pairwise_iff_getElem.1 o j (j+1) h1 h2 (by omega);rw[e1,e2] at this;exact this
theorem qJG{Z es:Es}(o:Ord ltE Z)(p:Z.Perm es):(twM Z false Z.length=false↔(es.map (·.1)).Nodup):=by
 have pm:=(p.map (·.1)).nodup_iff;constructor
 ·intro h;exact pm.1 (qP2 (qEt (qN5 (qHe _ _ _ h).2 (qRY o))))
 ·intro h;exact qHK (qMg (qIn o (pm.2 h))) false _
def vT(t:Tok):Prop:=(t.kind=1->nameB t.text=true)/\(t.kind=4->nameB t.text=false)/\(t.kind=1\/t.kind=2\/t.kind=4\/t.text=[])
theorem qUV:vT Tok.zero:=⟨λh=>(by cases h),λh=>(by cases h),.inr (.inr (.inr rfl))⟩
theorem qUr:∀ (n:Nat) (s acc:LB) (i:Nat),s.length<=n->(textGo s acc i).t.kind=2\/(textGo s acc i).t=Tok.zero
 |_,[],acc,i,_=>.inr rfl
 |_,[c],acc,i,_=>by
  unfold textGo;split
  ·exact .inr rfl
  split
  ·split
   ·exact .inr rfl
   ·exact .inl rfl
  ·exact .inr rfl
 |0,c::d::s,acc,i,h=>by simp at h
 |n+1,c::d::s,acc,i,h=>by
  have h:s.length+2<=n+1:=h;unfold textGo;split
  ·exact .inr rfl
  split
  ·split
   ·exact .inr rfl
   ·exact .inl rfl
  split
  ·split
   ·exact .inr rfl
   ·exact qUr n _ _ _ (by omega)
  ·exact qUr n _ _ _ (by simp; omega)
theorem qXC:∀ n:Nat,isSingle n=true->isLetter n=false:=λn h=>by
 unfold isSingle at h;simp only[Bool.or_eq_true,Nat.beq_eq] at h
 rcases h with (((((((((((h|h)|h)|h)|h)|h)|h)|h)|h)|h)|h)|h)|h <;> subst h <;> rfl
theorem qYC(s:LB):vT (oneM s).t:=by
 refine⟨qVV s,?_⟩;cases s with
 |nil=>exact qUV.2
 |cons c r =>
  have e:oneM (c::r)=if isLetter c.toNat=true then wrdM (c::r) else if numHead (c::r)=true then numberM (c::r) else if c.toNat=34 then textM (c::r) else signM (c::r):=rfl
  rw[e];split
  ·unfold wrdM;split
   ·exact qUV.2
   ·exact⟨λh=>(by cases h),.inl rfl⟩
  split
  ·unfold numberM;split
   ·exact qUV.2
   split
   ·exact qUV.2
   ·exact⟨λh=>(by cases h),.inr (.inr (.inr rfl))⟩
  split
  ·rcases qUr _ ((c::r).drop 1) [] 1 (Nat.le_refl _) with h|h
   ·exact⟨λh4=>(by rw[show(textM (c::r)).t.kind=2 from h] at h4; cases h4),.inr (.inl h)⟩
   ·show((textM (c::r)).t.kind=4->_)/\_;rw[show(textM (c::r)).t=Tok.zero from h];exact qUV.2
  ·unfold signM;split
   ·exact⟨λ_=>by decide,.inr (.inr (.inl rfl))⟩
   split
   ·exact⟨λ_=>by decide,.inr (.inr (.inl rfl))⟩
   ·dsimp only;split
    ·rename_i hs;refine⟨λ_=>?_,.inr (.inr (.inl rfl))⟩;show(isLetter c.toNat&&_&&_)=false;rw[qXC _ hs]; rfl
    ·exact qUV.2
def valL(L:List Tok):Prop:=∀ t∈L,vT t
theorem qVM:∀ (f:Nat) (s:LB) (i:Nat) (acc l:List Tok),valL acc->toksGo f s i acc = .ok l->valL l
 |0,s,i,acc,l,h,e=>by cases e; exact h
 |f+1,s,i,acc,l,h,e=>by
  rw[toksGo] at e;dsimp only at e;split at e
  ·cases e; exact h
  ·rename_i c r hs;split at e
   ·refine qVM f _ _ _ l ?_ e;intro t ht
    rcases List.mem_append.1 ht with h1|h1
    ·exact h t h1
    ·rw[List.mem_singleton.1 h1];exact qYC _
   ·cases e
theorem qWM(src:LB):valL (wordsM src).1:=by
 unfold wordsM;split
 ·intro t ht; cases ht
 ·rename_i l he;unfold tokensM at he;split at he
  ·cases he
  ·unfold toksFin at he;split at he
   ·cases he
   ·rename_i l2 h2;split at he
    ·cases he
    ·cases he;exact qVM _ _ _ _ _ (λt ht=>by cases ht) h2
theorem qXl{L:List Tok}(v:valL L)(s:RS):vT (peekM L s):=by
 by_cases hh:s.e=0/\s.p<L.length
 ·rw[qUe hh.1 (List.getElem?_eq_getElem hh.2)];exact v _ (List.getElem_mem hh.2)
 ·rw[qUK hh]; exact qUV
theorem qUQ{L:List Tok}(v:valL L)(s:RS)(x:LB)(hx:x≠[])(hn:nameB x=false):risM L s x=isM 4 L s x:=by
 obtain⟨v1,v2,v3⟩:=qXl v s;unfold risM isM;generalize peekM L s=t at *;by_cases ht:t.text=x
 ·subst ht;rw[decide_eq_true rfl,Bool.true_and,Bool.and_true]
  rcases v3 with h|h|h|h
  ·rw[v1 h] at hn; cases hn
  ·rw[h]; rfl
  ·rw[h]; rfl
  ·exact absurd h hx
 ·rw[decide_eq_false ht,Bool.false_and,Bool.and_false]
theorem qUZ(L:List Tok)(s:RS)(k:Int)(x:LB)(h:risM L s x=isM k L s x):reatM L s x=mustM (takeM k L s x) (isM k L s x):=by
 unfold reatM mustM takeM;rw[h];cases isM k L s x <;> rfl
def Qc(c:Bool)(s r:RS):Prop:=s.e=r.e/\(s.e=0->s.p=r.p/\r.tw=(s.tw||c))
theorem Qc.peek{c:Bool}{s r:RS}(q:Qc c s r)(L:List Tok):peekM L s=peekM L r:=by
 unfold peekM;rw[<- q.1];by_cases he:s.e=0
 ·rw[if_pos he,if_pos he,(q.2 he).1]
 ·rw[if_neg he,if_neg he]
theorem Qc.is{c:Bool}{s r:RS}(q:Qc c s r)(L:List Tok)(k:Int)(x:LB):isM k L s x=isM k L r x:=by unfold isM; rw[q.peek L]
theorem Qc.ris{c:Bool}{s r:RS}(q:Qc c s r)(L:List Tok)(x:LB):risM L s x=risM L r x:=by unfold risM; rw[q.peek L]
theorem Qc.fail{c:Bool}{s r:RS}(q:Qc c s r)(e:Int)(he:e≠0):Qc c (failM s e) (failM r e):=by
 unfold failM;by_cases h:s.e=0
 ·rw[if_pos h,if_pos (q.1▸h)];exact⟨rfl,λh0=>absurd h0 he⟩
 ·rw[if_neg h,if_neg (q.1▸h)];exact q
theorem Qc.next{c:Bool}{s r:RS}(q:Qc c s r):Qc c (nextM s) (nextM r):=⟨q.1,λh=>⟨by show s.p+1=r.p+1; rw[(q.2 h).1],(q.2 h).2⟩⟩
theorem Qc.reat{c:Bool}{s r:RS}{L:List Tok}(v:valL L)(q:Qc c s r)(x:LB)(hx:x≠[])(hn:nameB x=false):Qc c (mustM (takeM 4 L s x) (isM 4 L s x)) (reatM L r x):=by
 rw[<- qUZ L s 4 x (qUQ v s x hx hn)];unfold reatM;rw[q.ris L x];split
 ·exact q.next
 ·exact q.fail 12 (by decide)
abbrev Str(l:Es):Prop:=l.Pairwise λp q=>ltE p q=true
theorem qX2{a b c:LB×TT}(h1:ltE a b=true)(h2:ltE b c=true):ltE a c=true:=by
 cases h:ltE a c
 ·have:=qAe b c a (qBQ _ _ h2) h;rw[h1] at this; cases this
 ·rfl
theorem qXg{l:Es}{n:LB}(h:dupE l n=true):n∈l.map (·.1):=by
 unfold dupE at h;split at h
 ·rename_i q hq;have:=List.mem_of_getElem? hq;rw[decide_eq_true_eq] at h;exact List.mem_map.2 ⟨q,this,h⟩
 ·cases h
theorem qXo{l:Es}(st:Str l){n:LB}(h:dupE l n=false):n∉l.map (·.1):=by
 intro hm;obtain⟨q,hq,e⟩:=List.mem_map.1 hm;obtain⟨j,hj⟩:=List.mem_iff_getElem?.1 hq;have hjl:=(List.getElem?_eq_some_iff.1 hj).1
 rcases Nat.lt_trichotomy j (leadE n l) with h1|h1|h1
 ·have:=qUg n l j q h1 hj;rw[e,qCp] at this; cases this
 ·unfold dupE at h;rw[<- h1,hj] at h;have h:decide (q.1=n)=false:=h;rw[decide_eq_true e] at h; cases h
 ·obtain⟨p,hp⟩:∃ p,l[leadE n l]?=some p:=⟨l[leadE n l]'(by omega),by simp⟩;have hb:=qUj n l p hp;obtain⟨a1,a2⟩:=List.getElem?_eq_some_iff.1 hp;obtain⟨b1,b2⟩:=List.getElem?_eq_some_iff.1 hj;have:=List.pairwise_iff_getElem.1 st _ _ a1 b1 h1;rw[a2,b2] at this;unfold ltE at this;rw[e,hb] at this; cases this
theorem qXI(l:Es)(p:LB×TT):(insE l p).Perm (l++[p]):=by
 unfold insE;refine List.perm_middle.trans ?_;rw[List.take_append_drop];exact List.perm_append_comm (l₁:=[p]) (l₂:=l)
theorem qXn{l:Es}(st:Str l)(p:LB×TT)(h:dupE l p.1=false):Str (insE l p):=by
 have hs:=st;rw[<- List.take_append_drop (leadE p.1 l) l] at hs;obtain⟨s1,s2,s3⟩:=List.pairwise_append.1 hs;have lo:∀ a∈l.take (leadE p.1 l),ltE a p=true:=λa ha=>by
  obtain⟨i,hi⟩:=List.mem_iff_getElem?.1 ha;have hlt:i<leadE p.1 l:=by
   have:=(List.getElem?_eq_some_iff.1 hi).1;rw[List.length_take] at this; omega
  rw[List.getElem?_take_of_lt hlt] at hi;exact qUg p.1 l i a hlt hi
 have hi:∀ b∈l.drop (leadE p.1 l),ltE p b=true:=λb hb=>by
  cases hd:l.drop (leadE p.1 l) with
  |nil=>rw[hd] at hb; cases hb
  |cons q r =>
   have hq:l[leadE p.1 l]?=some q:=by
    have:(l.drop (leadE p.1 l))[0]?=some q:=by rw[hd]; rfl
    rwa [List.getElem?_drop,Nat.add_zero] at this
   have h1:=qUj p.1 l q hq;have h2:q.1≠p.1:=λe=>by
    unfold dupE at h;rw[hq] at h;have h:decide (q.1=p.1)=false:=h;rw[decide_eq_true e] at h; cases h
   have hpq:ltE p q=true:=by
    cases hc:ltE p q
    ·exact absurd (qDS _ _ hc h1).symm h2
    ·rfl
   rw[hd] at hb s2
   rcases List.mem_cons.1 hb with rfl|hb
   ·exact hpq
   ·exact qX2 hpq ((List.pairwise_cons.1 s2).1 b hb)
 unfold insE;refine List.pairwise_append.2 ⟨s1,List.pairwise_cons.2 ⟨hi,s2⟩,λa ha b hb=>?_⟩
 rcases List.mem_cons.1 hb with rfl|hb
 ·exact lo a ha
 ·exact s3 a ha b hb
def dupB(l:Es):Bool := !decide (l.map (·.1)).Nodup
theorem qWm{l acc:Es}(hp:l.Perm acc)(st:Str l)(hd:dupB acc=false)(p q:LB×TT)(hq:q.1=p.1):dupB (acc++[q])=dupE l p.1:=by
 have nd:(acc.map (·.1)).Nodup:=by unfold dupB at hd; simpa using hd
 unfold dupB;rw[List.map_append,List.map_singleton,hq];cases h:dupE l p.1 with
 |true =>
  have hm:p.1∈acc.map (·.1):=(hp.map (·.1)).mem_iff.1 (qXg h)
  rw[decide_eq_false (λhn=>by
   rw[List.nodup_append] at hn
   exact hn.2.2 p.1 hm p.1 (by simp) rfl)]
  rfl
 |false =>
  have hm:p.1∉acc.map (·.1):=λhh=>qXo st h ((hp.map (·.1)).mem_iff.2 hh)
  rw[decide_eq_true (by
   rw[List.nodup_append]
   exact⟨nd,by simp,λa ha b hb e=>hm (by rw[List.mem_singleton.1 hb] at e; rw[<- e]; exact ha)⟩)]
  rfl
theorem qWw{acc:Es}(h:dupB acc=true)(q:LB×TT):dupB (acc++[q])=true:=by
 unfold dupB at h ⊢;cases hd:decide ((acc++[q]).map (·.1)).Nodup with
 |false=>rfl
 |true =>
  rw[decide_eq_true_eq,List.map_append,List.nodup_append] at hd;rw[decide_eq_true hd.1] at h; cases h
structure SubQ (L:List Tok) (sub rsub:RS->TT×RS):Prop where
 alike:∀ c s r,I1 L s->Qc c s r->Qc c (sub s).2 (rsub r).2/\((sub s).2.e=0->(rsub r).2.tw=false->(sub s).1=(rsub r).1)
 mono:∀ r,r.tw=true->(rsub r).2.tw=true
 eb:∀ r,(rsub r).2.e=0->r.e=0
 keep:∀ s,s.e≠0->(sub s).2.e=s.e
theorem qUR(L:List Tok)(s:RS)(x:LB):(reatM L s x).tw=s.tw:=by
 unfold reatM;split
 ·rfl
 ·exact qUa s 12
theorem qUt{L:List Tok}{s:RS}{x:LB}(h:(reatM L s x).e=0):s.e=0:=by
 unfold reatM at h;split at h
 ·exact h
 ·exact(qUU (by decide) h).elim
theorem qVl(L:List Tok)(s:RS):(rnmM L s).2.tw=s.tw:=by
 unfold rnmM;split
 ·rfl
 ·exact qUa s 12
theorem qWp{sub rsub:RS->TT×RS}{L:List Tok}(v:valL L)(Q:SubQ L sub rsub){c:Bool}{s r:RS}(hp:s.p<=L.length)(q:Qc c s r) :
  Qc c (fieldM sub L s).2 (rent rsub L r).2/\((fieldM sub L s).2.e=0->(fieldM sub L s).1.1=(rent rsub L r).1.1/\((rent rsub L r).2.tw=false->(fieldM sub L s).1=(rent rsub L r).1/\r.tw=false)):=by
 have hc:Qc c (colM L s) (reatM L (rnmM L r).2 [58])/\((colM L s).e=0->(peekM L s).text=(rnmM L r).1):=by
  have hn:Qc c (nmS1 L s) (rnmM L r).2/\((nmS1 L s).e=0->(peekM L s).text=(rnmM L r).1):=by
   unfold nmS1 rnmM;rw[q.peek L];by_cases hk:(peekM L r).kind=1
   ·rw[if_pos hk,decide_eq_true hk];exact⟨q.next,λ_=>rfl⟩
   ·rw[if_neg hk,decide_eq_false hk];have hf:=q.fail 12 (by decide);have he:(failM s 12).e≠0:=λh=>qUU (by decide) h
    exact⟨⟨hf.1,λh=>absurd h he⟩,λh=>absurd h he⟩
  refine⟨hn.1.reat v [58] (by decide) rfl,λh=>hn.2 ?_⟩;have:(mustM (takeM 4 L (nmS1 L s) [58]) (isM 4 L (nmS1 L s) [58])).e=0:=h;rw[<- qUZ L (nmS1 L s) 4 [58] (qUQ v _ _ (by decide) rfl)] at this;exact qUt this
 obtain⟨a,b⟩:=Q.alike c _ _ (qGS hp).1 hc.1;refine⟨a,λhe=>?_⟩;have her:(rsub (reatM L (rnmM L r).2 [58])).2.e=0:=by rw[<- a.1]; exact he
 have he2:(colM L s).e=0:=by rw[hc.1.1]; exact Q.eb _ her
 refine⟨hc.2 he2,λht=>⟨Prod.ext (hc.2 he2) (b he ht),?_⟩⟩;cases hr:r.tw with
 |false=>rfl
 |true =>
  have:=Q.mono (reatM L (rnmM L r).2 [58]) (by rw[qUR,qVl]; exact hr);rw[show(rsub (reatM L (rnmM L r).2 [58])).2.tw=false from ht] at this; cases this
def InvR(c:Bool)(s:RS)(acc:Es)(r:RS)(l:Es):Prop:=Qc (c||dupB acc) s r/\(s.e=0->r.tw=false->l.Perm acc/\Str l)
theorem qVQ{sub rsub:RS->TT×RS}{L:List Tok}(v:valL L)(Q:SubQ L sub rsub){c:Bool}{s r:RS}{acc l:Es}(hp:s.p<=L.length)(I:InvR c s acc r l) :
  InvR c (fieldM sub L s).2 (acc++[(fieldM sub L s).1]) (rtwM l (rent rsub L r).1.1 (rent rsub L r).2) (insE l (rent rsub L r).1):=by
 obtain⟨q,hI⟩:=I;obtain⟨a,b⟩:=qWp v Q hp q;generalize fieldM sub L s=F at *;generalize hG:rent rsub L r=G at *;have eb:F.2.e=0->s.e=0:=λh=>by
  rw[q.1];have h2:G.2.e=0:=by rw[<- a.1]; exact h
  rw[<- hG] at h2;have h3:=qUt (Q.eb _ h2);unfold rnmM at h3;split at h3
  ·exact h3
  ·exact(qUU (by decide) h3).elim
 by_cases he:F.2.e=0
 ·obtain⟨b1,b2⟩:=b he;obtain⟨a1,a2⟩:=a.2 he;have key:(G.2.tw||dupE l G.1.1)=(F.2.tw||(c||dupB (acc++[F.1])))/\((G.2.tw||dupE l G.1.1)=false->(insE l G.1).Perm (acc++[F.1])/\Str (insE l G.1)):=by
   cases hg:G.2.tw with
   |true =>
    refine⟨?_,λh=>by cases h⟩;rw[hg] at a2;cases hf:F.2.tw with
    |true=>rfl
    |false =>
     cases hc:c with
     |true=>rfl
     |false =>
      have:dupB acc=true:=by rw[hf,hc] at a2; simpa using a2.symm
      rw[qWw this]; rfl
   |false =>
    obtain⟨b3,b4⟩:=b2 hg;obtain⟨h1,h2⟩:=hI (eb he) b4;rw[hg] at a2;have hf:F.2.tw=false/\c=false/\dupB acc=false:=by
     revert a2;cases F.2.tw <;> cases c <;> cases dupB acc <;> simp
    have hd:=qWm h1 h2 hf.2.2 G.1 F.1 b1;rw[hf.1,hf.2.1,hd];refine⟨rfl,λh=>?_⟩;rw[Bool.false_or] at h;refine⟨?_,qXn h2 G.1 h⟩;rw[b3];exact(qXI l G.1).trans (h1.append_right _)
  exact⟨⟨a.1,λ_=>⟨a1,key.1⟩⟩,λ_=>key.2⟩
 ·exact⟨⟨a.1,λh=>absurd h he⟩,λh=>absurd h he⟩
def rtail(rsub:RS->TT×RS)(L:List Tok)(f:Nat)(r:RS)(l:Es):Es×RS:=if risM L r [44]=true then rloop rsub L f (reatM L r [44]) l else (l,r)
theorem qVD(rsub:RS->TT×RS)(L:List Tok)(f:Nat)(r:RS)(l:Es)(h:rgo L r l=true):rloop rsub L (f+1) r l=rtail rsub L f (rtwM l (rent rsub L r).1.1 (rent rsub L r).2) (insE l (rent rsub L r).1):=by
 conv=>lhs; unfold rloop
 rw[if_pos h];rfl
theorem qWr(l:Es)(p:LB×TT):(insE l p).isEmpty=false:=by unfold insE; cases l.take (leadE p.1 l) <;> rfl
theorem qVB{sub rsub:RS->TT×RS}{L:List Tok}(v:valL L)(Q:SubQ L sub rsub)(inv:Inv L sub){c:Bool}:∀ (f g:Nat) (s r:RS) (acc l:Es),InvR c s acc r l->l.isEmpty=false->I1 L s->(s.e=0->L.length+1 - s.p<f)->(s.e=0->L.length+1 - s.p<g) ->
  InvR c (loopM sub L [125] f s acc).2 (loopM sub L [125] f s acc).1 (reatM L (rtail rsub L g r l).2 [125]) (rtail rsub L g r l).1
 |0,g,s,r,acc,l,A,hl,I,hf,hg=>by
  have he:s.e≠0:=λh=>by have:=hf h; omega
  obtain⟨q,hI⟩:=A;unfold loopM rtail;have hr:risM L r [44]=false:=by
   cases hh:risM L r [44] with
   |false=>rfl
   |true=>exact absurd (q.1▸(qUN (by decide) hh).1) he
  rw[hr,if_neg (by decide)];have h2:reatM L r [125]=failM r 12:=by
   unfold reatM;rw[if_neg (λhh=>he (by rw[q.1]; exact(qUN (by decide) hh).1))]
  have h3:failM r 12=r:=by unfold failM; rw[if_neg (λh=>he (by rw[q.1]; exact h))]
  show InvR c s acc (reatM L r [125]) l;rw[h2,h3];exact⟨q,hI⟩
 |f+1,g,s,r,acc,l,A,hl,I,hf,hg=>by
  obtain⟨q,hI⟩:=A;have e1:isM 4 L s [44]=risM L r [44]:=by rw[<- qUQ v s [44] (by decide) rfl,q.ris L]
  unfold loopM;cases h:isM 4 L s [44] with
  |false =>
   rw[h] at e1;unfold rtail;rw[<- e1,if_neg (by decide),if_neg (by decide)];have q2:=q.reat v [125] (by decide) rfl;refine⟨q2,λhe ht=>hI ?_ (by rw[qUR] at ht; exact ht)⟩;have he:(mustM (takeM 4 L s [125]) (isM 4 L s [125])).e=0:=he;rw[<- qUZ L s 4 [125] (qUQ v _ _ (by decide) rfl)] at he;exact qUt he
  |true =>
   rw[h] at e1;obtain⟨g1,g2⟩:=qUN (by decide) e1.symm;have se:s.e=0:=by rw[q.1]; exact g1
   have hp:=(q.2 se).1;cases g with
   |zero=>have:=hg se; omega
   |succ g =>
    rw[if_pos rfl];unfold rtail;rw[<- e1,if_pos rfl];have rn:reatM L r [44]=nextM r:=by unfold reatM; rw[<- e1]; rfl
    rw[rn];have go:rgo L (nextM r) l=true:=by
     unfold rgo;rw[hl,Bool.false_and,decide_eq_true (show(nextM r).e=0 from g1)]; rfl
    rw[qVD rsub L g (nextM r) l go];have A':InvR c (nextM s) acc (nextM r) l:=⟨q.next,λhe ht=>hI se ht⟩;have hn:(nextM s).p<=L.length:=(qBC (by decide) h).2;have A2:=qVQ v Q hn A';obtain⟨I2,p2⟩:=qCN inv hn;have p3:s.p+1<=(fieldM sub L (nextM s)).2.p:=p2;exact qVB v Q inv f g _ _ _ _ A2 (qWr _ _) I2 (λ_=>by have:=hf se; omega) (λ_=>by have:=hg se; omega)
theorem qVX{L:List Tok}{s:RS}(hs:s.e≠0)(k:Int)(hk:k≠0)(x:LB):isM k L s x=false:=by
 unfold isM;rw[qUK (λhh=>hs hh.1),decide_eq_false (λh:Tok.zero.kind=k=>hk h.symm)]; rfl
theorem qV6{L:List Tok}{s:RS}(hs:s.e≠0)(x:LB):(mustM (takeM 4 L s x) (isM 4 L s x)).e=s.e:=by
 unfold takeM;rw[qVX hs 4 (by decide) x,if_neg (by decide)];unfold mustM failM;rw[if_neg (by decide),if_neg hs]
theorem qUu{sub rsub:RS->TT×RS}{L:List Tok}(Q:SubQ L sub rsub){s:RS}(hs:s.e≠0):(fieldM sub L s).2.e=s.e:=by
 have n2:(nmS1 L s).e=s.e:=by
  unfold nmS1;rw[qUK (λhh=>hs hh.1)];show(mustM s false).e=s.e;unfold mustM failM;rw[if_neg (by decide),if_neg hs]
 have hc:(colM L s).e=s.e:=by
  unfold colM;rw[qV6 (by rw[n2]; exact hs),n2]
 show(sub (colM L s)).2.e=s.e;rw[Q.keep _ (by rw[hc]; exact hs),hc]
theorem qVa{sub:RS->TT×RS}{L:List Tok}:∀ (f:Nat) (s:RS) (acc:Es),s.e≠0->(loopM sub L [125] f s acc).2.e=s.e
 |0,s,acc,hs=>rfl
 |f+1,s,acc,hs=>by
  unfold loopM;rw[qVX hs 4 (by decide) [44],if_neg (by decide)];exact qV6 hs [125]
theorem qV7{sub rsub:RS->TT×RS}{L:List Tok}(Q:SubQ L sub rsub){s:RS}(hs:s.e≠0):(rowM sub L [125] s).2.e=s.e:=by
 unfold rowM;rw[qVX hs 4 (by decide) [125],if_neg (by decide),qVa _ _ _ (by rw[qUu Q hs]; exact hs),qUu Q hs]
theorem qXd(l:Es)(b:Bool):∀ n,twM l b n=(b||twM l false n)
 |0=>by show b=(b||false); rw[Bool.or_false]
 |n+1=>by
  show(twM l b n||adjM l n)=(b||(twM l false n||adjM l n));rw[qXd l b n,Bool.or_assoc]
theorem qYB(acc:Es)(hl:acc.length<=1000)(b:Bool):twM (sortedM acc) b (sortedM acc).length=(b||dupB acc):=by
 rw[qXd]
 congr 1
 have tf:=qJG (qCz acc hl) (qBX acc);unfold dupB;by_cases h:(acc.map (·.1)).Nodup
 ·rw[tf.2 h,decide_eq_true h]; rfl
 ·rw[decide_eq_false h];cases hc:twM (sortedM acc) false (sortedM acc).length with
  |true=>rfl
  |false=>exact absurd (tf.1 hc) h
theorem qVR{sub rsub:RS->TT×RS}{L:List Tok}(hL:L.length<=400)(v:valL L)(Q:SubQ L sub rsub)(inv:Inv L sub)(eb:Eb sub)(kd:Int){c:Bool}{s r:RS}(I:I1 L s)(q:Qc c s r) :
  Qc c (recdM sub L kd s).2 (rrecM rsub L kd r).2/\((recdM sub L kd s).2.e=0->(rrecM rsub L kd r).2.tw=false->(recdM sub L kd s).1=(rrecM rsub L kd r).1):=by
 have q0:Qc c (opnM L s) (reatM L r [123]):=q.reat v [123] (by decide) rfl;have I0:I1 L (opnM L s):=(qAg [123] I).1
 -- the rows
 have R:InvR c (rowM sub L [125] (opnM L s)).2 (rowM sub L [125] (opnM L s)).1 (reatM L (rloop rsub L (L.length+2) (reatM L r [123]) []).2 [125]) (rloop rsub L (L.length+2) (reatM L r [123]) []).1:=by
  generalize opnM L s=s1 at *;generalize reatM L r [123]=r1 at *;have nil:InvR c s1 [] r1 []:=⟨by rw[show(c||dupB [])=c by cases c <;> rfl]; exact q0,λ_ _=>⟨.refl _,List.Pairwise.nil⟩⟩;have e1:isM 4 L s1 [125]=risM L r1 [125]:=by rw[<- qUQ v s1 [125] (by decide) rfl,q0.ris L]
  unfold rowM;cases h:isM 4 L s1 [125] with
  |true =>
   rw[h] at e1;obtain⟨g1,g2⟩:=qUN (by decide) e1.symm;have go:rgo L r1 []=false:=by
    unfold rgo;rw[<- e1];show(decide (r1.e=0) && !(true&&true))=false;rw[Bool.and_comm]; rfl
   have hl:rloop rsub L (L.length+2) r1 []=([],r1):=by
    show rloop rsub L (L.length+1+1) r1 []=_;unfold rloop;rw[go,if_neg (by decide)]
   have rn:reatM L r1 [125]=nextM r1:=by unfold reatM; rw[<- e1]; rfl
   rw[hl,if_pos rfl];show InvR c (nextM s1) [] (reatM L r1 [125]) [];rw[rn];exact⟨nil.1.next,λ_ _=>⟨.refl _,List.Pairwise.nil⟩⟩
  |false =>
   rw[h] at e1;rw[if_neg (by decide)];by_cases he:s1.e=0
   ·have go:rgo L r1 []=true:=by
     unfold rgo;rw[<- e1,decide_eq_true (by rw[<- q0.1]; exact he)]; rfl
    have A2:=qVQ v Q (I0.1 he) nil;obtain⟨I2,p2⟩:=qCN inv (I0.1 he)
    have:=qVB v Q inv (L.length+2) (L.length+1) _ _ _ _ A2 (qWr _ _) I2 (λ_=>by omega) (λhe2=>by
     have h3:s1.p+1<=(fieldM sub L s1).2.p:=by
      have h4:=(qGS (L:=L) (s:=s1) (I0.1 he)).2;have h5:=(inv _ (qGS (L:=L) (s:=s1) (I0.1 he)).1).2;exact Nat.le_trans h4 h5
     omega)
    rw[show rloop rsub L (L.length+2) r1 []=rtail rsub L (L.length+1) _ _ from qVD rsub L (L.length+1) r1 [] go];exact this
   ·have go:rgo L r1 []=false:=by
     unfold rgo;rw[decide_eq_false (by rw[<- q0.1]; exact he)]; rfl
    have hl:rloop rsub L (L.length+2) r1 []=([],r1):=by
     show rloop rsub L (L.length+1+1) r1 []=_;unfold rloop;rw[go,if_neg (by decide)]
    rw[hl];have h2:reatM L r1 [125]=r1:=by
     unfold reatM;rw[if_neg (λhh=>he (by rw[q0.1]; exact(qUN (by decide) hh).1))];unfold failM;rw[if_neg (λhh=>he (by rw[q0.1]; exact hh))]
    show InvR c (loopM sub L [125] (L.length+2) (fieldM sub L s1).2 [(fieldM sub L s1).1]).2 _ (reatM L r1 [125]) [];rw[h2];have he3:(loopM sub L [125] (L.length+2) (fieldM sub L s1).2 [(fieldM sub L s1).1]).2.e=s1.e:=by
     rw[qVa _ _ _ (by rw[qUu Q he]; exact he),qUu Q he]
    exact⟨⟨by rw[he3]; exact q0.1,λh=>absurd h (by rw[he3]; exact he)⟩,λh=>absurd h (by rw[he3]; exact he)⟩
 have hb:=λh=>qV7 (L:=L) Q (s:=opnM L s) h
 have hl:(opnM L s).e=0->(rowM sub L [125] (opnM L s)).1.length<=1000:=λh=>row_len inv eb [125] (I0.1 h) (by have:=qFz L; omega)
 unfold recdM rrecM;generalize rowM sub L [125] (opnM L s)=P at *;generalize rloop rsub L (L.length+2) (reatM L r [123]) []=T at *;generalize reatM L T.2 [125]=r2 at *;obtain⟨qR,hR⟩:=R;have e0:P.2.e=0->(opnM L s).e=0:=λh=>Decidable.byContradiction λhh=>hh (by rw[<- hb hh]; exact h)
 refine⟨⟨qR.1,λhe=>⟨(qR.2 he).1,?_⟩⟩,λhe ht=>?_⟩
 ·rw[(qR.2 he).2];show(P.2.tw||(c||dupB P.1))=(twM (sortedM P.1) P.2.tw (sortedM P.1).length||c);rw[qYB P.1 (hl (e0 he)),Bool.or_assoc,Bool.or_comm c]
 ·obtain⟨h1,h2⟩:=hR he ht;show recT kd (sortedM P.1)=recT kd T.1;rw[qLZ ltE T.1 (sortedM P.1) h2 (qCz _ (hl (e0 he))) ((qBX _).trans h1.symm)]
def RelT(c:Bool)(a b:TT×RS):Prop:=Qc c a.2 b.2/\(a.2.e=0->b.2.tw=false->a.1=b.1)
theorem qU1{sub rsub:RS->TT×RS}{L:List Tok}(v:valL L)(Q:SubQ L sub rsub)(k:Int){c:Bool}{s r:RS}(I:I1 L s)(q:Qc c s r):RelT c (ofM sub L k s) (rofM rsub L k r):=by
 have q1:Qc c (angM L s) (reatM L r [60]):=q.reat v [60] (by decide) rfl;obtain⟨a,b⟩:=Q.alike c (angM L s) _ (qAg [60] I).1 q1;have q2:Qc c (engM L (sub (angM L s)).2) (reatM L (rsub (reatM L r [60])).2 [62]):=a.reat v [62] (by decide) rfl;refine⟨q2,λhe ht=>?_⟩;have he:(mustM (takeM 4 L (sub (angM L s)).2 [62]) (isM 4 L (sub (angM L s)).2 [62])).e=0:=he;rw[<- qUZ L _ 4 [62] (qUQ v _ _ (by decide) rfl)] at he;have ht:(reatM L (rsub (reatM L r [60])).2 [62]).tw=false:=ht;rw[qUR] at ht;show TT.mk k [] .nil (.mk true [(sub (angM L s)).1])=TT.mk k [] .nil (.mk true [(rsub (reatM L r [60])).1]);rw[b (qUt he) ht]
theorem qW2{sub rsub:RS->TT×RS}{L:List Tok}(hL:L.length<=400)(v:valL L)(Q:SubQ L sub rsub)(inv:Inv L sub)(eb:Eb sub)(w:LB){c:Bool}{s r:RS}(I:I1 L s)(q:Qc c s r):RelT c (wrdT sub L w s) (rwrdT rsub L w r):=by
 have same:∀ t:TT,RelT c (t,s) (t,r):=λt=>⟨q,λ_ _=>rfl⟩
 unfold wrdT rwrdT;by_cases w1:w=wordM 1
 ·rw[if_pos w1,if_pos w1]; exact same _
 rw[if_neg w1,if_neg w1];by_cases w2:w=wordM 2
 ·rw[if_pos w2,if_pos w2]; exact same _
 rw[if_neg w2,if_neg w2];by_cases w3:w=wordM 3
 ·rw[if_pos w3,if_pos w3]; exact same _
 rw[if_neg w3,if_neg w3];by_cases w8:w=wordM 8
 ·subst w8;rw[if_pos rfl,if_neg (by decide),if_neg (by decide),if_neg (by decide),if_pos rfl];cases hr:risM L r [123] with
  |true =>
   rw[if_pos rfl];exact qVR hL v Q inv eb 8 I q
  |false =>
   rw[if_neg (by decide)];have h1:opnM L s=failM s 12:=by
    unfold opnM;rw[<- qUZ L s 4 [123] (qUQ v _ _ (by decide) rfl)];unfold reatM;rw[q.ris L,hr]; rfl
   have h2:(recdM sub L 8 s).2.e=(failM s 12).e:=by
    show(rowM sub L [125] (opnM L s)).2.e=_;rw[qV7 Q (by rw[h1]; exact λh=>qUU (by decide) h),h1]
   have h3:=q.fail 12 (by decide);have h4:(failM s 12).e≠0:=λh=>qUU (by decide) h
   exact⟨⟨by rw[h2]; exact h3.1,λh=>absurd h (by rw[h2]; exact h4)⟩,λh=>absurd h (by rw[h2]; exact h4)⟩
 rw[if_neg w8];by_cases w4:w=wordM 4
 ·rw[if_pos w4,if_pos w4]; exact qU1 v Q 4 I q
 rw[if_neg w4,if_neg w4];by_cases w5:w=wordM 5
 ·rw[if_pos w5,if_pos w5]; exact qU1 v Q 5 I q
 rw[if_neg w5,if_neg w5];by_cases w6:w=wordM 6
 ·rw[if_pos w6,if_pos w6]; exact qU1 v Q 6 I q
 rw[if_neg w6,if_neg w6,if_neg w8];exact same _
theorem qUO{s:RS}(h:s.e≠0)(e:Int):failM s e=s:=by unfold failM; rw[if_neg h]
theorem qX0{d:Int}{L:List Tok}{s:RS}(hs:s.e≠0):hedM d L s=s:=by
 unfold hedM;rw[qUK (λhh=>hs hh.1)];show(if (false&&_)=true then _ else mustM s false)=s;rw[Bool.false_and,if_neg (by decide)];unfold mustM;rw[if_neg (by decide),qUO hs]
theorem qU0{sub:RS->TT×RS}{d:Int}{L:List Tok}{s:RS}(hs:s.e≠0):oneP sub d L s=(zeroT,s):=by
 unfold oneP;rw[qX0 hs,if_pos hs]
theorem qVU{sub:RS->TT×RS}{d:Int}{L:List Tok}{s:RS}(hs:s.e≠0):rtypP sub d L s=(zeroT,s):=by
 unfold rtypP;have hr:risM L s [123]=false:=by
  cases h:risM L s [123] with
  |false=>rfl
  |true=>exact absurd (qUN (by decide) h).1 hs
 rw[qUK (λhh=>hs hh.1),if_pos ⟨by decide,hr⟩,qUO hs]
theorem qWn{sub rsub:RS->TT×RS}{L:List Tok}(hL:L.length<=400)(v:valL L)(Q:SubQ L sub rsub)(inv:Inv L sub)(eb:Eb sub)(d:Int){c:Bool}{s r:RS}(I:I1 L s)(q:Qc c s r):RelT c (oneP sub d L s) (rtypP rsub d L r):=by
 by_cases hs:s.e=0
 ·have hr:risM L r [123]=isM 4 L s [123]:=by rw[<- q.ris L,qUQ v s [123] (by decide) rfl]
  have bad:∀ e:Int,e≠0->RelT c (zeroT,failM s e) (zeroT,failM r e):=λe he=>⟨q.fail e he,λ_ _=>rfl⟩
  unfold oneP rtypP;rw[hr,<- q.peek L];cases hb:begM (peekM L s) with
  |false =>
   have h1:(peekM L s).kind≠1/\isM 4 L s [123]=false:=by
    unfold begM at hb;rw[Bool.or_eq_false_iff,decide_eq_false_iff_not] at hb;exact hb
   have hh:hedM d L s=failM s 12:=by unfold hedM; rw[hb,Bool.false_and]; rfl
   rw[if_pos h1,hh];rw[if_pos (λh=>qUU (by decide) h)];exact bad 12 (by decide)
  |true =>
   have h1:¬ ((peekM L s).kind≠1/\isM 4 L s [123]=false):=λh=>by
    have h2:begM (peekM L s)=false:=by
     unfold begM;rw[decide_eq_false h.1,Bool.false_or];exact h.2
    rw[hb] at h2; cases h2
   rw[if_neg h1];by_cases hd:12<d
   ·have hh:hedM d L s=failM s 13:=by unfold hedM; rw[hb,Bool.true_and,decide_eq_true hd]; rfl
    rw[if_pos hd,hh];rw[if_pos (λh=>qUU (by decide) h)];exact bad 13 (by decide)
   ·have hh:hedM d L s=s:=by unfold hedM; rw[hb,Bool.true_and,decide_eq_false hd]; rfl
    rw[if_neg hd,hh,if_neg (λh=>h hs)];by_cases hk:(peekM L s).kind=4
    ·have ht:isM 4 L s [123]=true:=by
      unfold begM at hb;rw[decide_eq_false (by rw[hk]; decide),Bool.false_or] at hb;exact hb
     rw[if_pos hk,ht,if_pos rfl];exact qVR hL v Q inv eb 7 I q
    ·have h4:isM 4 L s [123]=false:=by unfold isM; rw[decide_eq_false hk]; rfl
     have hk1:(peekM L s).kind=1:=by
      unfold begM at hb;rw[decide_eq_false hk,Bool.false_and,Bool.or_false,decide_eq_true_eq] at hb;exact hb
     have hl:=(qCo (L:=L) (s:=s) (by rw[hk1]; decide)).2;rw[if_neg hk,h4,if_neg (by decide)];have rn:rnmM L r=((peekM L s).text,nextM r):=by rw[qW5 (by rw[<- q.peek L]; exact hk1),q.peek L]
     rw[rn];exact qW2 hL v Q inv eb _ ⟨λ_=>by show s.p+1<=_; omega,by show s.p+1<=_; omega⟩ q.next
 ·rw[qU0 hs,qVU (by rw[<- q.1]; exact hs)];exact⟨q,λ_ _=>rfl⟩
theorem qXx{rsub:RS->TT×RS}{L:List Tok}(mono:∀ r,r.tw=true->(rsub r).2.tw=true){s:RS}(h:s.tw=true):(rent rsub L s).2.tw=true:=mono _ (by rw[qUR,qVl]; exact h)
theorem qVb{rsub:RS->TT×RS}{L:List Tok}(mono:∀ r,r.tw=true->(rsub r).2.tw=true):∀ (f:Nat) (s:RS) (l:Es),s.tw=true->(rloop rsub L f s l).2.tw=true
 |0,s,l,h=>h
 |f+1,s,l,h=>by
  have h1:(rtwM l (rent rsub L s).1.1 (rent rsub L s).2).tw=true:=by
   show((rent rsub L s).2.tw||_)=true;rw[qXx mono h]; rfl
  unfold rloop;split
  ·split
   ·exact qVb mono f _ _ (by rw[qUR]; exact h1)
   ·exact h1
  ·exact h
theorem qWD{rsub:RS->TT×RS}{L:List Tok}(mono:∀ r,r.tw=true->(rsub r).2.tw=true)(kd:Int){s:RS}(h:s.tw=true):(rrecM rsub L kd s).2.tw=true:=by
 show(reatM L (rloop rsub L (L.length+2) (reatM L s [123]) []).2 [125]).tw=true;rw[qUR];exact qVb mono _ _ _ (by rw[qUR]; exact h)
theorem qYI{rsub:RS->TT×RS}{L:List Tok}(mono:∀ r,r.tw=true->(rsub r).2.tw=true)(kd:Int){s:RS}(h:s.tw=true):(rofM rsub L kd s).2.tw=true:=by
 show(reatM L (rsub (reatM L s [60])).2 [62]).tw=true;rw[qUR];exact mono _ (by rw[qUR]; exact h)
theorem qXz{rsub:RS->TT×RS}{L:List Tok}(mono:∀ r,r.tw=true->(rsub r).2.tw=true)(d:Int)(s:RS)(h:s.tw=true):(rtypP rsub d L s).2.tw=true:=by
 unfold rtypP;split
 ·show(failM s 12).tw=true; rw[qUa]; exact h
 split
 ·show(failM s 13).tw=true; rw[qUa]; exact h
 split
 ·exact qWD mono 7 h
 ·have h2:(rnmM L s).2.tw=true:=by rw[qVl]; exact h
  unfold rwrdT
  repeat' split
  all_goals first
   |exact h2
   |exact qYI mono _ h2
   |exact qWD mono _ h2
   |(show(failM (rnmM L s).2 12).tw=true; rw[qUa]; exact h2)
theorem qVO{L:List Tok}(hL:L.length<=400)(v:valL L):∀ (n:Nat) (d:Int),SubQ L (oneF L n d) (rtypF L n d)
 |0,d=>⟨λc s r _ q=>⟨q,λ_ _=>rfl⟩,λr h=>h,λr h=>h,λs _=>rfl⟩
 |n+1,d=>by
  have Q:=qVO hL v n (d+1);refine⟨λc s r I q=>qWn hL v Q (qDF L n (d+1)) (qKi L n (d+1)) d I q,λr h=>qXz Q.mono d r h,λr h=>?_,λs hs=>?_⟩
  ·refine Decidable.byContradiction λhr=>hr ?_
   have:rtypF L (n+1) d r=(zeroT,r):=qVU hr;rw[this] at h;exact h
  ·have:oneF L (n+1) d s=(zeroT,s):=qU0 hs;rw[this]
theorem qWX(src:LB):typeE src=rtypeE src/\typeM src=rtypeM src:=by
 have hl:=qE0 src;have v:=qWM src;have hE:typeE src=rtypeE src/\(typeE src=0->(typeR src).1=(rtypeR src).1):=by
  by_cases h0:(wordsM src).2=0
  ·have Q:=qVO hl v 13 1;have q0:Qc false (s0M src) ⟨0,0,false⟩:=⟨h0,λ_=>⟨rfl,rfl⟩⟩;obtain⟨q,hq⟩:=Q.alike false (s0M src) ⟨0,0,false⟩ (s0_I src) q0;change Qc false (typeR src).2 (rtypeR src).2 at q;change (typeR src).2.e=0->(rtypeR src).2.tw=false->(typeR src).1=(rtypeR src).1 at hq;unfold typeE rtypeE;rw[if_pos h0];generalize typeR src=a at *;generalize rtypeR src=b at *;generalize (wordsM src).1=L at *;unfold endM rdnM;by_cases he:a.2.e=0
   ·obtain⟨p1,p2⟩:=q.2 he;rw[Bool.or_false] at p2;have be:b.2.e=0:=by rw[<- q.1]; exact he
    by_cases hp:L.length<=a.2.p
    ·rw[decide_eq_true hp,if_neg (show ¬ b.2.p<L.length by omega),p2];unfold mustM;rw[if_pos rfl];unfold errM;rw[if_neg (λh=>h he)];cases ht:a.2.tw with
     |true =>
      refine⟨?_,λh=>by cases h⟩;show(6:Int)=(failM b.2 6).e;unfold failM;rw[if_pos be]
     |false =>
      rw[ht] at p2;exact⟨be.symm,λ_=>hq he p2⟩
    ·rw[decide_eq_false hp,if_pos (show b.2.p<L.length by omega)];have f1:(failM a.2 12).e=12:=by unfold failM; rw[if_pos he]
     have f2:(failM b.2 12).e=12:=by unfold failM; rw[if_pos be]
     have g1:errM (mustM a.2 false)=12:=by
      have e:mustM a.2 false=failM a.2 12:=rfl;rw[e];unfold errM;rw[if_pos (by rw[f1]; decide),f1]
     refine⟨?_,λh=>by rw[g1] at h; cases h⟩;rw[g1];split
     ·rw[qUO (by rw[f2]; decide),f2]
     ·exact f2.symm
   ·have be:b.2.e≠0:=by rw[<- q.1]; exact he
    have g1:errM (mustM a.2 (decide (L.length<=a.2.p)))=a.2.e:=by
     have:mustM a.2 (decide (L.length<=a.2.p))=a.2:=by
      unfold mustM;split
      ·rfl
      ·exact qUO he 12
     rw[this];unfold errM;rw[if_pos he]
    rw[g1];refine⟨?_,λh=>absurd h he⟩;have h2:(if b.2.p<L.length then failM b.2 12 else b.2)=b.2:=by
     split
     ·exact qUO be 12
     ·rfl
    rw[h2];split
    ·rw[qUO be]; exact q.1
    ·exact q.1
  ·have hs:(s0M src).e≠0:=h0;have h1:typeR src=(zeroT,s0M src):=qU0 hs;have h2:typeE src=(wordsM src).2:=by
    unfold typeE;rw[h1];unfold endM;have:mustM (s0M src) (decide ((wordsM src).1.length<=(s0M src).p))=s0M src:=by
     unfold mustM;split
     ·rfl
     ·exact qUO hs 12
    rw[this];unfold errM;rw[if_pos hs]
   refine⟨?_,λh=>absurd (h2▸h) h0⟩;rw[h2];unfold rtypeE;rw[if_neg h0]
 refine⟨hE.1,?_⟩;unfold typeM rtypeM;rw[<- hE.1];by_cases h:typeE src=0
 ·rw[if_pos h,if_pos h,hE.2 h]
 ·rw[if_neg h,if_neg h]
open Go Go.AI
def nmS:List (LB):=[[97],[98],[99],[110,97,109,101],[110],[73,110,116],[116,121,112,101],[117]]
def WT:Nat->TT->Prop
 |0,_=>False
 |n+1,t=>t.name.length<=3/\(((t.kind=1\/t.kind=2\/t.kind=3)/\t.name=[]/\t.names.list=[]/\t.kids.list=[])\/(t.kind=9/\(t.name=[65]\/t.name=[66,101,101])/\t.names.list=[]/\t.kids.list=[]) \/
   ((t.kind=4\/t.kind=5\/t.kind=6)/\t.name=[]/\t.names.list=[]/\∃ x,t.kids.list=[x]/\WT n x) \/
   ((t.kind=7\/t.kind=8)/\t.name=[]/\t.names.list.length=t.kids.list.length/\t.names.list.length<=4/\(∀ m∈t.names.list,m∈nmS)/\∀ x∈t.kids.list,WT n x))
open Go Go.AI
def nsA:List (LB):=[[65],[66,101,101]]
theorem qXZ(n:Int):nameM n∈nmS:=by
 have h:=List.mem_of_getElem? (qJX n);have:(nameL.all λx=>nmS.contains x)=true:=by decide +kernel
 have:=List.all_eq_true.1 this _ h
 simpa using this
theorem qYF(r:RW)(i:Nat):nmM r i∈nmS:=by
 unfold nmM;split
 ·exact qXZ _
 ·decide +kernel
structure RecI (n:Nat) (k:Int) (i:Nat) (t:TT):Prop where
 kd:t.kind=k
 nm:t.name=[]
 eq:t.names.list.length=t.kids.list.length
 le:t.names.list.length<=i
 ns:∀ m∈t.names.list,m∈nmS
 ks:∀ x∈t.kids.list,WT n x
theorem RecI.put{n:Nat}{k:Int}{i:Nat}{t x:TT}{key:LB}(H:RecI n k i t)(hx:WT n x)(hk:key∈nmS):RecI n k (i+1) (putM t key x):=by
 obtain⟨h1,h2,h3,h4,h5,h6⟩:=H;unfold putM;split
 ·exact⟨h1,h2,h3,by omega,h5,h6⟩
 ·have hm:=qJe key t.names.list;generalize leadM key t.names.list=m at hm;have e1:(t.names.list.take m++[key]++t.names.list.drop m).length=t.names.list.length+1:=by simp; omega
  have e2:(t.kids.list.take m++[x]++t.kids.list.drop m).length=t.kids.list.length+1:=by simp; omega
  refine⟨h1,h2,?_,?_,?_,?_⟩
  ·show(t.names.list.take m++[key]++t.names.list.drop m).length=(t.kids.list.take m++[x]++t.kids.list.drop m).length;omega
  ·show(t.names.list.take m++[key]++t.names.list.drop m).length<=i+1;omega
  ·intro y hy;have hy:y∈t.names.list.take m++[key]++t.names.list.drop m:=hy;simp only[List.mem_append,List.mem_singleton] at hy
   rcases hy with (hy|rfl)|hy
   ·exact h5 y (List.mem_of_mem_take hy)
   ·exact hk
   ·exact h5 y (List.mem_of_mem_drop hy)
  ·intro y hy;have hy:y∈t.kids.list.take m++[x]++t.kids.list.drop m:=hy;simp only[List.mem_append,List.mem_singleton] at hy
   rcases hy with (hy|rfl)|hy
   ·exact h6 y (List.mem_of_mem_take hy)
   ·exact hx
   ·exact h6 y (List.mem_of_mem_drop hy)
theorem qUv(r:RW)(d:Int):1<=kindT r d/\kindT r d<=9/\(d<=1->¬ (4<=kindT r d/\kindT r d<=8)):=by
 have:=qUy r.kind;unfold kindT;split <;> omega
theorem qVG:∀ (n:Nat) (t:TT),WF n t->WF (n+1) t
 |0,t,h=>h.elim
 |n+1,t,h=>by
  rcases h with h|h|⟨k,x,hk,hx,rfl⟩|⟨k,l,hk,hl,hp,hs,rfl⟩
  ·exact .inl h
  ·exact .inr (.inl h)
  ·exact .inr (.inr (.inl ⟨k,x,hk,qVG n x hx,rfl⟩))
  ·exact .inr (.inr (.inr ⟨k,l,hk,hl,λp hpl=>⟨(hp p hpl).1,qVG n _ (hp p hpl).2⟩,hs,rfl⟩))
theorem qV8(key:LB):∀ (l:List (LB)) (i:Nat) (a:LB),i<leadM key l->l[i]?=some a->bless a key=true
 |[],i,a,h,_=>by simp[leadM] at h
 |b::l,i,a,h,e=>by
  unfold leadM at h;split at h
  ·rename_i hb;cases i with
   |zero=>cases e; exact hb
   |succ i=>exact qV8 key l i a (by omega) (by simpa using e)
  ·omega
theorem qWI(key:LB):∀ (l:List (LB)) (a:LB),l[leadM key l]?=some a->bless a key=false
 |[],a,e=>by simp[leadM] at e
 |b::l,a,e=>by
  unfold leadM at e;split at e
  ·exact qWI key l a (by simpa using e)
  ·rename_i hb;cases e;exact Bool.eq_false_iff.2 hb
theorem qX3{α:Type}(l:List α)(j:Nat)(hj:j<=l.length)(p:α)(i:Nat):(l.take j++[p]++l.drop j)[i]?=if i<j then l[i]? else if i=j then some p else l[i - 1]?:=by
 have ht:(l.take j).length=j:=by rw[List.length_take]; omega
 rw[List.append_assoc];by_cases h1:i<j
 ·rw[if_pos h1,List.getElem?_append_left (by omega),List.getElem?_take,if_pos h1]
 ·rw[if_neg h1,List.getElem?_append_right (by omega),ht];by_cases h2:i=j
  ·rw[if_pos h2,h2,Nat.sub_self]; rfl
  ·rw[if_neg h2];obtain⟨m,hm⟩:∃ m,i - j=m+1:=⟨i - j - 1,by omega⟩;rw[hm];show(l.drop j)[m]?=_;rw[List.getElem?_drop]
   congr 1; omega
theorem qXh{Q:LB×TT->Prop}(k:Int)(l:Es)(hs:strictS l)(hq:∀ p∈l,Q p)(key:LB)(x:TT)(hk:Q (key,x)):∃ l',putM (recT k l) key x=recT k l'/\strictS l'/\(∀ p∈l',Q p)/\l'.length<=l.length+1:=by
 have hn:(recT k l).names.list=l.map (·.1):=qB3 _;have hkd:(recT k l).kids.list=l.map (·.2):=qB3 _;unfold putM;rw[hn,hkd];generalize hj:leadM key (l.map (·.1))=j;have hjl:j<=l.length:=by have:=qJe key (l.map (·.1)); rw[hj,List.length_map] at this; exact this
 split
 ·exact⟨l,rfl,hs,hq,by omega⟩
 ·rename_i hne;refine⟨l.take j++[(key,x)]++l.drop j,?_,?_,?_,?_⟩
  ·have g:∀ {α:Type}(a b:List α)(p:α),grown (a++[p]++b) = .mk false (a++[p]++b):=λa b p=>by
    cases a <;> rfl
   unfold recT;rw[List.map_append,List.map_append,List.map_append,List.map_append,List.map_cons,List.map_nil,List.map_cons,List.map_nil,g,g,List.map_take,List.map_drop,List.map_take,List.map_drop];rfl
  ·intro i p q hp hq';rw[qX3 l j hjl] at hp hq';by_cases h1:i+1<j
   ·rw[if_pos (by omega)] at hp;rw[if_pos h1] at hq';exact hs i p q hp hq'
   ·by_cases h2:i+1=j
    ·rw[if_pos (by omega)] at hp;rw[if_neg (by omega),if_pos h2] at hq';cases hq';refine qV8 key (l.map (·.1)) i p.1 (by rw[hj]; omega) ?_;rw[List.getElem?_map,hp]; rfl
    ·by_cases h3:i=j
     ·rw[if_neg (by omega),if_pos h3] at hp;rw[if_neg (by omega),if_neg (by omega),show i+1 - 1=i by omega] at hq';cases hp;have ha:(l.map (·.1))[leadM key (l.map (·.1))]?=some q.1:=by rw[hj,List.getElem?_map,<- h3,hq']; rfl
      have h4:=qWI key _ _ ha;rw[hj] at ha;rw[ha] at hne;cases hb:bless key q.1 with
      |true=>rfl
      |false=>exact absurd (congrArg some (qDS _ _ h4 hb)) hne
     ·rw[if_neg (by omega),if_neg h3] at hp;rw[if_neg (by omega),if_neg (by omega),show i+1 - 1=i - 1+1 by omega] at hq';exact hs (i - 1) p q hp hq'
  ·intro p hp
   rcases List.mem_append.1 hp with h1|h1
   ·rcases List.mem_append.1 h1 with h2|h2
    ·exact hq p (List.mem_of_mem_take h2)
    ·rw[List.mem_singleton.1 h2]; exact hk
   ·exact hq p (List.mem_of_mem_drop h1)
  ·simp; omega
theorem qXS:∀ w∈nmS,nameB w=true:=by decide
theorem qVK{Q:LB×TT->Prop}(k:Int)(r:RW)(sub:RW->TT)(hsub:∀ w x,nameB w=true->Q (w,sub x)):∀ (c i:Nat) (l:Es),strictS l->(∀ p∈l,Q p)->∃ l',recM r sub c i (recT k l)=recT k l'/\strictS l'/\(∀ p∈l',Q p)/\l'.length<=l.length+c
 |0,i,l,hs,hq=>⟨l,rfl,hs,hq,by omega⟩
 |c+1,i,l,hs,hq=>by
  obtain⟨l1,h1,h2,h3,h4⟩:=qXh k l hs hq (nmM r i) (sub (kidM r i)) (hsub _ _ (qXS _ (qYF r i)));obtain⟨l2,h5,h6,h7,h8⟩:=qVK k r sub hsub c (i+1) l1 h2 h3;refine⟨l2,?_,h6,h7,by omega⟩;rw[recM,h1,h5]
abbrev nsB:List (LB):=[[65]]
theorem qXO(n:Nat)(k:Int)(r:RW)(sub:RW->TT)(hk:1<=k/\k<=9)(hs:4<=k->k<=8->∀ x,WF n (sub x)):WF (n+1) (treeK nsB k r sub):=by
 unfold treeK;split
 ·rename_i h9;have:(nsB.getD (withinM r.n (nsB.length:Int)).toNat [])=[65]:=by
   have hb:=qCy r.n 1 (by decide);have:withinM r.n (nsB.length:Int)=0:=by show withinM r.n 1=0; omega
   rw[this]; rfl
  rw[this];exact .inr (.inl ⟨[65],by decide,by decide,rfl⟩)
 split
 ·rename_i h9 h456;split
  ·rename_i h6;exact qVG n _ (hs (by omega) (by omega) _)
  ·exact .inr (.inr (.inl ⟨k,_,h456,hs (by omega) (by omega) _,rfl⟩))
 split
 ·rename_i h9 h456 h78;have hc:cntM r k<=4:=by
   unfold cntM;split
   ·split <;> omega
   ·omega
  obtain⟨l,h1,h2,h3,h4⟩:=qVK (Q:=QE n) k r sub (λw x hw=>⟨hw,hs (by omega) (by omega) x⟩) (cntM r k) 0 [] (λi p q hp _=>by simp at hp) (λp hp=>by cases hp);have h1':recM r sub (cntM r k) 0 (.mk k [] .nil .nil)=recT k l:=h1;rw[h1'];have h4':l.length<=0+cntM r k:=h4;exact .inr (.inr (.inr ⟨k,l,h78,by omega,h3,h2,rfl⟩))
 ·rename_i h9 h456 h78;exact .inl ⟨k,by omega,rfl⟩
theorem Rd.of{p r:LB}{k:Int}{x:LB}{n:Int}(c:UInt8)(q:LB)(hp:p=c::q)(hc:isBlank c.toNat=false)(ho:oneM (p++32::r)=⟨⟨k,x,n,0⟩,(p.length:Nat),0⟩):Rd (p++32::r) [(k,x)] (32::r):=by
 subst hp;refine⟨by simp; omega,λf i acc=>⟨[⟨k,x,n,(i:Int)⟩],i+(c::q).length,rfl,?_⟩⟩;have hk:runLen isBlank (c::(q++32::r))=0:=by simp[runLen,hc]
 rw[List.cons_append] at ho ⊢;show toksGo (f+1) _ _ _=_;rw[toksGo];simp only[hk,List.drop_zero];simp only[ho,Nat.add_zero,if_true,Int.toNat_natCast];rw[show(c::(q++32::r))=(c::q)++32::r from rfl,List.drop_left'];rfl
def sumE(f:TT->Nat)(l:Es):Nat:=(l.map λp=>f p.2).sum
def muN:Nat->TT->Nat
 |0,_=>0
 |n+1,t=>if t.kind=7\/t.kind=8 then 3*t.kids.list.length+(t.kids.list.map (muN n)).sum else match t.kids.list with
  |[]=>1
  |x::_=>1+muN n x
theorem qUn{n:Nat}(k:Int)(hk:k=7\/k=8)(l:Es):muN (n+1) (recT k l)=3*l.length+sumE (muN n) l:=by
 have e:(recT k l).kids.list=l.map (·.2):=qB3 _;show(if k=7\/k=8 then 3*(recT k l).kids.list.length+((recT k l).kids.list.map (muN n)).sum else _)=_;rw[if_pos hk,e,List.length_map,List.map_map];rfl
section
variable {n:Nat} {L:List Tok} {sub:RS->TT×RS} {ok:RS->Prop}
end
theorem qUm(f:TT->Nat):∀ l:Es,(∀ p∈l,p.1.length<=16/\(txtM p.2).length<=20*f p.2+8)->(fldTx l).length<=28*l.length+20*sumE f l
 |[],_=>Nat.zero_le _
 |[p],h=>by
  have:=h p (List.mem_cons_self ..);simp[fldTx,sumE]; omega
 |p::q::l,h=>by
  have h1:=h p (List.mem_cons_self ..);have h2:=qUm f (q::l) (λx hx=>h x (List.mem_cons_of_mem _ hx));simp only[fldTx,sumE,List.map_cons,List.sum_cons,List.length_append,List.length_cons] at h2 ⊢;omega
theorem qUk{w:LB}(h:nameB w=true):w.length<=16:=by
 cases w with
 |nil=>exact Nat.zero_le _
 |cons c q =>
  unfold nameB at h;simp only[Bool.and_eq_true,Nat.ble_eq] at h;exact h.2
theorem qVr(k:Int):(wordM k).length<=5:=by
 unfold wordM
 repeat' split
 all_goals decide
theorem qUd:∀ (n:Nat) (t:TT),WF n t->(txtM t).length<=20*muN n t+8
 |0,t,h=>h.elim
 |n+1,t,h=>by
  rcases h with ⟨k,hk,rfl⟩|⟨w,hw,_,rfl⟩|⟨k,x,hk,hx,rfl⟩|⟨k,l,hk,hl,hp,_,rfl⟩
  ·have e1:txtM (leafT k)=wordM k:=by
    rw[qUL];show(if k=9 then _ else if k=7 then _ else if k=8 then _ else wordM k++angL [])=_;rw[if_neg (by omega),if_neg (by omega),if_neg (by omega)];simp[angL]
   rw[e1];have:=qVr k;omega
  ·have:=qUk hw;have e:muN (n+1) (.mk 9 w .nil .nil)=1:=rfl;show w.length<=_;omega
  ·have e1:txtM (.mk k [] .nil (.mk true [x]))=wordM k++60::(txtM x++[62]):=by
    rw[qUL];show(if k=9 then _ else if k=7 then _ else if k=8 then _ else wordM k++angL [x])=_;rw[if_neg (by omega),if_neg (by omega),if_neg (by omega)];simp[angL]
   have h6:muN (n+1) (.mk k [] .nil (.mk true [x]))=1+muN n x:=by
    show(if k=7\/k=8 then _ else 1+muN n x)=_;rw[if_neg (by omega)]
   have:=qUd n x hx;have:=qVr k;rw[e1,h6];simp; omega
  ·have hf:=qUm (muN n) l (λp hpl=>⟨qUk (hp p hpl).1,qUd n p.2 (hp p hpl).2⟩);rw[qUn k hk];have hb:(brM (recT k l)).length=(fldTx l).length+2:=by rw[qVW]; simp
   rcases hk with rfl|rfl
   ·have e1:txtM (recT 7 l)=brM (recT 7 l):=by rw[qUL]; rfl
    rw[e1,hb]; omega
   ·have e1:txtM (recT 8 l)=[85,110,105,111,110,32]++brM (recT 8 l):=by rw[qUL]; rfl
    rw[e1,List.length_append,hb];show 6+_<=_;omega
theorem qVH:∀ (n:Nat) (t:TT),WF n t->muN (n+1) t=muN n t
 |0,t,h=>h.elim
 |n+1,t,h=>by
  rcases h with ⟨k,hk,rfl⟩|⟨w,hw,_,rfl⟩|⟨k,x,hk,hx,rfl⟩|⟨k,l,hk,hl,hp,_,rfl⟩
  ·rfl
  ·rfl
  ·have ih:=qVH n x hx;show(if k=7\/k=8 then _ else 1+muN (n+1) x)=(if k=7\/k=8 then _ else 1+muN n x);rw[if_neg (by omega),if_neg (by omega),ih]
  ·rw[qUn k hk,qUn k hk]
   congr 1
   have:∀ l:Es,(∀ p∈l,nameB p.1=true/\WF n p.2)->sumE (muN (n+1)) l=sumE (muN n) l:=by
    intro l
    induction l with
    |nil=>intro _; rfl
    |cons p l ih =>
     intro h;have h1:=qVH n p.2 (h p (List.mem_cons_self ..)).2;have h2:=ih (λx hx=>h x (List.mem_cons_of_mem _ hx));simp only[sumE,List.map_cons,List.sum_cons] at h2 ⊢;rw[h1,h2]
   exact this l hp
theorem qV3{f:TT->Nat}{B:Nat}:∀ l:Es,(∀ p∈l,f p.2<=B)->sumE f l<=l.length*B
 |[],_=>by simp[sumE]
 |p::l,h=>by
  have h1:=h p (List.mem_cons_self ..);have h2:=qV3 l (λx hx=>h x (List.mem_cons_of_mem _ hx));simp only[sumE,List.map_cons,List.sum_cons,List.length_cons,Nat.succ_mul] at h2 ⊢;omega
theorem qXL(n B:Nat)(k:Int)(r:RW)(sub:RW->TT)(hk:1<=k/\k<=9)(hs:4<=k->k<=8->∀ x,WF n (sub x)/\muN n (sub x)<=B):muN (n+1) (treeK nsB k r sub)<=12+4*B:=by
 have lf:∀ (k:Int) (nm:LB),muN (n+1) (.mk k nm .nil .nil)<=1:=λk nm=>by
  show(if k=7\/k=8 then 3*0+0 else 1)<=1;split <;> omega
 unfold treeK;split
 ·have:=lf 9 (nsB.getD (withinM r.n (nsB.length:Int)).toNat []);rename_i h9;rw[h9] at *;omega
 split
 ·rename_i h9 h456;have hx:=hs (by omega) (by omega) (kidM r 0);split
  ·rw[qVH _ _ hx.1]; omega
  ·have h6:muN (n+1) (.mk k [] .nil (.mk true [sub (kidM r 0)]))=1+muN n (sub (kidM r 0)):=by
    show(if k=7\/k=8 then _ else 1+muN n (sub (kidM r 0)))=_;rw[if_neg (by omega)]
   omega
 split
 ·rename_i h9 h456 h78;have hc:cntM r k<=4:=by
   unfold cntM;split
   ·split <;> omega
   ·omega
  obtain⟨l,h1,h2,h3,h4⟩:=qVK (Q:=λp=>muN n p.2<=B) k r sub (λw x hw=>(hs (by omega) (by omega) x).2) (cntM r k) 0 [] (λi p q hp _=>by simp at hp) (λp hp=>by cases hp);have h1':recM r sub (cntM r k) 0 (.mk k [] .nil .nil)=recT k l:=h1;have h4':l.length<=0+cntM r k:=h4;rw[h1',qUn k h78];have h5:=qV3 l h3;have h6:l.length*B<=4*B:=Nat.mul_le_mul_right _ (by omega);omega
 ·have:=lf k [];omega
theorem qU5:∀ (n:Nat) (t:TT),WF n t->smT t
 |0,t,h=>h.elim
 |n+1,t,h=>by
  rw[qGM]
  rcases h with ⟨k,hk,rfl⟩|⟨w,hw,_,rfl⟩|⟨k,x,hk,hx,rfl⟩|⟨k,l,hk,hl,hp,_,rfl⟩
  ·exact⟨Nat.zero_le _,Nat.zero_le _,λx hx=>by cases hx⟩
  ·exact⟨Nat.zero_le _,Nat.zero_le _,λx hx=>by cases hx⟩
  ·exact⟨Nat.zero_le _,by show 1<=1000; decide,λy hy=>by
    have:y∈[x]:=hy
    rw[List.mem_singleton.1 this]; exact qU5 n x hx⟩
  ·have e1:(recT k l).names.list=l.map (·.1):=qB3 _;have e2:(recT k l).kids.list=l.map (·.2):=qB3 _;refine⟨by show(recT k l).names.list.length<=_; rw[e1,List.length_map]; omega,by show(recT k l).kids.list.length<=_; rw[e2,List.length_map]; omega,λy hy=>?_⟩;rw[e2] at hy;obtain⟨p,hpl,rfl⟩:=List.mem_map.1 hy;exact qU5 n p.2 (hp p hpl).2
theorem qWJ{f:TT->Nat}:∀ (l:Es) (p:LB×TT),p∈l->f p.2<=sumE f l
 |[],p,h=>by cases h
 |q::l,p,h=>by
  simp only[sumE,List.map_cons,List.sum_cons]
  rcases List.mem_cons.1 h with rfl|h
  ·omega
  ·have:=qWJ (f:=f) l p h;have:f p.2<=sumE f l:=this;simp only[sumE] at this;omega
theorem qW8(f:TT->Nat):∀ l:Es,(∀ p∈l,(txtM p.2).length<=20*f p.2+8)->(angL (l.map (·.2))).length<=10*l.length+20*sumE f l
 |[],_=>by simp[angL]
 |p::l,h=>by
  have h1:=h p (List.mem_cons_self ..);have h2:=qW8 f l (λx hx=>h x (List.mem_cons_of_mem _ hx));simp only[List.map_cons,angL,sumE,List.sum_cons,List.length_append,List.length_cons,List.length_nil] at h2 ⊢;omega
theorem qXq{src:LB}(o:typeOK src)(h:typeE src=0):smT (typeM src):=qU5 12 _ (qXk o h)
theorem qBy:∀ (n:Nat) (t:TT),SizeOf.sizeOf t<n->sameT t t=true
 |0,t,h=>by omega
 |n+1,t,h=>by
  have L:∀ l:List TT,(∀ x∈l,SizeOf.sizeOf x<n)->sameL l l=true:=by
   intro l
   induction l with
   |nil=>intro _; rfl
   |cons x l ih =>
    intro hh;rw[sameL,qBy n x (hh x (List.mem_cons_self ..)),ih (λy hy=>hh y (List.mem_cons_of_mem _ hy))];rfl
  rw[qIk,L t.kids.list (λx hx=>by have:=TT.mem_size hx; omega)];simp
theorem z4u(t:TT):put1 z4 0 (pcells t.row)=pcells t.row:=qR2 _ (TT.row_len t)
theorem v14{β:Type}{k:KO β}{h:Heap}{d:Nat}{t:TT}(ok:TextOK t):vcall Om (F_ 14) [kA t.row] h d k=k (kS (txtM t)) h:=qAH 14 _ _ (by simp only[exP]) ok rfl
theorem v16{β:Type}{k:KO β}{h:Heap}{d:Nat}{s:LB}(ok:typeOK s):vcall Om (F_ 16) [kS s] h d k=k (.tup [.agg (pcells (typeM s).row),.c (.p (.int .i64 (typeE s)))]) h:=qAH 16 _ _ (by simp only[exP]) (qTK s ok) (by simp only[exP])
theorem v17{β:Type}{k:KO β}{h:Heap}{d:Nat}{a b:TT}(ok:RSameOK a b):vcall Om (F_ 17) [kA a.row,kA b.row] h d k=k (kB (sameT a b)) h:=qAH 17 _ _ (by simp only[exP]) ok rfl
def mixI:Option (List Int)->Sl Int
 |none=>.nil
 |some l=>.mk false l
theorem qQp(o:Option (List Int)):intsP .i64 o=slP 1 iRow (mixI o):=by cases o <;> rfl
def RTextOK(t:TT):Prop:=Om 18 [kA t.row] []=some (kS (txtM t),[])
theorem y18{β:Type}{kt:KT β}{h:Heap}{d:Nat}{x:TT}(ok:RTextOK x):vtouch Om (.call (.k (F_ 18)) [.k (kA x.row)]) h d kt=kt (kS (txtM x)) h noTouch :=
 qKo 18 [kA x.row] _ (by simp only[exP]) ok (by simp only[exP])
theorem v18{β:Type}{k:KO β}{h:Heap}{d:Nat}{x:TT}(ok:RTextOK x):vcall Om (F_ 18) [kA x.row] h d k=k (kS (txtM x)) h:=qAH 18 _ _ (by simp only[exP]) ok rfl
def jn(i:Nat)(xs:List (LB)):LB:=if i=0 then Lib.join xs sepC else Lib.joinTail sepC xs
theorem qX7(i:Nat):jn i []=[]:=by unfold jn; split <;> rfl
theorem qXw(i:Nat)(x:LB)(r:List (LB)):jn i (x::r)=(if i=0 then [] else sepC)++(x++jn (i+1) r):=by
 unfold jn;rw[if_neg (Nat.succ_ne_zero i)];by_cases h:i=0
 ·rw[if_pos h,if_pos h,Lib.join_cons]; rfl
 ·rw[if_neg h,if_neg h]; simp[Lib.joinTail]
theorem qV5(t:TT)(ok:∀ x∈t.kids.list,RTextOK x)(i:Nat)(hi:i<=1000)(n:LB)(x:TT)(hn:t.names.list[i]?=some n)(hx:t.kids.list[i]?=some x)(mx:x∈t.kids.list)(acc:LB)(h:Heap)(H:FldH t h)
  (hs:acc.length+n.length+(txtM x).length+10<=2000000000):lim tab.get S 18 0 3 [q1,kS acc,kI (i:Int)] h=lim tab.get S 18 0 2 [q1,kS (acc++n++[58,32]++txtM x),kI ((i+1:Nat):Int)] h:=by
 have a0:acc.length+n.length<=4611686018427387904:=by omega
 have a1:(acc++n).length+([58,32]:LB).length<=4611686018427387904:=by simp; omega
 have a2:(acc++n++[58,32]).length+(txtM x).length<=4611686018427387904:=by simp; omega
 have A0:∀ {β:Type}{h:Heap}{k:KO β},vbin .add 0 (kS acc) (kS n) h k=k (kS (acc++n)) h:=λ{β h k}=>qUJ 0 _ _ a0
 have A1:∀ {β:Type}{h:Heap}{k:KO β},vbin .add 0 (kS (acc++n)) (kS [58,32]) h k=k (kS (acc++n++[58,32])) h:=λ{β h k}=>qUJ 0 _ _ a1
 have A2:∀ {β:Type}{h:Heap}{k:KO β},vbin .add 0 (kS (acc++n++[58,32])) (kS (txtM x)) h k=k (kS (acc++n++[58,32]++txtM x)) h:=λ{β h k}=>qUJ 0 _ _ a2
 rw[w18_3,b18_3];simp (maxSteps:=9^7) +contextual only[A0,A1,A2,exa,rA,rB,rC,rD,rE,rF,rG,rH,rI,exY,hx,hn,H.a1,y18 (ok x mx),qBq i (by omega)]
theorem qX4(t:TT)(sm:smT t)(hkl:t.kids.len=t.names.len)(ok:∀ x∈t.kids.list,RTextOK x)(W:LB)(hW:W.length<=1000000000)(h:Heap)(H:FldH t h) :
  ∀ (i:Nat) (acc:LB),acc++(jn i (fldL (t.names.list.drop i) (t.kids.list.drop i))++[125])=W->lim tab.get S 18 0 2 [q1,kS acc,kI (i:Int)] h=some (kS W,[]):=by
 obtain⟨s1,s2,_⟩:=(qGM t).1 sm;refine qE7 t.names.len (λi hi acc e=>?_) (λi hi ihl acc e=>?_) <;> rw[w18_2,b18_2]
 ·have h1:¬ (i:Int)<(t.names.len:Int):=by omega
  have e1:t.names.list.drop i=[]:=qB8 hi;rw[e1,qUi,qX7,List.nil_append] at e;have hl:acc.length+([125]:LB).length<=4611686018427387904:=by
   have:=congrArg List.length e; simp only[List.length_append] at this; omega
  have A1:∀ {β:Type}{h:Heap}{k:KO β},vbin .add 0 (kS acc) (kS [125]) h k=k (kS W) h:=λ{β h k}=>e▸qUJ 0 _ _ hl
  have L4:lim tab.get S 18 0 4 [kS acc] h=some (kS W,[]):=by
   rw[w18_4,b18_4];simp only[A1,qAI,qTF]
  simp (maxSteps:=9^7) +contextual only[exa,rA,rB,rC,rD,rE,rF,rG,rH,rI,exY,h1,H.a1,L4]
 ·have h1:(i:Int)<(t.names.len:Int):=by omega
  obtain⟨n,hn,dn,mn⟩:=qBN (l:=t.names.list) (i:=i) (by show i<t.names.len; omega);obtain⟨x,hx,dx,mx⟩:=qBN (l:=t.kids.list) (i:=i) (by show i<t.kids.len; omega);rw[dn,dx,fldL,qXw] at e;have hl:=congrArg List.length e;simp only[List.length_append] at hl;by_cases h0:i=0
  ·subst h0;have h2:¬ (0:Int)<((0:Nat):Int):=by decide
   rw[if_pos rfl,List.nil_append] at e;have st:=qV5 t ok 0 (by omega) n x hn hx mx acc h H (by omega);have fin:=ihl (acc++n++[58,32]++txtM x) (by rw[<- e]; simp only[List.append_assoc,colC]);rw[fin] at st;simp (maxSteps:=9^7) +contextual only[exa,rA,rB,rC,rD,rE,rF,rG,rH,rI,exY,h1,h2,H.a1,st]
  ·have h2:(0:Int)<(i:Int):=by omega
   rw[if_neg h0] at e;rw[if_neg h0] at hl;have hc:sepC.length=2:=rfl;have a0:acc.length+([44,32]:LB).length<=4611686018427387904:=by simp; omega
   have A0:∀ {β:Type}{h:Heap}{k:KO β},vbin .add 0 (kS acc) (kS [44,32]) h k=k (kS (acc++[44,32])) h:=λ{β h k}=>qUJ 0 _ _ a0
   have st:=qV5 t ok i (by omega) n x hn hx mx (acc++[44,32]) h H (by simp; omega);have fin:=ihl (acc++[44,32]++n++[58,32]++txtM x) (by rw[<- e]; simp only[List.append_assoc,colC,sepC]);rw[fin] at st;simp (maxSteps:=9^7) +contextual only[A0,exa,rA,rB,rC,rD,rE,rF,rG,rH,rI,exY,h1,h2,H.a1,st]
theorem qU2:∀ (n:Nat) (t:TT),WF n t->wrB n t->RTextOK t
 |0,_,h,_=>h.elim
 |n+1,t,hwf,hw=>by
  have sm:=qU5 (n+1) t hwf;obtain⟨w1,w2,w3,w4⟩:=hw;refine(qAD rfl).trans ?_;show lim tab.get S 18 0 0 [kA t.row] h0=_;rw[w18_0,b18_0]
  rcases hwf with ⟨k,hk,rfl⟩|⟨w,hw,hne,rfl⟩|⟨k,x,hk,hx,rfl⟩|⟨k,l,hk,hl,hp,hs,rfl⟩
  ·have hk':k=1\/k=2\/k=3:=by omega
   rcases hk' with rfl|rfl|rfl
   ·have e:txtM (leafT 1)=[66,111,111,108]:=rfl;rw[e]; simp (maxSteps:=9^7) +contextual only[exa,rA,rB,rC,rD,rE,rF,rG,rH,rI,TT.row,TT.kind,leafT,oneOf]
   ·have e:txtM (leafT 2)=[73,110,116]:=rfl;rw[e]; simp (maxSteps:=9^7) +contextual only[exa,rA,rB,rC,rD,rE,rF,rG,rH,rI,TT.row,TT.kind,leafT,oneOf]
   ·have e:txtM (leafT 3)=[84,101,120,116]:=rfl;rw[e]; simp (maxSteps:=9^7) +contextual only[exa,rA,rB,rC,rD,rE,rF,rG,rH,rI,TT.row,TT.kind,leafT,oneOf]
  ·have k9:(TT.mk 9 w .nil .nil).kind=9:=rfl;have e:txtM (TT.mk 9 w .nil .nil)=(TT.mk 9 w .nil .nil).name:=by rw[qUL,if_pos k9]
   rw[e];generalize (TT.mk 9 w .nil .nil)=t at *;simp (maxSteps:=9^7) +contextual only[exa,rA,rB,rC,rD,rE,rF,rG,rH,rI,k9,oneOf]
  ·have kk:(TT.mk k [] .nil (.mk true [x])).kind=k:=rfl;have kx:(TT.mk k [] .nil (.mk true [x])).kids.list=[x]:=rfl;have hx0:(TT.mk k [] .nil (.mk true [x])).kids.list[0]?=some x:=rfl;have e:txtM (TT.mk k [] .nil (.mk true [x]))=wordM k++[60]++txtM x++[62]:=by
    rw[qUL,kk,kx,if_neg (by omega),if_neg (by omega),if_neg (by omega)];simp[angL]
   have hx1:=w4 x (by rw[kx]; exact List.mem_singleton.2 rfl);have ok:=qU2 n x hx hx1;have hl:=congrArg List.length e;simp only[List.length_append,List.length_cons,List.length_nil] at hl;have C:=λ(β:Type) (kk:KO β) (hh:Heap) (d:Nat)=>v18 (k:=kk) (h:=hh) (d:=d) ok
   have A1:∀ (w:LB),w.length<=10->∀ (β:Type) (h:Heap) (k:KO β),vbin .add 0 (kS w) (kS (txtM x)) h k=k (kS (w++txtM x)) h:=λw hw β h k=>qUJ 0 _ _ (by omega)
   have A2:∀ (w:LB),w.length<=10->∀ (β:Type) (h:Heap) (k:KO β),vbin .add 0 (kS (w++txtM x)) (kS [62]) h k=k (kS (w++txtM x++[62])) h:=λw hw β h k=>qUJ 0 _ _ (by simp; omega)
   rw[e];generalize (TT.mk k [] .nil (.mk true [x]))=t at *
   rcases hk with rfl|rfl|rfl
   ·have B1:=A1 [76,105,115,116,60] (by decide);have B2:=A2 [76,105,115,116,60] (by decide);have e4:wordM 4++[60]=[76,105,115,116,60]:=rfl;rw[e4];simp (maxSteps:=9^7) +contextual only[B1,B2,exa,rA,rB,rC,rD,rE,rF,rG,rH,rI,kk,hx0,C,Int.toNat_zero,oneOf]
   ·have B1:=A1 [77,97,112,60] (by decide);have B2:=A2 [77,97,112,60] (by decide);have e4:wordM 5++[60]=[77,97,112,60]:=rfl;rw[e4];simp (maxSteps:=9^7) +contextual only[B1,B2,exa,rA,rB,rC,rD,rE,rF,rG,rH,rI,kk,hx0,C,Int.toNat_zero,oneOf]
   ·have B1:=A1 [79,112,116,60] (by decide);have B2:=A2 [79,112,116,60] (by decide);have e4:wordM 6++[60]=[79,112,116,60]:=rfl;rw[e4];simp (maxSteps:=9^7) +contextual only[B1,B2,exa,rA,rB,rC,rD,rE,rF,rG,rH,rI,kk,hx0,C,Int.toNat_zero,oneOf]
  ·have e1:(recT k l).names.list=l.map (·.1):=qB3 _;have e2:(recT k l).kids.list=l.map (·.2):=qB3 _;have hkl:(recT k l).kids.len=(recT k l).names.len:=by show(recT k l).kids.list.length=(recT k l).names.list.length; rw[e1,e2,List.length_map,List.length_map]
   have ok:∀ x∈(recT k l).kids.list,RTextOK x:=λx hx=>by
    have hx':=hx;rw[e2] at hx';obtain⟨p,hpl,rfl⟩:=List.mem_map.1 hx';exact qU2 n p.2 (hp p hpl).2 (w4 _ hx)
   have kk:(recT k l).kind=k:=rfl;have L:=qX4 (recT k l) sm hkl ok;have te:=qUL (recT k l);generalize recT k l=t at *;rw[kk] at te
   rcases hk with rfl|rfl
   ·rw[if_neg (by decide),if_pos rfl] at te;rw[te];have L0:=L (brM t) w2 (h0.own 1 1 (.cells (pcells t.row) 0)) ⟨rfl⟩ 0 [123] (by unfold brM jn; simp);have L1:lim tab.get S 18 0 1 [q1,kS [123]] (h0.own 1 1 (.cells (pcells t.row) 0))=some (kS (brM t),[]):=by rw[w18_1,b18_1]; exact L0
    simp (maxSteps:=9^7) +contextual only[exa,rA,rB,rC,rD,rE,rF,rG,rH,rI,kk,oneOf,L1]
   ·rw[if_neg (by decide),if_neg (by decide),if_pos rfl] at te;rw[te] at w1 ⊢;have L0:=L _ w1 (h0.own 1 1 (.cells (pcells t.row) 0)) ⟨rfl⟩ 0 [85,110,105,111,110,32,123] (by unfold brM jn; simp);have L1:lim tab.get S 18 0 1 [q1,kS [85,110,105,111,110,32,123]] (h0.own 1 1 (.cells (pcells t.row) 0))=some (kS ([85,110,105,111,110,32]++brM t),[]):=by rw[w18_1,b18_1]; exact L0
    simp (maxSteps:=9^7) +contextual only[exa,rA,rB,rC,rD,rE,rF,rG,rH,rI,kk,oneOf,L1]
theorem qVo(ns ms:List (LB)){k:Int}(h:¬ k=9)(r:RW)(sub:RW->TT):treeK ns k r sub=treeK ms k r sub:=by unfold treeK; rw[if_neg h,if_neg h]
theorem qYE(a:Int):nsA.getD (withinM a (nsA.length:Int)).toNat []=[65]\/nsA.getD (withinM a (nsA.length:Int)).toNat []=[66,101,101]:=by
 have hb:=qCy a 2 (by decide);have hl:(nsA.length:Int)=2:=rfl;rw[hl];have:withinM a 2=0\/withinM a 2=1:=by omega
 rcases this with e|e <;> rw[e]
 ·exact .inl rfl
 ·exact .inr rfl
theorem qVL(n:Nat)(k:Int)(r:RW)(sub:RW->TT)(hk:1<=k/\k<=9)(hs:4<=k->k<=8->∀ x,WF n (sub x)):WF (n+1) (treeK nsA k r sub):=by
 by_cases h9:k=9
 ·unfold treeK;rw[if_pos h9]
  rcases qYE r.n with e|e <;> rw[e]
  ·exact .inr (.inl ⟨[65],by decide,by decide,rfl⟩)
  ·exact .inr (.inl ⟨[66,101,101],by decide,by decide,rfl⟩)
 ·rw[qVo nsA nsB h9]; exact qXO n k r sub hk hs
theorem qUW:∀ (d:Nat) (r:RW),WF (d+1) (treeM nsA (d+1) r)
 |0,r=>by
  have:=qUv r ((0:Nat)+1);exact qVL 0 (kindT r ((0:Nat)+1)) r _ ⟨this.1,this.2.1⟩ (λh1 h2=>absurd ⟨h1,h2⟩ (this.2.2 (by decide)))
 |d+1,r=>by
  have:=qUv r (((d+1:Nat):Int)+1);exact qVL (d+1) (kindT r (((d+1:Nat):Int)+1)) r _ ⟨this.1,this.2.1⟩ (λ_ _ x=>qUW d x)
theorem qVI(n:Nat)(k:Int)(nm:LB)(h:¬ (k=7\/k=8)):muN (n+1) (.mk k nm .nil .nil)=1:=by
 show(if k=7\/k=8 then 3*0+0 else 1)=1;rw[if_neg h]
theorem qXF(n B:Nat)(k:Int)(r:RW)(sub:RW->TT)(hk:1<=k/\k<=9)(hs:4<=k->k<=8->∀ x,WF n (sub x)/\muN n (sub x)<=B):muN (n+1) (treeK nsA k r sub)<=12+4*B:=by
 by_cases h9:k=9
 ·unfold treeK;rw[if_pos h9,qVI _ _ _ (by decide)]; omega
 ·rw[qVo nsA nsB h9]; exact qXL n B k r sub hk hs
theorem qVk:∀ (d:Nat) (r:RW),muN (d+1) (treeM nsA (d+1) r)<=5*4 ^ d - 4
 |0,r=>by
  have:=qUv r ((0:Nat)+1);have h3:=this.2.2 (by decide);show muN 1 (treeK nsA (kindT r ((0:Nat)+1)) r _)<=1;generalize kindT r ((0:Nat)+1)=k at *;unfold treeK;split
  ·rw[qVI _ _ _ (by decide)]; omega
  split
  ·exact absurd ⟨by omega,by omega⟩ h3
  split
  ·exact absurd ⟨by omega,by omega⟩ h3
  ·rw[qVI _ _ _ (by omega)]; omega
 |d+1,r=>by
  have:=qUv r (((d+1:Nat):Int)+1);have h:=qXF (d+1) (5*4 ^ d - 4) (kindT r (((d+1:Nat):Int)+1)) r (treeM nsA (d+1)) ⟨this.1,this.2.1⟩ (λ_ _ x=>⟨qUW d x,qVk d x⟩);have hp:1<=4 ^ d:=Nat.one_le_pow _ _ (by decide);have hq:4 ^ (d+1)=4*4 ^ d:=by rw[Nat.pow_succ,Nat.mul_comm]
  show muN (d+1+1) (treeK nsA (kindT r (((d+1:Nat):Int)+1)) r (treeM nsA (d+1)))<=_;omega
theorem qVp:∀ (n:Nat) (t:TT),WF n t->muN n t<=25000000->wrB n t
 |0,t,h,_=>h.elim
 |n+1,t,h,hm=>by
  have ht:=qUd (n+1) t h
  rcases h with ⟨k,hk,rfl⟩|⟨w,hw,hne,rfl⟩|⟨k,x,hk,hx,rfl⟩|⟨k,l,hk,hl,hp,hs,rfl⟩
  ·exact⟨by omega,by show 2<=_; decide,by show 0<=_; decide,λx hx=>by cases hx⟩
  ·exact⟨by omega,by show 2<=_; decide,by show 0<=_; decide,λx hx=>by cases hx⟩
  ·have h6:muN (n+1) (.mk k [] .nil (.mk true [x]))=1+muN n x:=by
    show(if k=7\/k=8 then _ else 1+muN n x)=_;rw[if_neg (by omega)]
   have hx2:=qUd n x hx;refine⟨by omega,by show 2<=_; decide,?_,λy hy=>?_⟩
   ·show(angL [x]).length<=_;simp[angL]; omega
   ·have:y∈[x]:=hy;rw[List.mem_singleton.1 this];exact qVp n x hx (by omega)
  ·have e2:(recT k l).kids.list=l.map (·.2):=qB3 _;have hmu:=qUn (n:=n) k hk l;have hf:=qUm (muN n) l (λp hpl=>⟨qUk (hp p hpl).1,qUd n p.2 (hp p hpl).2⟩);have ha:=qW8 (muN n) l (λp hpl=>qUd n p.2 (hp p hpl).2);have hb:(brM (recT k l)).length=(fldTx l).length+2:=by rw[qVW]; simp
   refine⟨by omega,by omega,by rw[e2]; omega,λy hy=>?_⟩;rw[e2] at hy;obtain⟨p,hpl,rfl⟩:=List.mem_map.1 hy;have:=qWJ (f:=muN n) l p hpl;exact qVp n p.2 (hp p hpl).2 (by omega)
theorem qVh(r:RW):wrB 12 (treeM nsA 12 r):=qVp 12 _ (qUW 11 r) (Nat.le_trans (qVk 11 r) (by decide))
theorem qUo(r:RW):smT (treeM nsA 12 r):=qU5 12 _ (qUW 11 r)
theorem qXY(r:RW):TextOK (treeM nsA 12 r):=qWC 12 _ (qVh r) (qUo r)
theorem qWd(r:RW):RTextOK (treeM nsA 12 r):=qU2 12 _ (qUW 11 r) (qVh r)
theorem qX1(r:RW):(txtM (treeM nsA 12 r)).length<=1000000000:=(qVh r).1
theorem qWz(r:RW):typeE (txtM (treeM nsA 12 r))=4\/typeE (txtM (treeM nsA 12 r))=3\/(typeE (txtM (treeM nsA 12 r))=0/\typeM (txtM (treeM nsA 12 r))=treeM nsA 12 r):=(qYR (qUW 11 r)).2
theorem qWk(a n:Int)(hn:0<n)(hs:n<4000000000):Om 19 [kI a,kI n] []=some (kI (withinM a n),[]):=by
 refine(qAD rfl).trans ?_;show lim tab.get S 19 0 0 [kI a,kI n] h0=_;have hb:=qCy a n hn;rw[w19_0,b19_0];unfold withinM at hb ⊢;by_cases h:a.tmod n<0
 ·rw[if_pos h] at hb ⊢;have hw:IntKind.i64.wrap (a.tmod n+n)=a.tmod n+n:=qAL _ (by omega) (by omega);simp (maxSteps:=9^7) +contextual only[exa,rA,rB,rC,rD,rE,rF,rG,rH,rI,qF0 0 .i64 a n (by omega),h,hw,oneOf]
 ·rw[if_neg h];simp (maxSteps:=9^7) +contextual only[exa,rA,rB,rC,rD,rE,rF,rG,rH,rI,qF0 0 .i64 a n (by omega),h,oneOf]
theorem qVY(x:LB):smT (typeM x):=by
 by_cases h:typeE x=0
 ·exact qXq (qGD x) h
 ·have e:typeM x=zeroT:=by unfold typeM; rw[if_neg h]
  rw[e,qGM];exact⟨Nat.zero_le _,Nat.zero_le _,λx hx=>by cases hx⟩
theorem v20{β:Type}{k:KO β}{h:Heap}{d:Nat}(s:LB):vcall Om (F_ 20) [kS s] h d k=k (.tup [.agg (pcells (typeM s).row),.c (.p (.int .i64 (typeE s)))]) h:=by
 obtain⟨e1,e2⟩:=qWX s;rw[e1,e2];exact qAH 20 _ _ (by simp only[exP]) (qXp s) (by simp only[exP])
theorem qWO(l:List (LB))(h3:l.length=6):∀ (i:Nat) (h:Heap),lim tab.get S 5 0 1 [kSl 1 true (l.map sRow),kI (i:Int)] h=some (kB true,[]):=by
 refine qE7 6 (λi hi h=>?_) (λi hi ihl h=>?_) <;> rw[w5_1,b5_1]
 ·have LN:∀ (β:Type) (kk:KO β) (hh:Heap) (d:Nat),vlen Om 2 (kSl 1 true (l.map sRow)) hh d kk=kk (kI (6:Int)) hh:=λβ kk hh d=>by simp (maxSteps:=9^7) +contextual only[exa,rA,rB,rC,rD,rE,rF,rG,rH,rI,List.length_map,h3]; rfl
  have h1:¬ (i:Int)<6:=by omega
  generalize kSl 1 true (l.map sRow)=MP at *;simp (maxSteps:=9^7) +contextual only[exa,rA,rB,rC,rD,rE,rF,rG,rH,rI,LN,h1,oneOf]
 ·have LN:∀ (β:Type) (kk:KO β) (hh:Heap) (d:Nat),vlen Om 2 (kSl 1 true (l.map sRow)) hh d kk=kk (kI (6:Int)) hh:=λβ kk hh d=>by simp (maxSteps:=9^7) +contextual only[exa,rA,rB,rC,rD,rE,rF,rG,rH,rI,List.length_map,h3]; rfl
  have h1:(i:Int)<6:=by omega
  obtain⟨x,hx,dx,mx⟩:=qBN (l:=l) (i:=i) (by omega);have AT:∀ (β:Type) (kk:KO β) (hh:Heap),viaddr 1 (kSl 1 true (l.map sRow)) (kI (i:Int)) hh kk=kk (.v (.c (.p (.pptr (sRow x) 0)))) hh:=λβ kk hh=>by
   have:(l.map sRow)[i]?=some (sRow x):=by rw[List.getElem?_map,hx]; rfl
   exact qNz (h:=hh) (k:=kk) 1 true (l.map sRow) i _ this
  generalize kSl 1 true (l.map sRow)=MP at *;have z5':∀ t:TT,(pcells t.row).length=4:=λt=>by rw[qAN,TT.row_len]
  have Tz:∀ t:TT,(pcells t.row).take 4=pcells t.row:=λt=>List.take_of_length_le (by rw[z5']; exact Nat.le_refl _)
  have C1:=λ(β:Type) (kk:KO β) (hh:Heap) (d:Nat)=>v16 (k:=kk) (h:=hh) (d:=d) (qGD x)
  have C2:=λ(β:Type) (kk:KO β) (hh:Heap) (d:Nat)=>v20 (k:=kk) (h:=hh) (d:=d) x
  have C4:=λ(β:Type) (kk:KO β) (hh:Heap) (d:Nat)=>v17 (k:=kk) (h:=hh) (d:=d) (qPU _ _ _ (Nat.lt_succ_self _) (qVY x) (qVY x))
  rw[qBy _ _ (Nat.lt_succ_self _)] at C4;have zt:=z4u (typeM x);have lt:=z5' (typeM x);have et:=Tz (typeM x);generalize typeM x=t at *;generalize typeE x=e at *;simp (maxSteps:=9^7) +contextual only[exa,rA,rB,rC,rD,rE,rF,rG,rH,rI,exR,exW,LN,h1,AT,C1,C2,C4,zt,lt,et,ihl,qBq i (by omega),oneOf]
def nsW:Sl (LB):=.mk true nsA
theorem qXV:TreeOK nsW 12 (treeM nsA 12):=qWG nsW (by decide) (by decide) 12 (by decide)
theorem qWs(s:LB)(r:RW)(a:Int)(l:Sl Int):orc S (lim tab.get S) 5 [kS s,kA r.row,kI a,IsP l] []=some (kB true,[]):=by
 refine(qAD rfl).trans ?_;show lim tab.get S 5 0 0 [kS s,kA r.row,kI a,IsP l] h0=_;rw[w5_0,b5_0];have u10:CAL 10 [] (kB true):=λ{β k h d}=>qAH 10 _ _ rfl qQm rfl
 by_cases hs:(500:Int)<(s.length:Int)
 ·simp (maxSteps:=9^7) +contextual only[exa,rA,rB,rC,rD,rE,rF,rG,rH,rI,exR,u10,u11,hs,oneOf]
 by_cases ha:fewR r 100=0
 ·simp (maxSteps:=9^7) +contextual only[exa,rA,rB,rC,rD,rE,rF,rG,rH,rI,exR,u10,u11,hs,ha,oneOf]
 have sa:=qWc (by decide) ha;have N1:∀ (β:Type) (kk:KO β) (hh:Heap),vop Om (.bslice 1 2 [.p (.str [])] [(0,.k (kS [65])),(1,.k (kS [66,101,101]))] false) hh 31 kk=kk (.v (.c (.p (slP 1 sRow nsW)))) hh:=λ_ _ _=>qAx _ _ rfl
 have N2:∀ (β:Type) (kk:KO β) (hh:Heap) (a b c d e f:LB),vop Om (.bslice 1 6 [.p (.str [])] [(0,.k (kS a)),(1,.k (kS b)),(2,.k (kS c)),(3,.k (kS d)),(4,.k (kS e)),(5,.k (kS f))] false) hh 97 kk=kk (kSl 1 true ([a,b,c,d,e,f].map sRow)) hh:=λ_ _ _ _ _ _ _ _ _=>qAx _ _ rfl
 have ya:CAL 12 [kA r.row,kI 12,.v (.c (.p (slP 1 sRow nsW)))] (kA (treeM nsA 12 r).row):=λ{β k h d}=>u12 qXV r sa
 have yt:=λ(β:Type) (kk:KO β) (hh:Heap) (d:Nat)=>v14 (k:=kk) (h:=hh) (d:=d) (qXY r)
 have yr:=λ(β:Type) (kk:KO β) (hh:Heap) (d:Nat)=>v18 (k:=kk) (h:=hh) (d:=d) (qWd r)
 have y13:∀ (β:Type) (kk:KO β) (hh:Heap) (d:Nat),vcall Om (F_ 13) [kA (treeM nsA 12 r).row,kA (treeM nsA 12 r).row] hh d kk=kk (kB true) hh:=λβ kk hh d=>qAH 13 _ _ (by simp only[exP]) ((qXm _ _ _ (Nat.lt_succ_self _) (qUo r) (qUo r)).trans (by rw[qBy _ _ (Nat.lt_succ_self _)])) rfl
 have y17:=λ(β:Type) (kk:KO β) (hh:Heap) (d:Nat)=>v17 (k:=kk) (h:=hh) (d:=d) (qPU _ _ _ (Nat.lt_succ_self _) (qUo r) (qUo r))
 rw[qBy _ _ (Nat.lt_succ_self _)] at y17;have ym:=λ(β:Type) (kk:KO β) (hh:Heap) (d:Nat)=>u15 (k:=kk) (h:=hh) (d:=d) l
 have ml:=qXt l.list;have tl:=qX1 r;have R:=qWz r;have C1:=λ(β:Type) (kk:KO β) (hh:Heap) (d:Nat)=>v16 (k:=kk) (h:=hh) (d:=d) (qGD (txtM (treeM nsA 12 r)))
 generalize txtM (treeM nsA 12 r)=tx at *;generalize treeM nsA 12 r=t at *;have z5':∀ t:TT,(pcells t.row).length=4:=λt=>by rw[qAN,TT.row_len]
 have Tz:∀ t:TT,(pcells t.row).take 4=pcells t.row:=λt=>List.take_of_length_le (by rw[z5']; exact Nat.le_refl _)
 have hw:=qCy a ((tx.length:Int)+1) (by omega);have y19:∀ (β:Type) (kk:KO β) (hh:Heap) (d:Nat),vcall Om (F_ 19) [kI a,kI ((tx.length+1:Nat):Int)] hh d kk=kk (kI (((withinM a ((tx.length:Int)+1)).toNat:Nat):Int)) hh:=λβ kk hh d=>by
  have e:((withinM a ((tx.length:Int)+1)).toNat:Int)=withinM a ((tx.length:Int)+1):=Int.toNat_of_nonneg hw.1;have e2:((tx.length+1:Nat):Int)=(tx.length:Int)+1:=Int.natCast_succ _;rw[e,e2];exact qAH 19 _ _ rfl (qWk a ((tx.length:Int)+1) (by omega) (by omega)) rfl
 have hk:(withinM a ((tx.length:Int)+1)).toNat<=tx.length:=by omega
 generalize (withinM a ((tx.length:Int)+1)).toNat=w at *;have W1:IntKind.i64.wrap ((tx.length:Int)+1)=((tx.length+1:Nat):Int):=qBq tx.length (by omega);have S1:∀ (β:Type) (kk:KO β) (hh:Heap) (d:Nat),vop Om (.slice 0 true (.k (kS tx)) none (some (.k (kI (w:Int)))) none) hh d kk=kk (kS (tx.take w)) hh:=λβ kk hh d=>qFh tx w hk
 have S2:∀ (β:Type) (kk:KO β) (hh:Heap) (d:Nat),vop Om (.slice 0 true (.k (kS tx)) (some (.k (kI (w:Int)))) none none) hh d kk=kk (kS (tx.drop w)) hh:=λβ kk hh d=>qF6 tx w hk
 have l1:(tx.take w).length<=tx.length:=by rw[List.length_take]; omega
 have l2:(tx.drop w).length<=tx.length:=by rw[List.length_drop]; omega
 generalize tx.take w=t1 at *;generalize tx.drop w=t2 at *;generalize mixM l.list=mx at *;have V1:∀ (β:Type) (kk:KO β) (hh:Heap),vbin .add 0 (kS t1) (kS mx) hh kk=kk (kS (t1++mx)) hh:=λβ kk hh=>qLR _ _ (by omega)
 have V2:∀ (β:Type) (kk:KO β) (hh:Heap),vbin .add 0 (kS (t1++mx)) (kS t2) hh kk=kk (kS (t1++mx++t2)) hh:=λβ kk hh=>qLR _ _ (by simp; omega)
 have V3:∀ (β:Type) (kk:KO β) (hh:Heap),vbin .add 0 (kS [32]) (kS tx) hh kk=kk (kS ([32]++tx)) hh:=λβ kk hh=>qLR _ _ (by simp; omega)
 have V4:∀ (β:Type) (kk:KO β) (hh:Heap),vbin .add 0 (kS ([32]++tx)) (kS [10]) hh kk=kk (kS ([32]++tx++[10])) hh:=λβ kk hh=>qLR _ _ (by simp; omega)
 have fin:=qWO [s,t1,t2,t1++mx++t2,mx,[32]++tx++[10]] rfl 0;generalize hM:kSl 1 true ([s,t1,t2,t1++mx++t2,mx,[32]++tx++[10]].map sRow)=MP at *;have N3:∀ (β:Type) (kk:KO β) (hh:Heap),vop Om (.bslice 1 6 [.p (.str [])] [(0,.k (kS s)),(1,.k (kS t1)),(2,.k (kS t2)),(3,.k (kS (t1++mx++t2))),(4,.k (kS mx)),(5,.k (kS ([32]++tx++[10])))] false) hh 97 kk=kk MP hh:=λβ kk hh=>by rw[<- hM]; exact N2 β kk hh _ _ _ _ _ _
 have fin0:∀ hh:Heap,lim tab.get S 5 0 1 [MP,kI 0] hh=some (kB true,[]):=fin;have zt:=z4u t;have lt:=z5' t;have et:=Tz t;have zu:=z4u (typeM tx);have lu:=z5' (typeM tx);have eu:=Tz (typeM tx)
 rcases R with q|q|⟨q,e⟩
 ·rw[q] at C1;generalize typeM tx=u at *;simp (maxSteps:=9^7) +contextual only[exa,rA,rB,rC,rD,rE,rF,rG,rH,rI,exR,exW,u10,u11,hs,ha,N1,ya,yt,yr,y13,y17,C1,y19,W1,S1,S2,ym,V1,V2,V3,V4,N3,fin0,zt,lt,et,zu,lu,eu,oneOf]
 ·rw[q] at C1;generalize typeM tx=u at *;simp (maxSteps:=9^7) +contextual only[exa,rA,rB,rC,rD,rE,rF,rG,rH,rI,exR,exW,u10,u11,hs,ha,N1,ya,yt,yr,y13,y17,C1,y19,W1,S1,S2,ym,V1,V2,V3,V4,N3,fin0,zt,lt,et,zu,lu,eu,oneOf]
 ·rw[q,e] at C1;simp (maxSteps:=9^7) +contextual only[exa,rA,rB,rC,rD,rE,rF,rG,rH,rI,exR,exW,u10,u11,hs,ha,N1,ya,yt,yr,y13,y17,C1,y19,W1,S1,S2,ym,V1,V2,V3,V4,N3,fin0,zt,lt,et,oneOf]
theorem types_run(s:LB)(r:RW)(a:Int)(o:Option (List Int)):orc S (lim tab.get S) 5 [kS s,kA r.row,kI a,.v (.c (.p (intsP .i64 o)))] []=some (kB true,[]):=by
 rw[qQp];exact qWs s r a (mixI o)
#print axioms types_run
end Go.Proofs.YtnlmlcfipbnpgaaDoor.Ab
