/- The rules,the contracts,the plain laws that lead to the statement. Own work. Condition: what each theorem names. -/
import Derived.Test.YtnlmlcfipbnpgaaDoorG0
set_option linter.all false
set_option linter.unusedVariables false
set_option linter.unusedSimpArgs false
set_option linter.unusedSectionVars false
set_option maxRecDepth 100000
open Nat (reduceAdd reduceMul reduceLT reduceLeDiff reduceEqDiff)
set_option maxHeartbeats 4000000
namespace Go.Proofs.YtnlmlcfipbnpgaaDoor.Ab
open Go Go.AI
def nameB(w:List UInt8):Bool:=match w with
 |[]=>false
 |c::_=>isLetter c.toNat&&w.all (fun b=>isWord b.toNat)&&Nat.ble w.length 16
def endW(r:List UInt8):Prop:=∀ b t,r=b::t→isWord b.toNat=false
theorem qFN(p:Nat→Bool):∀ (w r:List UInt8),(∀ b∈w,p b.toNat=true)→(∀ b t,r=b::t→p b.toNat=false)→runLen p (w++r)=w.length
 |[],r,_,h=>by
  cases r with
  |nil=>rfl
  |cons b t=>simp[runLen,h b t rfl]
 |b::w,r,h1,h2=>by
  have:=qFN p w r (fun x hx=>h1 x (List.mem_cons_of_mem _ hx)) h2;simp[runLen,h1 b (List.mem_cons_self ..),this]
theorem qM1(n:Nat)(h:isLetter n=true):isBlank n=false:=by
 cases hb:isBlank n with
 |false=>rfl
 |true =>
  exfalso;unfold isLetter at h;unfold isBlank at hb;simp only[Bool.or_eq_true,Bool.and_eq_true,Nat.beq_eq,Nat.ble_eq] at h hb;omega
theorem qLl{w:List UInt8}(hw:nameB w=true){r:List UInt8}(hr:endW r)(f i:Nat)(acc:List Tok):toksGo (f+1) (w++r) i acc=toksGo f r (i+w.length) (acc++[⟨1,w,0,(i:Int)⟩]):=by
 cases w with
 |nil=>cases hw
 |cons c q =>
  unfold nameB at hw;simp only[Bool.and_eq_true,Nat.ble_eq,List.all_eq_true] at hw;obtain⟨⟨h1,h2⟩,h3⟩:=hw;have hk:runLen isBlank (c::(q++r))=0:=by simp[runLen,qM1 _ h1]
  have hl:=qFN isWord (c::q) r h2 hr;have ho:oneM (c::(q++r))=⟨⟨1,c::q,0,0⟩,((c::q).length:Nat),0⟩:=by
   show(if isLetter c.toNat then wrdM (c::(q++r)) else _)=_;rw[if_pos h1];unfold wrdM;rw[show c::(q++r)=(c::q)++r from rfl,hl,if_neg (by omega),List.take_left'];rfl
  rw[List.cons_append,toksGo];simp only[hk,List.drop_zero];simp only[ho,Nat.add_zero,if_true,Int.toNat_natCast];rw[show(c::(q++r))=(c::q)++r from rfl,List.drop_left'];rfl
def sgnB(c:UInt8):Bool:=Nat.beq c.toNat 60||Nat.beq c.toNat 62||Nat.beq c.toNat 123||Nat.beq c.toNat 125||Nat.beq c.toNat 44||Nat.beq c.toNat 58
theorem qD5{c:UInt8}(h:sgnB c=true):c=60∨c=62∨c=123∨c=125∨c=44∨c=58:=by
 unfold sgnB at h;simp only[Bool.or_eq_true,Nat.beq_eq] at h
 rcases h with ((((h|h)|h)|h)|h)|h
 ·exact .inl (UInt8.toNat_inj.1 h)
 ·exact .inr (.inl (UInt8.toNat_inj.1 h))
 ·exact .inr (.inr (.inl (UInt8.toNat_inj.1 h)))
 ·exact .inr (.inr (.inr (.inl (UInt8.toNat_inj.1 h))))
 ·exact .inr (.inr (.inr (.inr (.inl (UInt8.toNat_inj.1 h)))))
 ·exact .inr (.inr (.inr (.inr (.inr (UInt8.toNat_inj.1 h)))))
theorem qOW{c:UInt8}(r:List UInt8)(h1:isLetter c.toNat=false)(h2:isDigit c.toNat=false)(h3:c.toNat≠45)(h4:c.toNat≠34):oneM (c::r)=signM (c::r):=by
 have hn:numHead (c::r)=false:=by
  show(isDigit c.toNat||(decide (c.toNat=45)&&_))=false;rw[h2,decide_eq_false h3,Bool.false_and,Bool.or_false]
 show(if isLetter c.toNat=true then wrdM (c::r) else if numHead (c::r)=true then numberM (c::r) else if c.toNat=34 then textM (c::r) else signM (c::r))=_;rw[h1,hn,if_neg (by decide),if_neg (by decide),if_neg h4]
theorem qMB{c:UInt8}(hc:sgnB c=true)(r:List UInt8)(hr:c=58→r.head?≠some 61)(f i:Nat)(acc:List Tok):toksGo (f+1) (c::r) i acc=toksGo f r (i+1) (acc++[⟨4,[c],0,(i:Int)⟩]):=by
 have ho:oneM (c::r)=⟨⟨4,[c],0,0⟩,1,0⟩:=by
  have h2:¬ (c::r).take 2=two2:=by
   intro e;cases r with
   |nil=>cases e
   |cons b t =>
    have e':[c,b]=[58,61]:=e;injection e' with e1 e2
    injection e2 with e2 e3
    exact hr e1 (by rw[e2]; rfl)
  rcases qD5 hc with rfl|rfl|rfl|rfl|rfl|rfl
  all_goals
   rw[qOW r (by decide) (by decide) (by decide) (by decide)];unfold signM
   rw[if_neg (by
    intro e;cases r with
    |nil=>cases e
    |cons b t=>injection e with e1 e2; cases e1),if_neg h2]
   rfl
 have hk:runLen isBlank (c::r)=0:=by
  rcases qD5 hc with rfl|rfl|rfl|rfl|rfl|rfl <;> rfl
 rw[toksGo];simp only[hk,List.drop_zero];simp only[ho,Nat.add_zero,if_true];rfl
theorem qFc(f:Nat)(s:List UInt8)(i:Nat)(acc:List Tok):toksGo (f+1) (32::s) i acc=toksGo (f+1) s (i+1) acc:=by
 have e:runLen isBlank (32::s)=runLen isBlank s+1:=by simp[runLen]; rfl
 unfold toksGo;simp only[e,List.drop_succ_cons,show i+(runLen isBlank s+1)=i+1+runLen isBlank s by omega]
theorem qII(f i:Nat)(acc:List Tok):toksGo f [] i acc = .ok acc:=by cases f <;> rfl
end Go.Proofs.YtnlmlcfipbnpgaaDoor.Ab
set_option maxHeartbeats 4000000
namespace Go.Proofs.YtnlmlcfipbnpgaaDoor.Ab
open Go Go.AI
abbrev TW:=Int×List UInt8
def tw(t:Tok):TW:=(t.kind,t.text)
def Rd(s:List UInt8)(ws:List TW)(r:List UInt8):Prop:=ws.length+r.length≤s.length∧∀ f i acc,∃ l i',l.map tw=ws∧toksGo (f+ws.length) s i acc=toksGo f r i' (acc++l)
theorem Rd.name{w:List UInt8}(hw:nameB w=true){r:List UInt8}(hr:endW r):Rd (w++r) [(1,w)] r:=by
 refine⟨?_,fun f i acc=>⟨[⟨1,w,0,(i:Int)⟩],_,rfl,qLl hw hr f i acc⟩⟩;cases w with
 |nil=>cases hw
 |cons c q=>simp; omega
theorem Rd.sign{c:UInt8}(hc:sgnB c=true)(r:List UInt8)(hr:c=58→r.head?≠some 61):Rd (c::r) [(4,[c])] r :=
 ⟨by simp; omega,fun f i acc=>⟨[⟨4,[c],0,(i:Int)⟩],_,rfl,qMB hc r hr f i acc⟩⟩
theorem Rd.trans{s m r:List UInt8}{a b:List TW}(h1:Rd s a m)(h2:Rd m b r):Rd s (a++b) r:=by
 refine⟨by have:=h1.1; have:=h2.1; rw[List.length_append]; omega,fun f i acc => ?_⟩;obtain⟨l1,i1,e1,e2⟩:=h1.2 (f+b.length) i acc;obtain⟨l2,i2,e3,e4⟩:=h2.2 f i1 (acc++l1);refine⟨l1++l2,i2,by rw[List.map_append,e1,e3],?_⟩;rw[List.length_append,show f+(a.length+b.length)=f+b.length+a.length by omega,e2,e4,List.append_assoc]
theorem Rd.blank{s r:List UInt8}{a:List TW}(h1:Rd s a r)(ha:a≠[]):Rd (32::s) a r:=by
 refine⟨by have:=h1.1; rw[List.length_cons]; omega,fun f i acc => ?_⟩;obtain⟨l1,i1,e1,e2⟩:=h1.2 f (i+1) acc;refine⟨l1,i1,e1,?_⟩;obtain⟨x,xs,rfl⟩:∃ x xs,a=x::xs:=by cases a with|nil=>exact absurd rfl ha|cons x xs=>exact⟨x,xs,rfl⟩
 rw[List.length_cons,← Nat.add_assoc] at e2 ⊢;rw[qFc];exact e2
def keyL:List (List UInt8):=[wordM 1,wordM 2,wordM 3,wordM 4,wordM 5,wordM 6,wordM 8]
def strictS(l:Es):Prop:=∀ i p q,l[i]?=some p→l[i+1]?=some q→bless p.1 q.1=true
def WF:Nat→TT→Prop
 |0,_=>False
 |n+1,t=>(∃ k:Int,(k=1∨k=2∨k=3)∧t=leafT k)∨(∃ w,nameB w=true∧w∉keyL∧t = .mk 9 w .nil .nil)∨(∃ (k:Int) (x:TT),(k=4∨k=5∨k=6)∧WF n x∧t = .mk k [] .nil (.mk true [x])) ∨
  (∃ (k:Int) (l:Es),(k=7∨k=8)∧l.length<20∧(∀ p∈l,nameB p.1=true∧WF n p.2)∧strictS l∧t=recT k l)
def fldW(sub:TT→List TW):Es→List TW
 |[]=>[]
 |[p]=>(1,p.1)::(4,[58])::sub p.2
 |p::q::l=>((1,p.1)::(4,[58])::sub p.2)++(4,[44])::fldW sub (q::l)
def tokN:Nat→TT→List TW
 |0,_=>[]
 |n+1,t=>if t.kind=9 then [(1,t.name)] else if t.kind=7 then (4,[123])::(fldW (tokN n) (t.names.list.zip t.kids.list)++[(4,[125])]) else if t.kind=8 then (1,wordM 8)::(4,[123])::(fldW (tokN n) (t.names.list.zip t.kids.list)++[(4,[125])])
  else match t.kids.list with
   |[]=>[(1,wordM t.kind)]
   |x::_=>(1,wordM t.kind)::(4,[60])::(tokN n x++[(4,[62])])
theorem qA9(n:Nat)(t:TT):tokN (n+1) t=if t.kind=9 then [(1,t.name)] else if t.kind=7 then (4,[123])::(fldW (tokN n) (t.names.list.zip t.kids.list)++[(4,[125])]) else if t.kind=8 then (1,wordM 8)::(4,[123])::(fldW (tokN n) (t.names.list.zip t.kids.list)++[(4,[125])])
  else match t.kids.list with
   |[]=>[(1,wordM t.kind)]
   |x::_=>(1,wordM t.kind)::(4,[60])::(tokN n x++[(4,[62])]):=rfl
theorem qAZ{α:Type}(l:List α):(grown l).list=l:=by cases l <;> rfl
theorem qEK(k:Int)(l:Es):(recT k l).names.list.zip (recT k l).kids.list=l:=by
 show(grown (l.map (·.1))).list.zip (grown (l.map (·.2))).list=l;rw[qAZ,qAZ]
 induction l with
 |nil=>rfl
 |cons p l ih=>simp[ih]
def fldTx:Es→List UInt8
 |[]=>[]
 |[p]=>p.1++58::32::txtM p.2
 |p::q::l=>p.1++58::32::(txtM p.2++44::32::fldTx (q::l))
theorem qIK:∀ l:Es,Lib.join (fldL (l.map (·.1)) (l.map (·.2))) sepC=fldTx l
 |[]=>rfl
 |[p]=>by
  show Lib.join [p.1++colC++txtM p.2] sepC=_;rw[Lib.join_one];simp[fldTx,colC]
 |p::q::l=>by
  have ih:=qIK (q::l);show Lib.join ((p.1++colC++txtM p.2)::(q.1++colC++txtM q.2)::fldL (l.map (·.1)) (l.map (·.2))) sepC=_;have e:∀ (x y:List UInt8) (r:List (List UInt8)),Lib.join (x::y::r) sepC=x++sepC++Lib.join (y::r) sepC:=fun x y r=>by
   simp[Lib.join,List.intercalate,List.intersperse]
  rw[e];have ih':Lib.join ((q.1++colC++txtM q.2)::fldL (l.map (·.1)) (l.map (·.2))) sepC=fldTx (q::l):=ih;rw[ih'];simp[fldTx,colC,sepC]
theorem qHH(k:Int)(l:Es):brM (recT k l)=123::(fldTx l++[125]):=by
 unfold brM;rw[show(recT k l).names.list=l.map (·.1) from qAZ _,show(recT k l).kids.list=l.map (·.2) from qAZ _,qIK];simp
theorem qBa{c:UInt8}(hc:sgnB c=true)(r:List UInt8):endW (c::r):=by
 intro b t e;injection e with e1 e2
 subst e1
 rcases qD5 hc with rfl|rfl|rfl|rfl|rfl|rfl <;> decide
theorem qJ4{n:Nat}{t:TT}(h:WF n t):tokN n t≠[]:=by
 cases n with
 |zero=>exact h.elim
 |succ n =>
  unfold tokN;split
  ·simp
  split
  ·simp
  split
  ·simp
  split <;> simp
theorem qMU{n:Nat}(ih:∀ t,WF n t→∀ r,endW r→Rd (txtM t++r) (tokN n t) r):∀ (l:Es),l≠[]→(∀ p∈l,nameB p.1=true∧WF n p.2)→∀ r,Rd (fldTx l++125::r) (fldW (tokN n) l) (125::r)
 |[],h,_,_=>absurd rfl h
 |[p],_,hp,r=>by
  obtain⟨h1,h2⟩:=hp p (List.mem_cons_self ..);have a:=Rd.name h1 (r:=58::32::(txtM p.2++125::r)) (qBa (by decide) _);have b:=Rd.sign (c:=58) (by decide) (32::(txtM p.2++125::r)) (fun _=>by simp);have c:=(ih p.2 h2 (125::r) (qBa (by decide) _)).blank (qJ4 h2);have:=a.trans (b.trans c)
  simpa [fldTx,fldW] using this
 |p::q::l,_,hp,r=>by
  obtain⟨h1,h2⟩:=hp p (List.mem_cons_self ..);have hq:=qMU ih (q::l) (by simp) (fun x hx=>hp x (List.mem_cons_of_mem _ hx)) r;have a:=Rd.name h1 (r:=58::32::(txtM p.2++44::32::(fldTx (q::l)++125::r))) (qBa (by decide) _);have b:=Rd.sign (c:=58) (by decide) (32::(txtM p.2++44::32::(fldTx (q::l)++125::r))) (fun _=>by simp);have c:=(ih p.2 h2 (44::32::(fldTx (q::l)++125::r)) (qBa (by decide) _)).blank (qJ4 h2);have d:=Rd.sign (c:=44) (by decide) (32::(fldTx (q::l)++125::r)) (fun e=>by cases e);have e:=hq.blank (by cases l <;> simp[fldW]);have:=a.trans (b.trans (c.trans (d.trans e)))
  simpa [fldTx,fldW] using this
theorem qD0(k:Int)(hk:k=1∨k=2∨k=3∨k=4∨k=5∨k=6∨k=8):nameB (wordM k)=true:=by
 rcases hk with rfl|rfl|rfl|rfl|rfl|rfl|rfl <;> decide
theorem qMZ:∀ (n:Nat) (t:TT),WF n t→∀ r,endW r→Rd (txtM t++r) (tokN n t) r
 |0,t,h,_,_=>h.elim
 |n+1,t,h,r,hr=>by
  have ih:=qMZ n
  rcases h with ⟨k,hk,rfl⟩|⟨w,hw,_,rfl⟩|⟨k,x,hk,hx,rfl⟩|⟨k,l,hk,hl,hp,_,rfl⟩
  ·have e1:txtM (leafT k)=wordM k:=by
    rw[qBM];show(if k=9 then _ else if k=7 then _ else if k=8 then _ else wordM k++angL [])=_;rw[if_neg (by omega),if_neg (by omega),if_neg (by omega)];simp[angL]
   have e2:tokN (n+1) (leafT k)=[(1,wordM k)]:=by
    rw[qA9];show(if k=9 then _ else if k=7 then _ else if k=8 then _ else _)=_;rw[if_neg (by omega),if_neg (by omega),if_neg (by omega)]; rfl
   rw[e1,e2];exact Rd.name (qD0 k (by omega)) hr
  ·exact Rd.name hw hr
  ·have e1:txtM (.mk k [] .nil (.mk true [x]))=wordM k++60::(txtM x++[62]):=by
    rw[qBM];show(if k=9 then _ else if k=7 then _ else if k=8 then _ else wordM k++angL [x])=_;rw[if_neg (by omega),if_neg (by omega),if_neg (by omega)];simp[angL]
   have e2:tokN (n+1) (.mk k [] .nil (.mk true [x]))=(1,wordM k)::(4,[60])::(tokN n x++[(4,[62])]):=by
    rw[qA9];show(if k=9 then _ else if k=7 then _ else if k=8 then _ else _)=_;rw[if_neg (by omega),if_neg (by omega),if_neg (by omega)]; rfl
   rw[e1,e2];have a:=Rd.name (qD0 k (by omega)) (r:=60::(txtM x++62::r)) (qBa (by decide) _);have b:=Rd.sign (c:=60) (by decide) (txtM x++62::r) (fun e=>by cases e);have c:=ih x hx (62::r) (qBa (by decide) _);have d:=Rd.sign (c:=62) (by decide) r (fun e=>by cases e);have:=a.trans (b.trans (c.trans d))
   simpa using this
  ·have F:Rd (123::(fldTx l++[125])++r) ((4,[123])::(fldW (tokN n) l++[(4,[125])])) r:=by
    have a:=Rd.sign (c:=123) (by decide) (fldTx l++125::r) (fun e=>by cases e);have d:=Rd.sign (c:=125) (by decide) r (fun e=>by cases e);by_cases h0:l=[]
    ·subst h0;have:=a.trans d
     simpa [fldTx,fldW] using this
    ·have b:=qMU ih l h0 hp r;have:=a.trans (b.trans d)
     simpa using this
   rcases hk with rfl|rfl
   ·have e1:txtM (recT 7 l)=brM (recT 7 l):=by rw[qBM]; rfl
    have e2:tokN (n+1) (recT 7 l)=(4,[123])::(fldW (tokN n) l++[(4,[125])]):=by
     rw[qA9];rw[qEK]; rfl
    rw[e1,e2,qHH];exact F
   ·have e1:txtM (recT 8 l)=wordM 8++32::brM (recT 8 l):=by rw[qBM]; rfl
    have e2:tokN (n+1) (recT 8 l)=(1,wordM 8)::(4,[123])::(fldW (tokN n) l++[(4,[125])]):=by
     rw[qA9];rw[qEK]; rfl
    rw[e1,e2,qHH];have a:=Rd.name (qD0 8 (by omega)) (r:=32::(123::(fldTx l++[125])++r)) (fun b t e=>by injection e with e1 e2; subst e1; decide);have:=a.trans (F.blank (by simp))
    simpa using this
theorem qOR{n:Nat}{t:TT}(h:WF n t):(wordsM (txtM t)).2=4∧(wordsM (txtM t)).1=[]∨(wordsM (txtM t)).2=3∧(wordsM (txtM t)).1=[]∨(wordsM (txtM t)).2=0∧(wordsM (txtM t)).1.map tw=tokN n t:=by
 have R:=qMZ n t h [] (fun b t e=>by cases e);rw[List.append_nil] at R;obtain⟨h1,h2⟩:=R;obtain⟨l,i',e1,e2⟩:=h2 ((txtM t).length+1 - (tokN n t).length) 0 [];rw[show(txtM t).length+1 - (tokN n t).length+(tokN n t).length=(txtM t).length+1 by simp at h1; omega,qII,List.nil_append] at e2;unfold wordsM tokensM;split
 ·rename_i e he;split at he
  ·cases he; exact .inl ⟨rfl,rfl⟩
  ·rw[e2] at he;unfold toksFin at he;split at he
   ·rename_i he2; cases he2
   ·rename_i l' hl';cases hl';split at he
    ·cases he; exact .inr (.inl ⟨rfl,rfl⟩)
    ·cases he
 ·rename_i l' he;split at he
  ·cases he
  ·rw[e2] at he;unfold toksFin at he;split at he
   ·cases he
   ·rename_i l2 hl2;cases hl2;split at he
    ·cases he
    ·cases he; exact .inr (.inr ⟨rfl,e1⟩)
end Go.Proofs.YtnlmlcfipbnpgaaDoor.Ab
set_option maxHeartbeats 4000000
namespace Go.Proofs.YtnlmlcfipbnpgaaDoor.Ab
open Go Go.AI
def Pos(L:List Tok)(s:RS)(ws:List TW):Prop:=s.e=0∧(L.map tw).drop s.p=ws
def advM(s:RS)(k:Nat):RS:={ s with p:=s.p+k }
theorem Pos.adv{L:List Tok}{s:RS}{a b:List TW}(h:Pos L s (a++b)):Pos L (advM s a.length) b:=by
 refine⟨h.1,?_⟩;show(L.map tw).drop (s.p+a.length)=b;rw[← List.drop_drop,h.2,List.drop_left'];rfl
theorem qBL(s:RS)(a b:Nat):advM (advM s a) b=advM s (a+b):=by unfold advM; simp[Nat.add_assoc]
theorem qBx(s:RS):nextM s=advM s 1:=rfl
section
variable {L:List Tok} {s:RS} {k:Int} {x:List UInt8} {w:List TW}
theorem Pos.at(h:Pos L s ((k,x)::w)):∃ t,L[s.p]?=some t∧t.kind=k∧t.text=x:=by
 have h2:((L.map tw).drop s.p)[0]?=some (k,x):=by rw[h.2]; rfl
 rw[List.getElem?_drop,Nat.add_zero,List.getElem?_map] at h2;cases ht:L[s.p]? with
 |none=>rw[ht] at h2; cases h2
 |some t =>
  rw[ht] at h2;have:tw t=(k,x):=Option.some.inj h2;exact⟨t,rfl,congrArg Prod.fst this,congrArg Prod.snd this⟩
theorem Pos.peek(h:Pos L s ((k,x)::w)):(peekM L s).kind=k∧(peekM L s).text=x:=by
 obtain⟨t,h1,h2,h3⟩:=h.at;unfold peekM;rw[if_pos h.1,h1];exact⟨h2,h3⟩
theorem Pos.lt(h:Pos L s ((k,x)::w)):s.p<L.length:=by
 obtain⟨t,h1,_⟩:=h.at;exact(List.getElem?_eq_some_iff.1 h1).1
theorem Pos.next(h:Pos L s ((k,x)::w)):Pos L (nextM s) w:=Pos.adv (a:=[(k,x)]) h
theorem Pos.is(h:Pos L s ((k,x)::w))(k':Int)(y:List UInt8):isM k' L s y=(decide (k=k')&&decide (x=y)):=by
 unfold isM;rw[h.peek.1,h.peek.2]
theorem Pos.take(h:Pos L s ((4,x)::w)):isM 4 L s x=true∧takeM 4 L s x=nextM s:=by
 have:isM 4 L s x=true:=by rw[h.is]; simp
 exact⟨this,by unfold takeM; rw[if_pos this]⟩
theorem Pos.must(h:Pos L s ((4,x)::w)):mustM (takeM 4 L s x) (isM 4 L s x)=nextM s:=by
 rw[h.take.1,h.take.2]; rfl
end
theorem Pos.col{L:List Tok}{s:RS}{nm:List UInt8}{w:List TW}(h:Pos L s ((1,nm)::(4,[58])::w)):colM L s=advM s 2∧(peekM L s).text=nm:=by
 refine⟨?_,h.peek.2⟩;have h1:nmS1 L s=nextM s:=by
  unfold nmS1;rw[h.peek.1]; rfl
 have h2:=h.next;unfold colM;rw[h1,h2.must];rfl
def tailW(sub:TT→List TW):Es→List TW
 |[]=>[]
 |q::l=>(4,[44])::(1,q.1)::(4,[58])::(sub q.2++tailW sub l)
theorem qG4(sub:TT→List TW):∀ (p:List UInt8×TT) (l:Es),fldW sub (p::l)=(1,p.1)::(4,[58])::(sub p.2++tailW sub l)
 |p,[]=>by simp[fldW,tailW]
 |p,q::l=>by
  show((1,p.1)::(4,[58])::sub p.2)++(4,[44])::fldW sub (q::l)=_;rw[qG4 sub q l];simp[tailW]
def KidOK(L:List Tok)(sub:RS→TT×RS)(ok:RS→Prop)(tk:TT→List TW)(t:TT):Prop:=∀ s rest,Pos L s (tk t++rest)→sub s=(t,advM s (tk t).length)∧ok s
theorem qHq{L:List Tok}{sub:RS→TT×RS}{ok:RS→Prop}{tk:TT→List TW}{p:List UInt8×TT}(K:KidOK L sub ok tk p.2){s:RS}{rest:List TW}(h:Pos L s ((1,p.1)::(4,[58])::(tk p.2++rest))) :
  fieldM sub L s=(p,advM s (2+(tk p.2).length))∧ok (colM L s)∧Pos L (advM s (2+(tk p.2).length)) rest:=by
 obtain⟨h1,h2⟩:=h.col;have h3:Pos L (advM s 2) (tk p.2++rest):=Pos.adv (a:=[(1,p.1),(4,[58])]) h;obtain⟨h4,h5⟩:=K _ _ h3;refine⟨?_,by rw[h1]; exact h5,?_⟩
 ·unfold fieldM;rw[h1,h2,h4,qBL]
 ·have:=h3.adv
  rwa [qBL] at this
theorem qJY{L:List Tok}{sub:RS→TT×RS}{ok:RS→Prop}{tk:TT→List TW}:∀ (l:Es),(∀ p∈l,KidOK L sub ok tk p.2)→∀ (f:Nat) (s:RS) (acc:Es) (rest:List TW),(tailW tk l).length<f→Pos L s (tailW tk l++(4,[125])::rest) →
  loopM sub L [125] f s acc=(acc++l,advM s ((tailW tk l).length+1))∧loopOK sub ok L f s
 |[],_,0,s,acc,rest,hf,_=>by omega
 |[],_,f+1,s,acc,rest,hf,h=>by
  have h:Pos L s ((4,[125])::rest):=h;have hi:isM 4 L s [44]=false:=by rw[h.is]; rfl
  refine⟨?_,?_⟩
  ·unfold loopM;rw[if_neg (by rw[hi]; decide),h.must,List.append_nil]; rfl
  ·unfold loopOK;intro e;rw[hi] at e; cases e
 |q::l,K,0,s,acc,rest,hf,_=>by omega
 |q::l,K,f+1,s,acc,rest,hf,h=>by
  have h':Pos L s ((4,[44])::(1,q.1)::(4,[58])::(tk q.2++(tailW tk l++(4,[125])::rest))):=by
   have:=h;simp only[tailW,List.cons_append,List.append_assoc] at this;exact this
  obtain⟨hi,ht⟩:=h'.take;obtain⟨h1,h2,h3⟩:=qHq (K q (List.mem_cons_self ..)) h'.next;have hlen:(tailW tk (q::l)).length=3+(tk q.2).length+(tailW tk l).length:=by simp[tailW]; omega
  obtain⟨h4,h5⟩:=qJY l (fun p hp=>K p (List.mem_cons_of_mem _ hp)) f _ (acc++[q]) rest (by omega) h3;refine⟨?_,?_⟩
  ·unfold loopM;rw[if_pos hi,h1];show loopM sub L [125] f (advM (nextM s) (2+(tk q.2).length)) (acc++[q])=_;rw[h4,qBx,qBL,qBL,List.append_assoc,hlen]
   congr 2
   omega
  ·unfold loopOK;intro _;rw[h1];exact⟨h2,h5⟩
theorem qQU{L:List Tok}{s:RS}{a b:List TW}(h:Pos L s (a++b)):a.length≤L.length:=by
 have:=congrArg List.length h.2;rw[List.length_drop,List.length_map,List.length_append] at this;omega
theorem qQo{L:List Tok}{sub:RS→TT×RS}{ok:RS→Prop}{tk:TT→List TW}(l:Es)(K:∀ p∈l,KidOK L sub ok tk p.2){s:RS}{rest:List TW}(h:Pos L s (fldW tk l++(4,[125])::rest)) :
  rowM sub L [125] s=(l,advM s ((fldW tk l).length+1))∧rowOK sub ok L [125] s:=by
 cases l with
 |nil =>
  have h:Pos L s ((4,[125])::rest):=h;refine⟨?_,fun e=>by rw[h.take.1] at e; cases e⟩;unfold rowM;rw[if_pos h.take.1]; rfl
 |cons p l =>
  rw[qG4] at h ⊢;have h':Pos L s ((1,p.1)::(4,[58])::(tk p.2++(tailW tk l++(4,[125])::rest))):=by
   have:=h;simp only[List.cons_append,List.append_assoc] at this;exact this
  have hi:isM 4 L s [125]=false:=by rw[h'.is]; rfl
  obtain⟨h1,h2,h3⟩:=qHq (K p (List.mem_cons_self ..)) h';have hle:=qQU h3;obtain⟨h4,h5⟩:=qJY l (fun q hq=>K q (List.mem_cons_of_mem _ hq)) (L.length+2) _ [p] rest (by omega) h3;refine⟨?_,fun _=>⟨h2,?_⟩⟩
  ·unfold rowM;rw[if_neg (by rw[hi]; decide),h1];show loopM sub L [125] (L.length+2) (advM s (2+(tk p.2).length)) [p]=_;rw[h4,qBL]
   congr 2
   simp; omega
  ·rw[h1]; exact h5
end Go.Proofs.YtnlmlcfipbnpgaaDoor.Ab
set_option maxHeartbeats 4000000
namespace Go.Proofs.YtnlmlcfipbnpgaaDoor.Ab
open Go Go.AI
theorem qGQ:∀ x:List UInt8,bless x x=false
 |[]=>rfl
 |a::x=>by
  have:=qGQ x;simp only[bless] at this ⊢;simp[this]
theorem qDE:∀ x y:List UInt8,bless x y=true→bless y x=false
 |[],[],h=>by simp[bless] at h
 |[],b::y,_=>by simp[bless]
 |a::x,[],h=>by simp[bless] at h
 |a::x,b::y,h=>by
  have ih:=qDE x y;simp only[bless,Bool.or_eq_true,Bool.and_eq_true,decide_eq_true_eq,beq_iff_eq] at h;have e:bless (b::y) (a::x)=(decide (b<a)||(b==a&&bless y x)):=rfl;rw[e]
  rcases h with h|⟨h1,h2⟩
  ·have n1:¬ b<a:=fun h'=>by have:=UInt8.lt_iff_toNat_lt.1 h; have:=UInt8.lt_iff_toNat_lt.1 h'; omega
   have n2:¬ b=a:=fun h'=>by subst h'; have:=UInt8.lt_iff_toNat_lt.1 h; omega
   simp[n1,n2]
  ·subst h1;have n1:¬ a<a:=fun h'=>by have:=UInt8.lt_iff_toNat_lt.1 h'; omega
   simp[n1,ih h2]
theorem qDl:∀ x y:List UInt8,bless x y=false→bless y x=false→x=y
 |[],[],_,_=>rfl
 |[],b::y,h,_=>by simp[bless] at h
 |a::x,[],_,h=>by simp[bless] at h
 |a::x,b::y,h1,h2=>by
  have e1:bless (a::x) (b::y)=(decide (a<b)||(a==b&&bless x y)):=rfl;have e2:bless (b::y) (a::x)=(decide (b<a)||(b==a&&bless y x)):=rfl;rw[e1,Bool.or_eq_false_iff,decide_eq_false_iff_not] at h1;rw[e2,Bool.or_eq_false_iff,decide_eq_false_iff_not] at h2
  have hab:a=b:=UInt8.toNat_inj.1 (by
   have q1:¬ a.toNat<b.toNat:=fun h=>h1.1 (UInt8.lt_iff_toNat_lt.2 h)
   have q2:¬ b.toNat<a.toNat:=fun h=>h2.1 (UInt8.lt_iff_toNat_lt.2 h)
   omega)
  subst hab;have r1:bless x y=false:=by simpa using h1.2
  have r2:bless y x=false:=by simpa using h2.2
  rw[qDl x y r1 r2]
def adjS(l:Es)(a b:Nat):Prop:=∀ p q,l[a]?=some p→l[b]?=some q→bless q.1 p.1=false
theorem qJb:∀ (i:Nat) (l:Es) (K:Nat),(∀ j,j+1≤K→j+1≠i→adjS l j (j+1))→(i+1≤K→0<i→adjS l (i - 1) (i+1))→∀ j,j+1≤K→adjS (down i l) j (j+1)
 |0,l,K,h1,_,j,hj=>h1 j hj (by omega)
 |i+1,l,K,h1,h2,j,hj=>by
  unfold down;split
  ·rename_i p q hp hq;have li:=(List.getElem?_eq_some_iff.1 hp).1;split
   ·rename_i hb;have g1:∀ k,k≠i→k≠i+1→((l.set (i+1) q).set i p)[k]?=l[k]?:=fun k a b=>by rw[List.getElem?_set_ne (by omega),List.getElem?_set_ne (by omega)]
    have gi:((l.set (i+1) q).set i p)[i]?=some p:=by rw[List.getElem?_set_self (by simp; omega)]
    have gi1:((l.set (i+1) q).set i p)[i+1]?=some q:=by rw[List.getElem?_set_ne (by omega),List.getElem?_set_self (by omega)]
    refine qJb i _ K (fun k hk hki => ?_) (fun hk h0 => ?_) j hj
    ·intro a b ha hb';by_cases e1:k=i
     ·subst e1;rw[gi] at ha; rw[gi1] at hb';cases ha; cases hb';exact qDE _ _ hb
     ·by_cases e2:k=i+1
      ·subst e2;rw[gi1] at ha;rw[g1 _ (by omega) (by omega)] at hb';cases ha;exact h2 (by omega) (by omega) q b (by simpa using hq) hb'
      ·rw[g1 _ e1 e2] at ha;rw[g1 _ (by omega) (by omega)] at hb';exact h1 k hk (by omega) a b ha hb'
    ·intro a b ha hb';rw[g1 _ (by omega) (by omega)] at ha;rw[gi1] at hb';cases hb';exact h1 (i - 1) (by omega) (by omega) a q ha (by rw[show i - 1+1=i by omega]; exact hq)
   ·rename_i hb;by_cases e:j+1=i+1
    ·have:j=i:=by omega
     subst this;intro a b ha hb';rw[hp] at hb'; rw[hq] at ha;cases ha; cases hb';exact Bool.eq_false_iff.2 hb
    ·exact h1 j hj e
  ·rename_i hn;by_cases e:j+1=i+1
   ·have:j=i:=by omega
    subst this;intro a b ha hb';exact absurd ha (fun _=>hn b a hb' ha)
   ·exact h1 j hj e
theorem qJE:∀ (m i:Nat) (l:Es),(∀ j,j+1<i→adjS l j (j+1))→∀ j,j+1<i+m→adjS (sortM m i l) j (j+1)
 |0,i,l,h,j,hj=>h j hj
 |m+1,i,l,h,j,hj=>by
  rw[sortM];exact qJE m (i+1) (down i l) (fun k hk=>qJb i l i (fun k hk hki=>h k (by omega)) (fun hh=>by omega) k (by omega)) j (by omega)
theorem qLq(l:Es)(j:Nat)(hj:j+1<l.length):adjS (sortedM l) j (j+1):=qJE (l.length - 1) 1 l (fun j hj=>by omega) j (by omega)
theorem qHp:∀ (i:Nat) (l:Es) (p:List UInt8×TT),p∈down i l→p∈l
 |0,_,_,h=>h
 |i+1,l,p,h=>by
  unfold down at h;split at h
  ·rename_i a b ha hb;split at h
   ·have h1:=qHp i _ p h
    rcases List.mem_or_eq_of_mem_set h1 with h2|h2
    ·rcases List.mem_or_eq_of_mem_set h2 with h3|h3
     ·exact h3
     ·rw[h3]; exact List.mem_of_getElem? hb
    ·rw[h2]; exact List.mem_of_getElem? ha
   ·exact h
  ·exact h
theorem qGX:∀ (m i:Nat) (l:Es) (p:List UInt8×TT),p∈sortM m i l→p∈l
 |0,_,_,_,h=>h
 |m+1,i,l,p,h=>by
  rw[sortM] at h;exact qHp i l p (qGX m (i+1) _ p h)
theorem qLt{l:Es}(h:strictS l)(i:Nat):down i l=l:=by
 cases i with
 |zero=>rfl
 |succ i =>
  unfold down;split
  ·rename_i p q hp hq;rw[if_neg];rw[qDE _ _ (h i q p hq hp)]; decide
  ·rfl
theorem qF4{l:Es}(h:strictS l):∀ (m i:Nat),sortM m i l=l
 |0,_=>rfl
 |m+1,i=>by rw[sortM,qLt h]; exact qF4 h m (i+1)
theorem qMd{l:Es}(h:strictS l)(i:Nat):adjM l i=false:=by
 cases i with
 |zero=>rfl
 |succ j =>
  show(match l[j]?,l[j+1]? with|some q,some p=>decide (q.1=p.1)|_,_=>false)=false;split
  ·rename_i q p hq hp;rw[decide_eq_false];intro e;have:=h j q p hq hp;rw[e,qGQ] at this;cases this
  ·rfl
theorem qJS{l:Es}(h:strictS l)(b:Bool):∀ n,twM l b n=b
 |0=>rfl
 |n+1=>by
  show(twM l b n||adjM l n)=b;rw[qMd h,Bool.or_false]; exact qJS h b n
theorem qLk{L:List Tok}{sub:RS→TT×RS}{ok:RS→Prop}{tk:TT→List TW}(k:Int)(l:Es)(hl:l.length<20)(hs:strictS l)(K:∀ p∈l,KidOK L sub ok tk p.2){s:RS}{rest:List TW}(h:Pos L s ((4,[123])::(fldW tk l++[(4,[125])]++rest))) :
  recdM sub L k s=(recT k l,advM s ((fldW tk l).length+2))∧recOK sub ok L s:=by
 have ho:opnM L s=advM s 1:=h.must;have h2:Pos L (advM s 1) (fldW tk l++(4,[125])::rest):=by
  have:=h.next
  simpa [qBx] using this
 obtain⟨h3,h4⟩:=qQo l K h2;refine⟨?_,?_⟩
 ·unfold recdM;rw[ho,h3];have hsr:sortedM l=l:=qF4 hs _ _;show(recT k (sortedM l),_)=_;rw[hsr,qJS hs,qBL]
  congr 1
  show advM s (1+((fldW tk l).length+1))=_;rw[show 1+((fldW tk l).length+1)=(fldW tk l).length+2 by omega]
 ·unfold recOK;rw[ho];exact⟨h4,by rw[h3]; exact hl⟩
theorem qD6{L:List Tok}{s:RS}{k:Int}{x:List UInt8}{w:List TW}(h:Pos L s ((k,x)::w))(hb:k=1∨(k=4∧x=[123])){d:Int}(hd:d≤12):hedM d L s=s:=by
 have hbeg:begM (peekM L s)=true:=by
  unfold begM;rw[h.peek.1,h.peek.2]
  rcases hb with rfl|⟨rfl,rfl⟩ <;> rfl
 unfold hedM;rw[hbeg,Bool.true_and,if_neg (by rw[decide_eq_true_eq]; omega)];rfl
theorem qQr{w:List UInt8}(h:w∉keyL):w≠wordM 1∧w≠wordM 2∧w≠wordM 3∧w≠wordM 4∧w≠wordM 5∧w≠wordM 6∧w≠wordM 8:=by
 unfold keyL at h;simp only[List.mem_cons,List.not_mem_nil,or_false,not_or] at h;exact⟨h.1,h.2.1,h.2.2.1,h.2.2.2.1,h.2.2.2.2.1,h.2.2.2.2.2.1,h.2.2.2.2.2.2⟩
theorem qJF(L:List Tok):∀ (n:Nat) (t:TT),WF n t→∀ (m:Nat),n≤m→∀ (d:Int),d+n≤13→KidOK L (oneF L m d) (okF L m d) (tokN n) t
 |0,t,h,_,_,_,_=>h.elim
 |n+1,t,h,0,hm,_,_=>by omega
 |n+1,t,h,m+1,hm,d,hd=>by
  have ih:=fun x hx=>qJF L n x hx m (by omega) (d+1) (by omega)
  have hd12:d≤12:=by omega
  intro s rest P;show oneP (oneF L m (d+1)) d L s=_∧oneOK (oneF L m (d+1)) (okF L m (d+1)) d L s
  rcases h with ⟨k,hk,rfl⟩|⟨w,hw,hne,rfl⟩|⟨k,x,hk,hx,rfl⟩|⟨k,l,hk,hl,hp,hs,rfl⟩
  ·have e2:tokN (n+1) (leafT k)=[(1,wordM k)]:=by
    rw[qA9];show(if k=9 then _ else if k=7 then _ else if k=8 then _ else _)=_;rw[if_neg (by omega),if_neg (by omega),if_neg (by omega)]; rfl
   rw[e2] at P ⊢;have P:Pos L s ((1,wordM k)::rest):=P;have hh:=qD6 P (.inl rfl) hd12;have kw:∀ a:Int,(a=4∨a=5∨a=6∨a=8)→wordM k≠wordM a:=fun a ha=>by
    rcases hk with rfl|rfl|rfl <;> rcases ha with rfl|rfl|rfl|rfl <;> decide
   refine⟨?_,?_⟩
   ·unfold oneP;rw[hh,if_neg (fun h=>h P.1),P.peek.1,P.peek.2,if_neg (by decide)];unfold wrdT
    rcases hk with rfl|rfl|rfl
    ·rw[if_pos rfl]; rfl
    ·rw[if_neg (by decide),if_pos rfl]; rfl
    ·rw[if_neg (by decide),if_neg (by decide),if_pos rfl]; rfl
   ·intro _;rw[P.peek.1,P.peek.2];refine⟨fun e=>(by cases e),fun _=>⟨fun e=>absurd e (kw 8 (by omega)),fun e => ?_⟩⟩
    rcases e with e|e|e
    ·exact absurd e (kw 4 (by omega))
    ·exact absurd e (kw 5 (by omega))
    ·exact absurd e (kw 6 (by omega))
  ·have P:Pos L s ((1,w)::rest):=P;have hh:=qD6 P (.inl rfl) hd12;obtain⟨k1,k2,k3,k4,k5,k6,k8⟩:=qQr hne;refine⟨?_,?_⟩
   ·unfold oneP;rw[hh,if_neg (fun h=>h P.1),P.peek.1,P.peek.2,if_neg (by decide)];unfold wrdT;rw[if_neg k1,if_neg k2,if_neg k3,if_neg k8,if_neg k4,if_neg k5,if_neg k6];rfl
   ·intro _;rw[P.peek.1,P.peek.2];refine⟨fun e=>(by cases e),fun _=>⟨fun e=>absurd e k8,fun e => ?_⟩⟩
    rcases e with e|e|e
    ·exact absurd e k4
    ·exact absurd e k5
    ·exact absurd e k6
  ·have e2:tokN (n+1) (.mk k [] .nil (.mk true [x]))=(1,wordM k)::(4,[60])::(tokN n x++[(4,[62])]):=by
    rw[qA9];show(if k=9 then _ else if k=7 then _ else if k=8 then _ else _)=_;rw[if_neg (by omega),if_neg (by omega),if_neg (by omega)]; rfl
   rw[e2] at P ⊢;have P:Pos L s ((1,wordM k)::(4,[60])::(tokN n x++(4,[62])::rest)):=by simpa using P
   have hh:=qD6 P (.inl rfl) hd12;have P1:=P.next;have ha:angM L (nextM s)=nextM (nextM s):=P1.must;have P2:=P1.next;obtain⟨h1,h2⟩:=ih x hx _ _ P2;have P3:=P2.adv;have he:engM L (advM (nextM (nextM s)) (tokN n x).length)=nextM (advM (nextM (nextM s)) (tokN n x).length):=P3.must;have kw:∀ a:Int,(a=1∨a=2∨a=3∨a=8)→wordM k≠wordM a:=fun a ha=>by
    rcases hk with rfl|rfl|rfl <;> rcases ha with rfl|rfl|rfl|rfl <;> decide
   refine⟨?_,?_⟩
   ·unfold oneP;rw[hh,if_neg (fun h=>h P.1),P.peek.1,P.peek.2,if_neg (by decide)];unfold wrdT;rw[if_neg (kw 1 (by omega)),if_neg (kw 2 (by omega)),if_neg (kw 3 (by omega)),if_neg (kw 8 (by omega))];have fin:ofM (oneF L m (d+1)) L k (nextM s)=(.mk k [] .nil (.mk true [x]),advM s ((1,wordM k)::(4,[60])::(tokN n x++[((4:Int),([62]:List UInt8))])).length):=by
     unfold ofM;rw[ha,h1];show(_,engM L (advM (nextM (nextM s)) (tokN n x).length))=_;rw[he,qBx,qBx,qBx,qBL,qBL,qBL]
     congr 2
     simp; omega
    rcases hk with rfl|rfl|rfl
    ·rw[if_pos rfl]; exact fin
    ·rw[if_neg (by decide),if_pos rfl]; exact fin
    ·rw[if_neg (by decide),if_neg (by decide),if_pos rfl]; exact fin
   ·intro _;rw[P.peek.1,P.peek.2,hh];refine⟨fun e=>(by cases e),fun _=>⟨fun e=>absurd e (kw 8 (by omega)),fun _ => ?_⟩⟩;rw[ha]; exact h2
  ·have K:∀ p∈l,KidOK L (oneF L m (d+1)) (okF L m (d+1)) (tokN n) p.2:=fun p hpl=>ih p.2 (hp p hpl).2
   rcases hk with rfl|rfl
   ·have e2:tokN (n+1) (recT 7 l)=(4,[123])::(fldW (tokN n) l++[(4,[125])]):=by
     rw[qA9,qEK]; rfl
    rw[e2] at P ⊢;have hh:=qD6 P (.inr ⟨rfl,rfl⟩) hd12;obtain⟨h1,h2⟩:=qLk 7 l hl hs K P;refine⟨?_,?_⟩
    ·unfold oneP;rw[hh,if_neg (fun h=>h P.1),P.peek.1,if_pos rfl,h1]
     congr 2
     simp
    ·intro _;rw[P.peek.1,hh];exact⟨fun _=>h2,fun e=>absurd rfl e⟩
   ·have e2:tokN (n+1) (recT 8 l)=(1,wordM 8)::(4,[123])::(fldW (tokN n) l++[(4,[125])]):=by
     rw[qA9,qEK]; rfl
    rw[e2] at P ⊢;have hh:=qD6 P (.inl rfl) hd12;have P1:=P.next;obtain⟨h1,h2⟩:=qLk 8 l hl hs K P1;refine⟨?_,?_⟩
    ·unfold oneP;rw[hh,if_neg (fun h=>h P.1),P.peek.1,P.peek.2,if_neg (by decide)];unfold wrdT;rw[if_neg (by decide),if_neg (by decide),if_neg (by decide),if_pos rfl,h1,qBx,qBL]
     congr 2
     simp; omega
    ·intro _;rw[P.peek.1,P.peek.2,hh];refine⟨fun e=>(by cases e),fun _=>⟨fun _=>h2,fun e => ?_⟩⟩
     rcases e with e|e|e <;> exact absurd e (by decide)
end Go.Proofs.YtnlmlcfipbnpgaaDoor.Ab
set_option maxHeartbeats 4000000
namespace Go.Proofs.YtnlmlcfipbnpgaaDoor.Ab
open Go Go.AI
theorem qCy:∀ (n:Nat) (s acc:List UInt8) (i:Nat),s.length≤n→(textGo s acc i).t.kind≠1
 |_,[],acc,i,_=>by show(0:Int)≠1; decide
 |_,[c],acc,i,_=>by
  unfold textGo;split
  ·show(0:Int)≠1; decide
  split
  ·split
   ·show(0:Int)≠1; decide
   ·show(2:Int)≠1; decide
  ·show(0:Int)≠1; decide
 |0,c::d::s,acc,i,h=>by simp at h
 |n+1,c::d::s,acc,i,h=>by
  have h:s.length+2≤n+1:=h;unfold textGo;split
  ·show(0:Int)≠1; decide
  split
  ·split
   ·show(0:Int)≠1; decide
   ·show(2:Int)≠1; decide
  split
  ·split
   ·show(0:Int)≠1; decide
   ·exact qCy n s _ _ (by omega)
  ·exact qCy n (d::s) _ _ (by show s.length+1≤n; omega)
theorem qL0(s:List UInt8)(h:(oneM s).t.kind=1):nameB (oneM s).t.text=true:=by
 cases s with
 |nil=>exact absurd h (by show ¬ (0:Int)=1; decide)
 |cons c r =>
  have e:oneM (c::r)=if isLetter c.toNat=true then wrdM (c::r) else if numHead (c::r)=true then numberM (c::r) else if c.toNat=34 then textM (c::r) else signM (c::r):=rfl
  rw[e] at h ⊢;split at h
  ·rename_i hl;rw[if_pos hl];unfold wrdM at h ⊢;split at h
   ·exact absurd h (by show ¬ (0:Int)=1; decide)
   ·rename_i h16;rw[if_neg h16];show nameB ((c::r).take (runLen isWord (c::r)))=true;have hw:isWord c.toNat=true:=by unfold isWord; rw[hl]; rfl
    have hr:runLen isWord (c::r)=runLen isWord r+1:=by simp[runLen,hw]
    have ha:=qJX isWord (c::r);rw[hr] at ha h16 ⊢;rw[List.take_succ_cons] at ha ⊢;unfold nameB;simp only[Bool.and_eq_true,List.all_eq_true,Nat.ble_eq];refine⟨⟨hl,ha⟩,?_⟩;rw[List.length_cons,List.length_take];omega
  ·split at h
   ·exfalso;unfold numberM at h;split at h
    ·exact absurd h (by show ¬ (0:Int)=1; decide)
    split at h
    ·exact absurd h (by show ¬ (0:Int)=1; decide)
    ·exact absurd h (by show ¬ (3:Int)=1; decide)
   ·split at h
    ·exact absurd h (qCy _ _ _ _ (Nat.le_refl _))
    ·exfalso;unfold signM at h;split at h
     ·exact absurd h (by show ¬ (4:Int)=1; decide)
     split at h
     ·exact absurd h (by show ¬ (4:Int)=1; decide)
     ·dsimp only at h;split at h
      ·exact absurd h (by show ¬ (4:Int)=1; decide)
      ·exact absurd h (by show ¬ (0:Int)=1; decide)
def validL(L:List Tok):Prop:=∀ t∈L,t.kind=1→nameB t.text=true
theorem qFy:∀ (f:Nat) (s:List UInt8) (i:Nat) (acc l:List Tok),validL acc→toksGo f s i acc = .ok l→validL l
 |0,s,i,acc,l,h,e=>by cases e; exact h
 |f+1,s,i,acc,l,h,e=>by
  rw[toksGo] at e;dsimp only at e;split at e
  ·cases e; exact h
  ·rename_i c r hs;split at e
   ·refine qFy f _ _ _ l ?_ e;intro t ht hk
    rcases List.mem_append.1 ht with h1|h1
    ·exact h t h1 hk
    ·rw[List.mem_singleton.1 h1] at hk ⊢;exact qL0 _ hk
   ·cases e
theorem qEZ(src:List UInt8):validL (wordsM src).1:=by
 unfold wordsM;split
 ·intro t ht; cases ht
 ·rename_i l he;unfold tokensM at he;split at he
  ·cases he
  ·unfold toksFin at he;split at he
   ·cases he
   ·rename_i l2 h2;split at he
    ·cases he
    ·cases he;exact qFy _ _ _ _ _ (fun t ht=>by cases ht) h2
def Good(s:RS):Prop:=s.e=0∧s.tw=false
theorem qBC{s:RS}{b:Bool}(h:Good (mustM s b)):b=true∧Good s:=by
 obtain⟨h1,h2⟩:=qDC h.1;rw[h1] at h;exact⟨h1,h⟩
theorem qBq{k:Int}{L:List Tok}{s:RS}{x:List UInt8}(h:Good (takeM k L s x)):Good s:=by
 unfold takeM at h;split at h
 ·exact h
 ·exact h
theorem qOC{L:List Tok}{s:RS}(h:Good (colM L s)):Good s∧(peekM L s).kind=1:=by
 have h1:=qBq (qBC h).2;have h2:Good (mustM s (decide ((peekM L s).kind=1))):=h1;obtain⟨h3,h4⟩:=qBC h2;exact⟨h4,of_decide_eq_true h3⟩
theorem qF3{L:List Tok}(v:validL L){s:RS}(h:(peekM L s).kind=1):nameB (peekM L s).text=true:=by
 obtain⟨h1,h2⟩:=qBr (L:=L) (s:=s) (by rw[h]; decide);unfold peekM at h ⊢;rw[if_pos h1,List.getElem?_eq_getElem h2] at h ⊢;exact v _ (List.getElem_mem h2) h
def SubWF(n:Nat)(sub:RS→TT×RS)(ok:RS→Prop):Prop:=∀ s,ok s→Good (sub s).2→Good s∧WF n (sub s).1
def QE(n:Nat)(p:List UInt8×TT):Prop:=nameB p.1=true∧WF n p.2
theorem qEt{n:Nat}{L:List Tok}{sub:RS→TT×RS}{ok:RS→Prop}(v:validL L)(S:SubWF n sub ok){s:RS}(o:ok (colM L s))(h:Good (fieldM sub L s).2):Good s∧QE n (fieldM sub L s).1:=by
 obtain⟨h1,h2⟩:=S _ o h;obtain⟨h3,h4⟩:=qOC h1;exact⟨h3,qF3 v h4,h2⟩
theorem qCD{n:Nat}{L:List Tok}{sub:RS→TT×RS}{ok:RS→Prop}(v:validL L)(S:SubWF n sub ok)(x:List UInt8):∀ (f:Nat) (s:RS) (acc:Es),loopOK sub ok L f s→Good (loopM sub L x f s acc).2→Good s
 |0,s,acc,_,h=>h
 |f+1,s,acc,lo,h=>by
  unfold loopM at h;by_cases hi:isM 4 L s [44]=true
  ·rw[if_pos hi] at h;obtain⟨o1,o2⟩:=lo hi;exact(qEt v S o1 (qCD v S x f _ _ o2 h)).1
  ·rw[if_neg hi] at h;exact qBq (qBC h).2
theorem qJ5{n:Nat}{L:List Tok}{sub:RS→TT×RS}{ok:RS→Prop}(v:validL L)(S:SubWF n sub ok)(x:List UInt8):∀ (f:Nat) (s:RS) (acc:Es),loopOK sub ok L f s→Good (loopM sub L x f s acc).2→(∀ p∈acc,QE n p)→∀ p∈(loopM sub L x f s acc).1,QE n p
 |0,s,acc,_,h,ha=>ha
 |f+1,s,acc,lo,h,ha=>by
  unfold loopM at h ⊢;by_cases hi:isM 4 L s [44]=true
  ·rw[if_pos hi] at h ⊢;obtain⟨o1,o2⟩:=lo hi;have h1:=qCD v S x f _ _ o2 h;have h2:=(qEt v S o1 h1).2;refine qJ5 v S x f _ _ o2 h fun p hp => ?_
   rcases List.mem_append.1 hp with h3|h3
   ·exact ha p h3
   ·rw[List.mem_singleton.1 h3]; exact h2
  ·rw[if_neg hi] at h ⊢;exact ha
theorem qMg{n:Nat}{L:List Tok}{sub:RS→TT×RS}{ok:RS→Prop}(v:validL L)(S:SubWF n sub ok)(x:List UInt8){s:RS}(ro:rowOK sub ok L x s)(h:Good (rowM sub L x s).2):Good s∧∀ p∈(rowM sub L x s).1,QE n p:=by
 unfold rowM at h ⊢;cases hx:isM 4 L s x with
 |true =>
  rw[hx,if_pos rfl] at h;rw[if_pos rfl];exact⟨h,fun p hp=>by cases hp⟩
 |false =>
  rw[hx,if_neg (by decide)] at h;rw[if_neg (by decide)];obtain⟨o1,o2⟩:=ro hx;have h1:=qCD v S x _ _ _ o2 h;obtain⟨h2,h3⟩:=qEt v S o1 h1;exact⟨h2,qJ5 v S x _ _ _ o2 h fun p hp=>by rw[List.mem_singleton.1 hp]; exact h3⟩
theorem qDv:∀ (n:Nat) (l:Es) (b:Bool),twM l b n=false→b=false∧∀ i,i<n→adjM l i=false
 |0,l,b,h=>⟨h,fun i hi=>by omega⟩
 |n+1,l,b,h=>by
  have h:(twM l b n||adjM l n)=false:=h;rw[Bool.or_eq_false_iff] at h;obtain⟨h1,h2⟩:=qDv n l b h.1;refine⟨h1,fun i hi => ?_⟩;by_cases e:i=n
  ·rw[e]; exact h.2
  ·exact h2 i (by omega)
theorem qM4{l:Es}(h:∀ i,i<l.length→adjM l i=false)(ho:∀ j,j+1<l.length→adjS l j (j+1)):strictS l:=by
 intro i p q hp hq;have hl:i+1<l.length:=(List.getElem?_eq_some_iff.1 hq).1;have h1:=ho i hl p q hp hq;have h2:=h (i+1) hl;have h3:(match l[i]?,l[i+1]? with|some q,some p=>decide (q.1=p.1)|_,_=>false)=false:=h2;rw[hp,hq] at h3;have hne:p.1≠q.1:=of_decide_eq_false h3;cases hb:bless p.1 q.1 with
 |true=>rfl
 |false=>exact absurd (qDl _ _ hb h1) hne
theorem qLp{n:Nat}{L:List Tok}{sub:RS→TT×RS}{ok:RS→Prop}(v:validL L)(S:SubWF n sub ok)(k:Int)(hk:k=7∨k=8){s:RS}(ro:recOK sub ok L s)(h:Good (recdM sub L k s).2):Good s∧WF (n+1) (recdM sub L k s).1:=by
 obtain⟨h1,h2⟩:=qDv _ _ _ h.2;have hg:Good (rowM sub L [125] (opnM L s)).2:=⟨h.1,h1⟩;obtain⟨h3,h4⟩:=qMg v S [125] ro.1 hg;refine⟨qBq (qBC h3).2,.inr (.inr (.inr ⟨k,sortedM (rowM sub L [125] (opnM L s)).1,hk,?_,fun p hp=>h4 p (qGX _ _ _ p hp),qM4 h2 (fun j hj=>qLq _ j (by rw[qCQ] at hj; exact hj)),rfl⟩))⟩;rw[qCQ];exact ro.2
theorem qLS{n:Nat}{L:List Tok}{sub:RS→TT×RS}{ok:RS→Prop}(S:SubWF n sub ok)(k:Int)(hk:k=4∨k=5∨k=6){s:RS}(o:ok (angM L s))(h:Good (ofM sub L k s).2):Good s∧WF (n+1) (ofM sub L k s).1:=by
 have h1:Good (sub (angM L s)).2:=qBq (qBC h).2;obtain⟨h2,h3⟩:=S _ o h1;exact⟨qBq (qBC h2).2,.inr (.inr (.inl ⟨k,_,hk,h3,rfl⟩))⟩
theorem qRM{n:Nat}{L:List Tok}{sub:RS→TT×RS}{ok:RS→Prop}(v:validL L)(S:SubWF n sub ok)(w:List UInt8)(hw:nameB w=true){s:RS}(o:wrdOK sub ok L w s)(h:Good (wrdT sub L w s).2):Good s∧WF (n+1) (wrdT sub L w s).1:=by
 unfold wrdT at h ⊢;by_cases k1:w=wordM 1
 ·rw[if_pos k1] at h ⊢; exact⟨h,.inl ⟨1,by omega,rfl⟩⟩
 rw[if_neg k1] at h ⊢;by_cases k2:w=wordM 2
 ·rw[if_pos k2] at h ⊢; exact⟨h,.inl ⟨2,by omega,rfl⟩⟩
 rw[if_neg k2] at h ⊢;by_cases k3:w=wordM 3
 ·rw[if_pos k3] at h ⊢; exact⟨h,.inl ⟨3,by omega,rfl⟩⟩
 rw[if_neg k3] at h ⊢;by_cases k8:w=wordM 8
 ·rw[if_pos k8] at h ⊢; exact qLp v S 8 (.inr rfl) (o.1 k8) h
 rw[if_neg k8] at h ⊢;by_cases k4:w=wordM 4
 ·rw[if_pos k4] at h ⊢; exact qLS S 4 (by omega) (o.2 (.inl k4)) h
 rw[if_neg k4] at h ⊢;by_cases k5:w=wordM 5
 ·rw[if_pos k5] at h ⊢; exact qLS S 5 (by omega) (o.2 (.inr (.inl k5))) h
 rw[if_neg k5] at h ⊢;by_cases k6:w=wordM 6
 ·rw[if_pos k6] at h ⊢; exact qLS S 6 (by omega) (o.2 (.inr (.inr k6))) h
 rw[if_neg k6] at h ⊢;refine⟨h,.inr (.inl ⟨w,hw,?_,rfl⟩)⟩;unfold keyL;simp only[List.mem_cons,List.not_mem_nil,or_false,not_or];exact⟨k1,k2,k3,k4,k5,k6,k8⟩
theorem qIH{n:Nat}{L:List Tok}{sub:RS→TT×RS}{ok:RS→Prop}(v:validL L)(S:SubWF n sub ok)(d:Int){s:RS}(o:oneOK sub ok d L s)(h:Good (oneP sub d L s).2):Good s∧WF (n+1) (oneP sub d L s).1∧d≤12:=by
 unfold oneP at h ⊢;by_cases he:(hedM d L s).e=0
 ·obtain⟨h1,h2,h3,h4⟩:=qC8 he;obtain⟨o1,o2⟩:=o he;rw[if_neg (fun h=>h he)] at h ⊢;rw[h1] at h o1 o2 ⊢;by_cases hk:(peekM L s).kind=4
  ·rw[if_pos hk] at h ⊢;obtain⟨h5,h6⟩:=qLp v S 7 (.inl rfl) (o1 hk) h;exact⟨h5,h6,h4⟩
  ·rw[if_neg hk] at h ⊢;have hk1:(peekM L s).kind=1:=by
    unfold begM at h2;rw[decide_eq_false hk,Bool.false_and,Bool.or_false,decide_eq_true_eq] at h2;exact h2
   obtain⟨h5,h6⟩:=qRM v S _ (qF3 v hk1) (o2 hk) h;exact⟨h5,h6,h4⟩
 ·rw[if_pos he] at h;exact absurd h.1 he
theorem qGI{L:List Tok}(v:validL L):∀ (m:Nat) (d:Int),d+m=14→∀ s,okF L m d s→Good (oneF L m d s).2→Good s∧WF (m - 1) (oneF L m d s).1
 |0,d,hd,s,o,h=>o.elim
 |1,d,hd,s,o,h=>by
  have:=(qIH (n:=0) v (sub:=oneF L 0 (d+1)) (ok:=okF L 0 (d+1)) (fun s o _=>o.elim) d o h).2.2;omega
 |m+2,d,hd,s,o,h=>by
  obtain⟨h1,h2,h3⟩:=qIH (n:=m) v (sub:=oneF L (m+1) (d+1)) (ok:=okF L (m+1) (d+1)) (fun s o h=>qGI v (m+1) (d+1) (by omega) s o h) d o h;exact⟨h1,h2⟩
end Go.Proofs.YtnlmlcfipbnpgaaDoor.Ab
set_option maxHeartbeats 4000000
namespace Go.Proofs.YtnlmlcfipbnpgaaDoor.Ab
open Go Go.AI
theorem qGn{src:List UInt8}{e:Int}(he:e≠0)(h1:(wordsM src).1=[])(h2:(wordsM src).2=e):typeOK src∧typeE src=e:=by
 have hs:s0M src=⟨0,e,false⟩:=by rw[← h2]
 have hh:hedM 1 [] ⟨0,e,false⟩=⟨0,e,false⟩:=by
  have hp:peekM [] ⟨0,e,false⟩=Tok.zero:=by unfold peekM; rw[if_neg he]
  unfold hedM;rw[hp];show mustM ⟨0,e,false⟩ false=_;unfold mustM failM;rw[if_neg (by decide),if_neg he]
 refine⟨?_,?_⟩
 ·unfold typeOK;rw[hs,h1];intro h;rw[hh] at h;exact absurd h he
 ·unfold typeE typeR;rw[hs,h1];show errM (endM [] (oneP (oneF [] 12 (1+1)) 1 [] ⟨0,e,false⟩).2)=e;unfold oneP;rw[hh,if_pos he];show errM ⟨0,e,false⟩=e;unfold errM;rw[if_pos he]
theorem qO9{t:TT}(h:WF 12 t):typeOK (txtM t)∧(typeE (txtM t)=4∨typeE (txtM t)=3∨(typeE (txtM t)=0∧typeM (txtM t)=t)):=by
 rcases qOR h with ⟨h1,h2⟩|⟨h1,h2⟩|⟨h1,h2⟩
 ·obtain⟨h3,h4⟩:=qGn (by decide) h2 h1;exact⟨h3,.inl h4⟩
 ·obtain⟨h3,h4⟩:=qGn (by decide) h2 h1;exact⟨h3,.inr (.inl h4)⟩
 ·have P:Pos (wordsM (txtM t)).1 (s0M (txtM t)) (tokN 12 t++[]):=⟨h1,by rw[List.append_nil]; show((wordsM (txtM t)).1.map tw).drop 0=_; rw[List.drop_zero,h2]⟩;obtain⟨h3,h4⟩:=qJF (wordsM (txtM t)).1 12 t h 13 (by decide) 1 (by decide) _ _ P;have hl:(wordsM (txtM t)).1.length=(tokN 12 t).length:=by rw[← h2,List.length_map]
  have hE:typeE (txtM t)=0:=by
   unfold typeE typeR;rw[h3];unfold endM;rw[decide_eq_true (show(wordsM (txtM t)).1.length≤(advM (s0M (txtM t)) (tokN 12 t).length).p by show _≤0+(tokN 12 t).length; omega)];unfold mustM errM;rw[if_pos rfl,if_neg (fun hh=>hh h1)];rfl
  refine⟨h4,.inr (.inr ⟨hE,?_⟩)⟩;unfold typeM;rw[if_pos hE];unfold typeR;rw[h3]
theorem qH6{L:List Tok}{s:RS}(h:errM (endM L s)=0):Good s:=by
 unfold errM at h;split at h
 ·rename_i he; exact absurd h he
 ·rename_i he;have he:(endM L s).e=0:=Decidable.byContradiction he;have h1:=(qDC he).1;unfold endM at h he;rw[h1] at h he;split at h
  ·cases h
  ·rename_i ht;have ht':¬ s.tw=true:=ht;exact⟨he,by simpa using ht'⟩
theorem qGH{src:List UInt8}(o:typeOK src)(h:typeE src=0):WF 12 (typeM src):=by
 have hg:=qH6 h;have:=(qGI (qEZ src) 13 1 (by decide) _ o hg).2;unfold typeM;rw[if_pos h];exact this
def wt1(t:Tok):Nat:=if t.kind=1∨(t.kind=4∧(t.text=[44]∨t.text=[58])) then 1 else 0
def wsum(L:List Tok):Nat:=(L.map wt1).sum
theorem qDc(L:List Tok)(i:Nat)(t:Tok)(h:L[i]?=some t):wsum (L.drop i)=wt1 t+wsum (L.drop (i+1)):=by
 obtain⟨h1,h2⟩:=List.getElem?_eq_some_iff.1 h;unfold wsum;rw[List.drop_eq_getElem_cons h1,h2];simp
theorem qJ1(L:List Tok):∀ (k i:Nat),wsum (L.drop (i+k))≤wsum (L.drop i)
 |0,i=>Nat.le_refl _
 |k+1,i=>by
  have ih:=qJ1 L k (i+1);rw[show i+1+k=i+(k+1) by omega] at ih;cases ht:L[i]? with
  |some t=>rw[qDc L i t ht]; omega
  |none =>
   have h1:L.length≤i:=List.getElem?_eq_none_iff.1 ht;rw[List.drop_eq_nil_of_le (by omega:L.length≤i+(k+1))];exact Nat.zero_le _
theorem qGb(L:List Tok){i j:Nat}(h:i≤j):wsum (L.drop j)≤wsum (L.drop i):=by
 have:=qJ1 L (j - i) i
 rwa [show i+(j - i)=j by omega] at this
theorem qO8{k:Int}{L:List Tok}{s:RS}{x:List UInt8}(hk:k≠0)(h:isM k L s x=true)(hw:∀ t:Tok,t.kind=k→t.text=x→wt1 t=1):wsum (L.drop s.p)=1+wsum (L.drop (s.p+1)):=by
 obtain⟨h1,h2⟩:=qBj hk h;have ht:L[s.p]?=some L[s.p]:=List.getElem?_eq_getElem h2;unfold isM peekM at h;rw[if_pos h1,ht,Option.getD_some,Bool.and_eq_true,decide_eq_true_eq,decide_eq_true_eq] at h;rw[qDc L _ _ ht,hw _ h.1 h.2]
theorem qRL{L:List Tok}{s:RS}(h:(colM L s).e=0):wsum (L.drop (colM L s).p)+2≤wsum (L.drop s.p):=by
 obtain⟨h1,h2⟩:=qDC h;have hc:colM L s=nextM (nmS1 L s):=by
  unfold colM takeM;rw[h1]; rfl
 have h3:(nmS1 L s).e=0:=by
  have:(takeM 4 L (nmS1 L s) [58]).e=0:=h2;unfold takeM at this;rw[h1] at this;exact this
 obtain⟨h4,h5⟩:=qDC (show(mustM s (decide ((peekM L s).kind=1))).e=0 from h3);have hk:=of_decide_eq_true h4;obtain⟨h6,h7⟩:=qBr (L:=L) (s:=s) (by rw[hk]; decide);have ht:L[s.p]?=some L[s.p]:=List.getElem?_eq_getElem h7;unfold peekM at hk;rw[if_pos h6,ht,Option.getD_some] at hk;have w1:=qDc L _ _ ht;have:wt1 L[s.p]=1:=by unfold wt1; rw[if_pos (.inl hk)]
 have w2:=qO8 (by decide) h1 (fun t a b=>by unfold wt1; rw[if_pos (.inr ⟨a,.inr b⟩)]);rw[qCH] at w2;have hp:(colM L s).p=s.p+2:=by rw[hc]; show(nmS1 L s).p+1=_; rw[qCH]
 rw[hp];show wsum (L.drop (s.p+1+1))+2≤_;omega
def Eb(sub:RS→TT×RS):Prop:=∀ s,(sub s).2.e=0→s.e=0
theorem qQ9(sub:RS→TT×RS)(d:Int)(L:List Tok):Eb (oneP sub d L):=by
 intro s h;by_cases he:(hedM d L s).e=0
 ·exact(qC8 he).2.2.1
 ·unfold oneP at h;rw[if_pos he] at h;exact absurd h he
theorem qJs(L:List Tok):∀ (m:Nat) (d:Int),Eb (oneF L m d)
 |0,d=>fun s h=>h
 |m+1,d=>qQ9 _ d L
def phi(L:List Tok)(s:RS):Nat:=if s.e=0 then wsum (L.drop s.p)+2 else 0
theorem qIL{L:List Tok}{sub:RS→TT×RS}(inv:Inv L sub)(eb:Eb sub)(x:List UInt8):∀ (f:Nat) (s:RS) (acc:Es),I1 L s→(loopM sub L x f s acc).1.length*3≤acc.length*3+phi L s
 |0,s,acc,h=>by show acc.length*3≤_; omega
 |f+1,s,acc,h=>by
  unfold loopM;by_cases hi:isM 4 L s [44]=true
  ·rw[if_pos hi];obtain⟨h1,h2⟩:=qBj (by decide) hi;have hn:(nextM s).p≤L.length:=h2;obtain⟨h3,h4⟩:=qBo inv hn;have ih:=qIL inv eb x f _ (acc++[(fieldM sub L (nextM s)).1]) h3;have w:=qO8 (by decide) hi (fun t a b=>by unfold wt1; rw[if_pos (.inr ⟨a,.inl b⟩)]);have hphi:phi L s=wsum (L.drop s.p)+2:=by unfold phi; rw[if_pos h1]
   have hacc:(acc++[(fieldM sub L (nextM s)).1]).length=acc.length+1:=by simp
   rw[hacc] at ih;have:phi L (fieldM sub L (nextM s)).2+3≤phi L s:=by
    unfold phi;rw[if_pos h1];by_cases he:(fieldM sub L (nextM s)).2.e=0
    ·rw[if_pos he];have hc:(colM L (nextM s)).e=0:=eb _ he;have w2:=qRL hc;obtain⟨hi1,_⟩:=qFl hn;have hm:=(inv _ hi1).2;have w3:=qGb L (show(colM L (nextM s)).p≤(fieldM sub L (nextM s)).2.p from hm);have:(nextM s).p=s.p+1:=rfl;rw[this] at w2;omega
    ·rw[if_neg he]; omega
   omega
  ·rw[if_neg hi];show acc.length*3≤_;omega
theorem row_len{L:List Tok}{sub:RS→TT×RS}(inv:Inv L sub)(eb:Eb sub)(x:List UInt8){s:RS}(h:s.p≤L.length)(hw:wsum L≤52):(rowM sub L x s).1.length<20:=by
 unfold rowM;split
 ·show 0<20; decide
 ·obtain⟨h3,h4⟩:=qBo inv h;have:=qIL inv eb x (L.length+2) _ [(fieldM sub L s).1] h3;have hp:phi L (fieldM sub L s).2≤54:=by
   unfold phi;split
   ·have:=qGb L (Nat.zero_le (fieldM sub L s).2.p);rw[List.drop_zero] at this;omega
   ·omega
  have:[(fieldM sub L s).1].length=1:=rfl;omega
theorem qHJ{L:List Tok}{sub:RS→TT×RS}{ok:RS→Prop}(inv:Inv L sub)(ho:∀ s,I1 L s→ok s):∀ (f:Nat) (s:RS),I1 L s→loopOK sub ok L f s
 |0,_,_=>trivial
 |f+1,s,h=>by
  intro hi;have hn:(nextM s).p≤L.length:=(qBj (by decide) hi).2;exact⟨ho _ (qFl hn).1,qHJ inv ho f _ (qBo inv hn).1⟩
theorem qJK{L:List Tok}{sub:RS→TT×RS}{ok:RS→Prop}(hw:wsum L≤52)(inv:Inv L sub)(eb:Eb sub)(ho:∀ s,I1 L s→ok s){s:RS}(h:s.p≤L.length):recOK sub ok L s :=
 ⟨fun _=>⟨ho _ (qFl (qFI h)).1,qHJ inv ho _ _ (qBo inv (qFI h)).1⟩,row_len inv eb [125] (qFI h) hw⟩
theorem qJm{L:List Tok}{sub:RS→TT×RS}{ok:RS→Prop}(hw:wsum L≤52)(inv:Inv L sub)(eb:Eb sub)(d:Int)(ho:d≤12→∀ s,I1 L s→ok s){s:RS}(h:I1 L s):oneOK sub ok d L s:=by
 intro he;obtain⟨h1,h2,h3,h4⟩:=qC8 he;rw[h1];have hp:=h.1 h3;refine⟨fun _=>qJK hw inv eb (ho h4) hp,fun hk => ?_⟩;have hk1:(peekM L s).kind=1:=by
  unfold begM at h2;rw[decide_eq_false hk,Bool.false_and,Bool.or_false,decide_eq_true_eq] at h2;exact h2
 have hl:=(qBr (L:=L) (s:=s) (by rw[hk1]; decide)).2;have hn:(nextM s).p≤L.length:=hl;exact⟨fun _=>qJK hw inv eb (ho h4) hn,fun _=>ho h4 _ (qCu [60] ⟨fun _=>hn,by omega⟩).1⟩
theorem qJt{L:List Tok}(hw:wsum L≤52):∀ (m:Nat) (d:Int),d+m=14→0<m→∀ s,I1 L s→okF L m d s
 |0,_,_,h,_,_=>by omega
 |1,d,hd,_,s,I=>qJm hw (qCc L 0 (d+1)) (qJs L 0 (d+1)) d (fun h=>by omega) I
 |m+2,d,hd,_,s,I=>qJm hw (qCc L (m+1) (d+1)) (qJs L (m+1) (d+1)) d (fun _ s I=>qJt hw (m+1) (d+1) (by omega) (by omega) s I) I
theorem qFR{src:List UInt8}(h:wsum (wordsM src).1≤52):typeOK src:=qJt h 13 1 (by decide) (by decide) _ ⟨fun _=>Nat.zero_le _,Nat.zero_le _⟩
open Go Go.AI
def nmS:List (List UInt8):=[[97],[98],[99],[110,97,109,101],[110],[73,110,116],[116,121,112,101],[117]]
def WT:Nat→TT→Prop
 |0,_=>False
 |n+1,t=>t.name.length≤3∧(((t.kind=1∨t.kind=2∨t.kind=3)∧t.name=[]∧t.names.list=[]∧t.kids.list=[])∨(t.kind=9∧(t.name=[65]∨t.name=[66,101,101])∧t.names.list=[]∧t.kids.list=[]) ∨
   ((t.kind=4∨t.kind=5∨t.kind=6)∧t.name=[]∧t.names.list=[]∧∃ x,t.kids.list=[x]∧WT n x) ∨
   ((t.kind=7∨t.kind=8)∧t.name=[]∧t.names.list.length=t.kids.list.length∧t.names.list.length≤4∧(∀ m∈t.names.list,m∈nmS)∧∀ x∈t.kids.list,WT n x))
open Go Go.AI
theorem qNa(n:Int):nameM n∈nmS:=by
 have h:=List.mem_of_getElem? (qHs n);have:(nameL.all fun x=>nmS.contains x)=true:=by decide +kernel
 have:=List.all_eq_true.1 this _ h
 simpa using this
theorem qQ4(r:RW)(i:Nat):nmM r i∈nmS:=by
 unfold nmM;split
 ·exact qNa _
 ·decide +kernel
structure RecI (n:Nat) (k:Int) (i:Nat) (t:TT):Prop where
 kd:t.kind=k
 nm:t.name=[]
 eq:t.names.list.length=t.kids.list.length
 le:t.names.list.length≤i
 ns:∀ m∈t.names.list,m∈nmS
 ks:∀ x∈t.kids.list,WT n x
theorem RecI.put{n:Nat}{k:Int}{i:Nat}{t x:TT}{key:List UInt8}(H:RecI n k i t)(hx:WT n x)(hk:key∈nmS):RecI n k (i+1) (putM t key x):=by
 obtain⟨h1,h2,h3,h4,h5,h6⟩:=H;unfold putM;split
 ·exact⟨h1,h2,h3,by omega,h5,h6⟩
 ·have hm:=qCj key t.names.list;generalize leadM key t.names.list=m at hm;have e1:(t.names.list.take m++[key]++t.names.list.drop m).length=t.names.list.length+1:=by simp; omega
  have e2:(t.kids.list.take m++[x]++t.kids.list.drop m).length=t.kids.list.length+1:=by simp; omega
  refine⟨h1,h2,?_,?_,?_,?_⟩
  ·show(t.names.list.take m++[key]++t.names.list.drop m).length=(t.kids.list.take m++[x]++t.kids.list.drop m).length;omega
  ·show(t.names.list.take m++[key]++t.names.list.drop m).length≤i+1;omega
  ·intro y hy;have hy:y∈t.names.list.take m++[key]++t.names.list.drop m:=hy;simp only[List.mem_append,List.mem_singleton] at hy
   rcases hy with (hy|rfl)|hy
   ·exact h5 y (List.mem_of_mem_take hy)
   ·exact hk
   ·exact h5 y (List.mem_of_mem_drop hy)
  ·intro y hy;have hy:y∈t.kids.list.take m++[x]++t.kids.list.drop m:=hy;simp only[List.mem_append,List.mem_singleton] at hy
   rcases hy with (hy|rfl)|hy
   ·exact h6 y (List.mem_of_mem_take hy)
   ·exact hx
   ·exact h6 y (List.mem_of_mem_drop hy)
theorem qEI(r:RW)(d:Int):1≤kindT r d∧kindT r d≤9∧(d≤1→¬ (4≤kindT r d∧kindT r d≤8)):=by
 have:=qEP r.kind;unfold kindT;split <;> omega
end Go.Proofs.YtnlmlcfipbnpgaaDoor.Ab
set_option maxHeartbeats 4000000
namespace Go.Proofs.YtnlmlcfipbnpgaaDoor.Ab
open Go Go.AI
theorem qEJ:∀ (n:Nat) (t:TT),WF n t→WF (n+1) t
 |0,t,h=>h.elim
 |n+1,t,h=>by
  rcases h with h|h|⟨k,x,hk,hx,rfl⟩|⟨k,l,hk,hl,hp,hs,rfl⟩
  ·exact .inl h
  ·exact .inr (.inl h)
  ·exact .inr (.inr (.inl ⟨k,x,hk,qEJ n x hx,rfl⟩))
  ·exact .inr (.inr (.inr ⟨k,l,hk,hl,fun p hpl=>⟨(hp p hpl).1,qEJ n _ (hp p hpl).2⟩,hs,rfl⟩))
theorem qRx{n m:Nat}{t:TT}(h:WF n t)(hm:n≤m):WF m t:=by
 have:∀ k,WF (n+k) t:=fun k=>by
  induction k with
  |zero=>exact h
  |succ k ih=>exact qEJ _ _ ih
 have:=this (m - n)
 rwa [show n+(m - n)=m by omega] at this
theorem qJo(key:List UInt8):∀ (l:List (List UInt8)) (i:Nat) (a:List UInt8),i<leadM key l→l[i]?=some a→bless a key=true
 |[],i,a,h,_=>by simp[leadM] at h
 |b::l,i,a,h,e=>by
  unfold leadM at h;split at h
  ·rename_i hb;cases i with
   |zero=>cases e; exact hb
   |succ i=>exact qJo key l i a (by omega) (by simpa using e)
  ·omega
theorem qJP(key:List UInt8):∀ (l:List (List UInt8)) (a:List UInt8),l[leadM key l]?=some a→bless a key=false
 |[],a,e=>by simp[leadM] at e
 |b::l,a,e=>by
  unfold leadM at e;split at e
  ·exact qJP key l a (by simpa using e)
  ·rename_i hb;cases e;exact Bool.eq_false_iff.2 hb
theorem qQA{α:Type}(l:List α)(j:Nat)(hj:j≤l.length)(p:α)(i:Nat):(l.take j++[p]++l.drop j)[i]?=if i<j then l[i]? else if i=j then some p else l[i - 1]?:=by
 have ht:(l.take j).length=j:=by rw[List.length_take]; omega
 rw[List.append_assoc];by_cases h1:i<j
 ·rw[if_pos h1,List.getElem?_append_left (by omega),List.getElem?_take,if_pos h1]
 ·rw[if_neg h1,List.getElem?_append_right (by omega),ht];by_cases h2:i=j
  ·rw[if_pos h2,h2,Nat.sub_self]; rfl
  ·rw[if_neg h2];obtain⟨m,hm⟩:∃ m,i - j=m+1:=⟨i - j - 1,by omega⟩;rw[hm];show(l.drop j)[m]?=_;rw[List.getElem?_drop]
   congr 1; omega
theorem qPl{Q:List UInt8×TT→Prop}(k:Int)(l:Es)(hs:strictS l)(hq:∀ p∈l,Q p)(key:List UInt8)(x:TT)(hk:Q (key,x)):∃ l',putM (recT k l) key x=recT k l'∧strictS l'∧(∀ p∈l',Q p)∧l'.length≤l.length+1:=by
 have hn:(recT k l).names.list=l.map (·.1):=qAZ _;have hkd:(recT k l).kids.list=l.map (·.2):=qAZ _;unfold putM;rw[hn,hkd];generalize hj:leadM key (l.map (·.1))=j;have hjl:j≤l.length:=by have:=qCj key (l.map (·.1)); rw[hj,List.length_map] at this; exact this
 split
 ·exact⟨l,rfl,hs,hq,by omega⟩
 ·rename_i hne;refine⟨l.take j++[(key,x)]++l.drop j,?_,?_,?_,?_⟩
  ·have g:∀ {α:Type}(a b:List α)(p:α),grown (a++[p]++b) = .mk false (a++[p]++b):=fun a b p=>by
    cases a <;> rfl
   unfold recT;rw[List.map_append,List.map_append,List.map_append,List.map_append,List.map_cons,List.map_nil,List.map_cons,List.map_nil,g,g,List.map_take,List.map_drop,List.map_take,List.map_drop];rfl
  ·intro i p q hp hq';rw[qQA l j hjl] at hp hq';by_cases h1:i+1<j
   ·rw[if_pos (by omega)] at hp;rw[if_pos h1] at hq';exact hs i p q hp hq'
   ·by_cases h2:i+1=j
    ·rw[if_pos (by omega)] at hp;rw[if_neg (by omega),if_pos h2] at hq';cases hq';refine qJo key (l.map (·.1)) i p.1 (by rw[hj]; omega) ?_;rw[List.getElem?_map,hp]; rfl
    ·by_cases h3:i=j
     ·rw[if_neg (by omega),if_pos h3] at hp;rw[if_neg (by omega),if_neg (by omega),show i+1 - 1=i by omega] at hq';cases hp;have ha:(l.map (·.1))[leadM key (l.map (·.1))]?=some q.1:=by rw[hj,List.getElem?_map,← h3,hq']; rfl
      have h4:=qJP key _ _ ha;rw[hj] at ha;rw[ha] at hne;cases hb:bless key q.1 with
      |true=>rfl
      |false=>exact absurd (congrArg some (qDl _ _ h4 hb)) hne
     ·rw[if_neg (by omega),if_neg h3] at hp;rw[if_neg (by omega),if_neg (by omega),show i+1 - 1=i - 1+1 by omega] at hq';exact hs (i - 1) p q hp hq'
  ·intro p hp
   rcases List.mem_append.1 hp with h1|h1
   ·rcases List.mem_append.1 h1 with h2|h2
    ·exact hq p (List.mem_of_mem_take h2)
    ·rw[List.mem_singleton.1 h2]; exact hk
   ·exact hq p (List.mem_of_mem_drop h1)
  ·simp; omega
theorem qNV:∀ w∈nmS,nameB w=true:=by decide
theorem qF8{Q:List UInt8×TT→Prop}(k:Int)(r:RW)(sub:RW→TT)(hsub:∀ w x,nameB w=true→Q (w,sub x)):∀ (c i:Nat) (l:Es),strictS l→(∀ p∈l,Q p)→∃ l',recM r sub c i (recT k l)=recT k l'∧strictS l'∧(∀ p∈l',Q p)∧l'.length≤l.length+c
 |0,i,l,hs,hq=>⟨l,rfl,hs,hq,by omega⟩
 |c+1,i,l,hs,hq=>by
  obtain⟨l1,h1,h2,h3,h4⟩:=qPl k l hs hq (nmM r i) (sub (kidM r i)) (hsub _ _ (qNV _ (qQ4 r i)));obtain⟨l2,h5,h6,h7,h8⟩:=qF8 k r sub hsub c (i+1) l1 h2 h3;refine⟨l2,?_,h6,h7,by omega⟩;rw[recM,h1,h5]
abbrev nsB:List (List UInt8):=[[65]]
theorem qId(n:Nat)(k:Int)(r:RW)(sub:RW→TT)(hk:1≤k∧k≤9)(hs:4≤k→k≤8→∀ x,WF n (sub x)):WF (n+1) (treeK nsB k r sub):=by
 unfold treeK;split
 ·rename_i h9;have:(nsB.getD (withinM r.n (nsB.length:Int)).toNat [])=[65]:=by
   have hb:=qAg r.n 1 (by decide);have:withinM r.n (nsB.length:Int)=0:=by show withinM r.n 1=0; omega
   rw[this]; rfl
  rw[this];exact .inr (.inl ⟨[65],by decide,by decide,rfl⟩)
 split
 ·rename_i h9 h456;split
  ·rename_i h6;exact qEJ n _ (hs (by omega) (by omega) _)
  ·exact .inr (.inr (.inl ⟨k,_,h456,hs (by omega) (by omega) _,rfl⟩))
 split
 ·rename_i h9 h456 h78;have hc:cntM r k≤4:=by
   unfold cntM;split
   ·split <;> omega
   ·omega
  obtain⟨l,h1,h2,h3,h4⟩:=qF8 (Q:=QE n) k r sub (fun w x hw=>⟨hw,hs (by omega) (by omega) x⟩) (cntM r k) 0 [] (fun i p q hp _=>by simp at hp) (fun p hp=>by cases hp);have h1':recM r sub (cntM r k) 0 (.mk k [] .nil .nil)=recT k l:=h1;rw[h1'];have h4':l.length≤0+cntM r k:=h4;exact .inr (.inr (.inr ⟨k,l,h78,by omega,h3,h2,rfl⟩))
 ·rename_i h9 h456 h78;exact .inl ⟨k,by omega,rfl⟩
theorem qEM:∀ (d:Nat) (r:RW),WF (d+1) (treeM nsB d r)
 |0,r=>by
  have:=qEI r 0;exact qId 0 (kindT r 0) r _ ⟨this.1,this.2.1⟩ (fun h1 h2=>absurd ⟨h1,h2⟩ (this.2.2 (by decide)))
 |d+1,r=>by
  have:=qEI r ((d:Int)+1);exact qId (d+1) (kindT r ((d:Int)+1)) r _ ⟨this.1,this.2.1⟩ (fun _ _ x=>qEM d x)
theorem qN5(r:RW):WF 12 (treeM nsB 8 r):=qRx (qEM 8 r) (by decide)
end Go.Proofs.YtnlmlcfipbnpgaaDoor.Ab
set_option maxHeartbeats 4000000
namespace Go.Proofs.YtnlmlcfipbnpgaaDoor.Ab
open Go Go.AI
def wpL:List (List TW):=[[(1,[100,97,116,97])],[(1,[116,121,112,101])],[(1,[102,110])],[(1,[73,110,116])],[(1,[66,111,111,108])],[(1,[84,101,120,116])],[(1,[76,105,115,116]),(4,[60])],[(1,[77,97,112]),(4,[60])],[(1,[79,112,116]),(4,[60])],[(4,[62])],[(4,[123])],[(4,[125])],[(1,[85,110,105,111,110])],[(1,[97])],[(1,[98])],[(4,[58])],[(4,[44])],[(4,[59])],[(4,[61])],[(4,[40])],[(4,[41])],[(4,[45,62])],[(1,[65])],[(3,[])],[(2,[120])]]
def wpM(n:Int):List TW:=wpL.getD (withinM n 25).toNat []
theorem qBc(r:List UInt8):endW (32::r):=by
 intro b t e;injection e with e1 e2
 subst e1; decide
theorem Rd.of{p r:List UInt8}{k:Int}{x:List UInt8}{n:Int}(c:UInt8)(q:List UInt8)(hp:p=c::q)(hc:isBlank c.toNat=false)(ho:oneM (p++32::r)=⟨⟨k,x,n,0⟩,(p.length:Nat),0⟩):Rd (p++32::r) [(k,x)] (32::r):=by
 subst hp;refine⟨by simp; omega,fun f i acc=>⟨[⟨k,x,n,(i:Int)⟩],i+(c::q).length,rfl,?_⟩⟩;have hk:runLen isBlank (c::(q++32::r))=0:=by simp[runLen,hc]
 rw[List.cons_append] at ho ⊢;show toksGo (f+1) _ _ _=_;rw[toksGo];simp only[hk,List.drop_zero];simp only[ho,Nat.add_zero,if_true,Int.toNat_natCast];rw[show(c::(q++32::r))=(c::q)++32::r from rfl,List.drop_left'];rfl
theorem qPD(r:List UInt8)(j:Nat)(hj:j<25):Rd (mixL.getD j []++32::r) (wpL.getD j []) (32::r):=by
 rcases j with _|_|_|_|_|_|_|_|_|_|_|_|_|_|_|_|_|_|_|_|_|_|_|_|_|j
 ·exact Rd.name (w:=[100,97,116,97]) (by decide) (qBc r)
 ·exact Rd.name (w:=[116,121,112,101]) (by decide) (qBc r)
 ·exact Rd.name (w:=[102,110]) (by decide) (qBc r)
 ·exact Rd.name (w:=[73,110,116]) (by decide) (qBc r)
 ·exact Rd.name (w:=[66,111,111,108]) (by decide) (qBc r)
 ·exact Rd.name (w:=[84,101,120,116]) (by decide) (qBc r)
 ·have a:=Rd.name (w:=[76,105,115,116]) (by decide) (r:=60::32::r) (qBa (by decide) _);have b:=Rd.sign (c:=60) (by decide) (32::r) (fun e=>by cases e);exact a.trans b
 ·have a:=Rd.name (w:=[77,97,112]) (by decide) (r:=60::32::r) (qBa (by decide) _);have b:=Rd.sign (c:=60) (by decide) (32::r) (fun e=>by cases e);exact a.trans b
 ·have a:=Rd.name (w:=[79,112,116]) (by decide) (r:=60::32::r) (qBa (by decide) _);have b:=Rd.sign (c:=60) (by decide) (32::r) (fun e=>by cases e);exact a.trans b
 ·exact Rd.of (p:=[62]) 62 [] rfl rfl (n:=0) rfl
 ·exact Rd.of (p:=[123]) 123 [] rfl rfl (n:=0) rfl
 ·exact Rd.of (p:=[125]) 125 [] rfl rfl (n:=0) rfl
 ·exact Rd.name (w:=[85,110,105,111,110]) (by decide) (qBc r)
 ·exact Rd.name (w:=[97]) (by decide) (qBc r)
 ·exact Rd.name (w:=[98]) (by decide) (qBc r)
 ·exact Rd.of (p:=[58]) 58 [] rfl rfl (n:=0) rfl
 ·exact Rd.of (p:=[44]) 44 [] rfl rfl (n:=0) rfl
 ·exact Rd.of (p:=[59]) 59 [] rfl rfl (n:=0) rfl
 ·exact Rd.of (p:=[61]) 61 [] rfl rfl (n:=0) rfl
 ·exact Rd.of (p:=[40]) 40 [] rfl rfl (n:=0) rfl
 ·exact Rd.of (p:=[41]) 41 [] rfl rfl (n:=0) rfl
 ·exact Rd.of (p:=[45,62]) 45 [62] rfl rfl (n:=0) rfl
 ·exact Rd.name (w:=[65]) (by decide) (qBc r)
 ·exact Rd.of (p:=[55]) 55 [] rfl rfl (n:=7) rfl
 ·exact Rd.of (p:=[34,120,34]) 34 [120,34] rfl rfl (n:=0) rfl
 ·omega
theorem qRG(n:Int)(r:List UInt8):Rd (pieM n++32::r) (wpM n) (32::r):=by
 have hb:=qAg n 25 (by decide);exact qPD r _ (by omega)
theorem Rd.skip(s:List UInt8):Rd (32::s) [] s:=by
 refine⟨by simp,fun f i acc=>⟨[],i+1,rfl,?_⟩⟩;rw[List.append_nil];cases f with
 |zero=>rfl
 |succ f=>exact qFc f s i acc
theorem Rd.refl(s:List UInt8):Rd s [] s:=⟨by simp,fun f i acc=>⟨[],i,rfl,by rw[List.append_nil]; rfl⟩⟩
theorem qHT:∀ (l:List Int) (r:List UInt8),Rd (l.flatMap mixW++r) (l.flatMap wpM) r
 |[],r=>Rd.refl r
 |n::l,r=>by
  have a:=qRG n (l.flatMap mixW++r);have b:=(Rd.skip (l.flatMap mixW++r)).trans (qHT l r);have:=a.trans b
  simpa [List.flatMap_cons,mixW] using this
def wtT(w:TW):Nat:=if w.1=1∨(w.1=4∧(w.2=[44]∨w.2=[58])) then 1 else 0
theorem qRg(n:Int):((wpM n).map wtT).sum≤1:=by
 have hb:=qAg n 25 (by decide);have:∀ j,j<25→((wpL.getD j []).map wtT).sum≤1:=by decide
 exact this _ (by omega)
theorem qIM:∀ l:List Int,((l.flatMap wpM).map wtT).sum≤l.length
 |[]=>Nat.le_refl _
 |n::l=>by
  have h1:=qRg n;have h2:=qIM l;rw[List.flatMap_cons,List.map_append,List.sum_append,List.length_cons];omega
theorem qQf(L:List Tok):wsum L=((L.map tw).map wtT).sum:=by
 unfold wsum;rw[List.map_map]; rfl
theorem qNp{s:List UInt8}{ws:List TW}(R:Rd s ws []):(wordsM s).1=[]∨(wordsM s).1.map tw=ws:=by
 obtain⟨h1,h2⟩:=R;obtain⟨l,i',e1,e2⟩:=h2 (s.length+1 - ws.length) 0 [];rw[show s.length+1 - ws.length+ws.length=s.length+1 by simp at h1; omega,qII,List.nil_append] at e2;unfold wordsM tokensM;split
 ·exact .inl rfl
 ·rename_i l' he;split at he
  ·cases he
  ·rw[e2] at he;unfold toksFin at he;split at he
   ·cases he
   ·rename_i l2 hl2;cases hl2;split at he
    ·cases he
    ·cases he; exact .inr e1
theorem qJi{s:List UInt8}{ws:List TW}(R:Rd s ws []):wsum (wordsM s).1≤(ws.map wtT).sum:=by
 rcases qNp R with h|h
 ·rw[h]; exact Nat.zero_le _
 ·rw[qQf,h]; exact Nat.le_refl _
theorem qQz(l:List Int):typeOK (mixM l):=by
 refine qFR ?_;have R:=qHT (l.take 50) [];rw[List.append_nil] at R;have h1:=qJi R;have h2:=qIM (l.take 50);have h3:(l.take 50).length≤50:=by simp; omega
 unfold mixM;omega
theorem qQa(l:List Int):typeOK ([123]++mixM l++[125]):=by
 refine qFR ?_;have a:=Rd.sign (c:=123) (by decide) ((l.take 50).flatMap mixW++[125]) (fun e=>by cases e);have b:=qHT (l.take 50) [125];have c:=Rd.sign (c:=125) (by decide) [] (fun e=>by cases e);have R:=a.trans (b.trans c);have h1:=qJi R;have h2:=qIM (l.take 50);have h3:(l.take 50).length≤50:=by simp; omega
 have e:[123]++mixM l++[125]=123::((l.take 50).flatMap mixW++[125]):=by unfold mixM; simp
 rw[e];rw[List.map_append,List.map_append,List.sum_append,List.sum_append] at h1;have e1:(([((4:Int),([123]:List UInt8))]:List TW).map wtT).sum=0:=by decide
 have e2:(([((4:Int),([125]:List UInt8))]:List TW).map wtT).sum=0:=by decide
 omega
end Go.Proofs.YtnlmlcfipbnpgaaDoor.Ab
set_option maxHeartbeats 4000000
namespace Go.Proofs.YtnlmlcfipbnpgaaDoor.Ab
open Go Go.AI
def sumE(f:TT→Nat)(l:Es):Nat:=(l.map fun p=>f p.2).sum
theorem qEj(f:TT→Nat):∀ (l:Es) (i:Nat) (a b:List UInt8×TT),l[i]?=some b→sumE f (l.set i a)+f b.2=sumE f l+f a.2
 |[],i,a,b,h=>by simp at h
 |x::l,0,a,b,h=>by cases h; simp[sumE]; omega
 |x::l,i+1,a,b,h=>by
  have:=qEj f l i a b (by simpa using h);simp only[sumE,List.set_cons_succ,List.map_cons,List.sum_cons] at this ⊢;omega
theorem qGm(f:TT→Nat):∀ (i:Nat) (l:Es),sumE f (down i l)=sumE f l
 |0,_=>rfl
 |i+1,l=>by
  unfold down;split
  ·rename_i p q hp hq;split
   ·rw[qGm f i];have h1:=qEj f l (i+1) q p hp;have h2:=qEj f (l.set (i+1) q) i p q (by rw[List.getElem?_set_ne (by omega)]; exact hq);omega
   ·rfl
  ·rfl
theorem qGR(f:TT→Nat):∀ (m i:Nat) (l:Es),sumE f (sortM m i l)=sumE f l
 |0,_,_=>rfl
 |m+1,i,l=>by rw[sortM,qGR f m,qGm]
def muN:Nat→TT→Nat
 |0,_=>0
 |n+1,t=>if t.kind=7∨t.kind=8 then 3*t.kids.list.length+(t.kids.list.map (muN n)).sum else match t.kids.list with
  |[]=>1
  |x::_=>1+muN n x
theorem qC1{n:Nat}(k:Int)(hk:k=7∨k=8)(l:Es):muN (n+1) (recT k l)=3*l.length+sumE (muN n) l:=by
 have e:(recT k l).kids.list=l.map (·.2):=qAZ _;show(if k=7∨k=8 then 3*(recT k l).kids.list.length+((recT k l).kids.list.map (muN n)).sum else _)=_;rw[if_pos hk,e,List.length_map,List.map_map];rfl
def SubSz(n:Nat)(sub:RS→TT×RS)(ok:RS→Prop):Prop:=∀ s,ok s→Good (sub s).2→muN n (sub s).1+s.p≤(sub s).2.p
theorem qDk{L:List Tok}{s:RS}{x:List UInt8}(h:Good (mustM (takeM 4 L s x) (isM 4 L s x))):(mustM (takeM 4 L s x) (isM 4 L s x)).p=s.p+1:=by
 have h1:=(qBC h).1;rw[qBQ];unfold takeM;rw[if_pos h1]; rfl
theorem qR1{L:List Tok}{s:RS}(h:Good (colM L s)):(colM L s).p=s.p+2:=by
 unfold colM at h ⊢;rw[qDk h,qCH]
section
variable {n:Nat} {L:List Tok} {sub:RS→TT×RS} {ok:RS→Prop}
theorem qIX(v:validL L)(S:SubWF n sub ok)(Z:SubSz n sub ok){s:RS}(o:ok (colM L s))(h:Good (fieldM sub L s).2):muN n (fieldM sub L s).1.2+s.p+2≤(fieldM sub L s).2.p:=by
 obtain⟨h1,h2⟩:=S _ o h;have h3:=Z _ o h;rw[qR1 h1] at h3;show muN n (sub (colM L s)).1+s.p+2≤(sub (colM L s)).2.p;omega
theorem qJH(v:validL L)(S:SubWF n sub ok)(Z:SubSz n sub ok)(x:List UInt8):∀ (f:Nat) (s:RS) (acc:Es),loopOK sub ok L f s→Good (loopM sub L x f s acc).2 →
  3*(loopM sub L x f s acc).1.length+sumE (muN n) (loopM sub L x f s acc).1+s.p≤3*acc.length+sumE (muN n) acc+(loopM sub L x f s acc).2.p
 |0,s,acc,_,h=>by show 3*acc.length+sumE (muN n) acc+s.p≤_; exact Nat.le_refl _
 |f+1,s,acc,lo,h=>by
  unfold loopM at h ⊢;by_cases hi:isM 4 L s [44]=true
  ·rw[if_pos hi] at h ⊢;obtain⟨o1,o2⟩:=lo hi;have h1:=qCD v S x f _ _ o2 h;have h2:=qIX v S Z o1 h1;have ih:=qJH v S Z x f _ (acc++[(fieldM sub L (nextM s)).1]) o2 h;have e1:(acc++[(fieldM sub L (nextM s)).1]).length=acc.length+1:=by simp
   have e2:sumE (muN n) (acc++[(fieldM sub L (nextM s)).1])=sumE (muN n) acc+muN n (fieldM sub L (nextM s)).1.2:=by simp[sumE]
   rw[e1,e2] at ih;have e3:(nextM s).p=s.p+1:=rfl;rw[e3] at h2;omega
  ·rw[if_neg hi] at h ⊢;have:=qDk h;show 3*acc.length+sumE (muN n) acc+s.p≤3*acc.length+sumE (muN n) acc+(mustM (takeM 4 L s x) (isM 4 L s x)).p;omega
theorem qQ8(v:validL L)(S:SubWF n sub ok)(Z:SubSz n sub ok)(x:List UInt8){s:RS}(ro:rowOK sub ok L x s)(h:Good (rowM sub L x s).2) :
  3*(rowM sub L x s).1.length+sumE (muN n) (rowM sub L x s).1+s.p≤(rowM sub L x s).2.p+1:=by
 unfold rowM at h ⊢;cases hx:isM 4 L s x with
 |true =>
  rw[hx,if_pos rfl] at h;rw[if_pos rfl];show 0+sumE (muN n) []+s.p≤s.p+1+1;simp[sumE]; omega
 |false =>
  rw[hx,if_neg (by decide)] at h;rw[if_neg (by decide)];obtain⟨o1,o2⟩:=ro hx;have h1:=qCD v S x _ _ _ o2 h;have h2:=qIX v S Z o1 h1;have h3:=qJH v S Z x _ _ [(fieldM sub L s).1] o2 h;have e1:[(fieldM sub L s).1].length=1:=rfl;have e2:sumE (muN n) [(fieldM sub L s).1]=muN n (fieldM sub L s).1.2:=by simp[sumE]
  rw[e1,e2] at h3;omega
theorem qM9(v:validL L)(S:SubWF n sub ok)(Z:SubSz n sub ok)(k:Int)(hk:k=7∨k=8){s:RS}(ro:recOK sub ok L s)(h:Good (recdM sub L k s).2):muN (n+1) (recdM sub L k s).1+s.p≤(recdM sub L k s).2.p:=by
 obtain⟨h1,h2⟩:=qDv _ _ _ h.2;have hg:Good (rowM sub L [125] (opnM L s)).2:=⟨h.1,h1⟩;have h3:=(qMg v S [125] ro.1 hg).1;have h4:=qQ8 v S Z [125] ro.1 hg;have h5:(opnM L s).p=s.p+1:=qDk h3;show muN (n+1) (recT k (sortedM (rowM sub L [125] (opnM L s)).1))+s.p≤(rowM sub L [125] (opnM L s)).2.p;rw[qC1 k hk,qCQ];have h6:sumE (muN n) (sortedM (rowM sub L [125] (opnM L s)).1)=sumE (muN n) (rowM sub L [125] (opnM L s)).1:=qGR _ _ _ _;omega
theorem qKw(S:SubWF n sub ok)(Z:SubSz n sub ok)(k:Int)(hk:k=4∨k=5∨k=6){s:RS}(o:ok (angM L s))(h:Good (ofM sub L k s).2):muN (n+1) (ofM sub L k s).1+s.p≤(ofM sub L k s).2.p:=by
 have h1:Good (sub (angM L s)).2:=qBq (qBC h).2;obtain⟨h2,_⟩:=S _ o h1;have h3:=Z _ o h1;have h4:(angM L s).p=s.p+1:=qDk h2;have h5:(ofM sub L k s).2.p=(sub (angM L s)).2.p+1:=qDk h;have h6:muN (n+1) (ofM sub L k s).1=1+muN n (sub (angM L s)).1:=by
  show(if k=7∨k=8 then _ else 1+muN n (sub (angM L s)).1)=_;rw[if_neg (by omega)]
 omega
theorem qRA(v:validL L)(S:SubWF n sub ok)(Z:SubSz n sub ok)(w:List UInt8){s:RS}(o:wrdOK sub ok L w s)(h:Good (wrdT sub L w s).2):muN (n+1) (wrdT sub L w s).1+s.p≤(wrdT sub L w s).2.p+1:=by
 have lf:∀ (k:Int) (nm:List UInt8),muN (n+1) (.mk k nm .nil .nil)≤1:=fun k nm=>by
  show(if k=7∨k=8 then 3*0+0 else 1)≤1;split <;> omega
 unfold wrdT at h ⊢;by_cases k1:w=wordM 1
 ·rw[if_pos k1]; have:=lf 1 []; show muN (n+1) (.mk 1 [] .nil .nil)+s.p≤s.p+1; omega
 rw[if_neg k1] at h ⊢;by_cases k2:w=wordM 2
 ·rw[if_pos k2]; have:=lf 2 []; show muN (n+1) (.mk 2 [] .nil .nil)+s.p≤s.p+1; omega
 rw[if_neg k2] at h ⊢;by_cases k3:w=wordM 3
 ·rw[if_pos k3]; have:=lf 3 []; show muN (n+1) (.mk 3 [] .nil .nil)+s.p≤s.p+1; omega
 rw[if_neg k3] at h ⊢;by_cases k8:w=wordM 8
 ·rw[if_pos k8] at h ⊢; have:=qM9 v S Z 8 (.inr rfl) (o.1 k8) h; omega
 rw[if_neg k8] at h ⊢;by_cases k4:w=wordM 4
 ·rw[if_pos k4] at h ⊢; have:=qKw S Z 4 (by omega) (o.2 (.inl k4)) h; omega
 rw[if_neg k4] at h ⊢;by_cases k5:w=wordM 5
 ·rw[if_pos k5] at h ⊢; have:=qKw S Z 5 (by omega) (o.2 (.inr (.inl k5))) h; omega
 rw[if_neg k5] at h ⊢;by_cases k6:w=wordM 6
 ·rw[if_pos k6] at h ⊢; have:=qKw S Z 6 (by omega) (o.2 (.inr (.inr k6))) h; omega
 rw[if_neg k6];have:=lf 9 w;show muN (n+1) (.mk 9 w .nil .nil)+s.p≤s.p+1;omega
theorem qQl(v:validL L)(S:SubWF n sub ok)(Z:SubSz n sub ok)(d:Int){s:RS}(o:oneOK sub ok d L s)(h:Good (oneP sub d L s).2):muN (n+1) (oneP sub d L s).1+s.p≤(oneP sub d L s).2.p:=by
 unfold oneP at h ⊢;by_cases he:(hedM d L s).e=0
 ·obtain⟨h1,h2,h3,h4⟩:=qC8 he;obtain⟨o1,o2⟩:=o he;rw[if_neg (fun h=>h he)] at h ⊢;rw[h1] at h o1 o2 ⊢;by_cases hk:(peekM L s).kind=4
  ·rw[if_pos hk] at h ⊢;exact qM9 v S Z 7 (.inl rfl) (o1 hk) h
  ·rw[if_neg hk] at h ⊢;have:=qRA v S Z _ (o2 hk) h;have e:(nextM s).p=s.p+1:=rfl;omega
 ·rw[if_pos he] at h;exact absurd h.1 he
end
theorem qJa{L:List Tok}(v:validL L):∀ (m:Nat) (d:Int),d+m=14→∀ s,okF L m d s→Good (oneF L m d s).2→muN (m - 1) (oneF L m d s).1+s.p≤(oneF L m d s).2.p
 |0,d,hd,s,o,h=>o.elim
 |1,d,hd,s,o,h=>by
  have:=(qIH (n:=0) v (sub:=oneF L 0 (d+1)) (ok:=okF L 0 (d+1)) (fun s o _=>o.elim) d o h).2.2;omega
 |m+2,d,hd,s,o,h =>
  qQl (n:=m) v (sub:=oneF L (m+1) (d+1)) (ok:=okF L (m+1) (d+1)) (fun s o h=>qGI v (m+1) (d+1) (by omega) s o h) (fun s o h=>qJa v (m+1) (d+1) (by omega) s o h) d o h
theorem qDo(f:TT→Nat):∀ l:Es,(∀ p∈l,p.1.length≤16∧(txtM p.2).length≤20*f p.2+8)→(fldTx l).length≤28*l.length+20*sumE f l
 |[],_=>Nat.zero_le _
 |[p],h=>by
  have:=h p (List.mem_cons_self ..);simp[fldTx,sumE]; omega
 |p::q::l,h=>by
  have h1:=h p (List.mem_cons_self ..);have h2:=qDo f (q::l) (fun x hx=>h x (List.mem_cons_of_mem _ hx));simp only[fldTx,sumE,List.map_cons,List.sum_cons,List.length_append,List.length_cons] at h2 ⊢;omega
theorem qD2{w:List UInt8}(h:nameB w=true):w.length≤16:=by
 cases w with
 |nil=>exact Nat.zero_le _
 |cons c q =>
  unfold nameB at h;simp only[Bool.and_eq_true,Nat.ble_eq] at h;exact h.2
theorem qIV(k:Int):(wordM k).length≤5:=by
 unfold wordM
 repeat' split
 all_goals decide
theorem qCz:∀ (n:Nat) (t:TT),WF n t→(txtM t).length≤20*muN n t+8
 |0,t,h=>h.elim
 |n+1,t,h=>by
  rcases h with ⟨k,hk,rfl⟩|⟨w,hw,_,rfl⟩|⟨k,x,hk,hx,rfl⟩|⟨k,l,hk,hl,hp,_,rfl⟩
  ·have e1:txtM (leafT k)=wordM k:=by
    rw[qBM];show(if k=9 then _ else if k=7 then _ else if k=8 then _ else wordM k++angL [])=_;rw[if_neg (by omega),if_neg (by omega),if_neg (by omega)];simp[angL]
   rw[e1];have:=qIV k;omega
  ·have:=qD2 hw;have e:muN (n+1) (.mk 9 w .nil .nil)=1:=rfl;show w.length≤_;omega
  ·have e1:txtM (.mk k [] .nil (.mk true [x]))=wordM k++60::(txtM x++[62]):=by
    rw[qBM];show(if k=9 then _ else if k=7 then _ else if k=8 then _ else wordM k++angL [x])=_;rw[if_neg (by omega),if_neg (by omega),if_neg (by omega)];simp[angL]
   have h6:muN (n+1) (.mk k [] .nil (.mk true [x]))=1+muN n x:=by
    show(if k=7∨k=8 then _ else 1+muN n x)=_;rw[if_neg (by omega)]
   have:=qCz n x hx;have:=qIV k;rw[e1,h6];simp; omega
  ·have hf:=qDo (muN n) l (fun p hpl=>⟨qD2 (hp p hpl).1,qCz n p.2 (hp p hpl).2⟩);rw[qC1 k hk];have hb:(brM (recT k l)).length=(fldTx l).length+2:=by rw[qHH]; simp
   rcases hk with rfl|rfl
   ·have e1:txtM (recT 7 l)=brM (recT 7 l):=by rw[qBM]; rfl
    rw[e1,hb]; omega
   ·have e1:txtM (recT 8 l)=[85,110,105,111,110,32]++brM (recT 8 l):=by rw[qBM]; rfl
    rw[e1,List.length_append,hb];show 6+_≤_;omega
end Go.Proofs.YtnlmlcfipbnpgaaDoor.Ab
set_option maxHeartbeats 4000000
namespace Go.Proofs.YtnlmlcfipbnpgaaDoor.Ab
open Go Go.AI
theorem qGE:∀ (n:Nat) (t:TT),WF n t→muN (n+1) t=muN n t
 |0,t,h=>h.elim
 |n+1,t,h=>by
  rcases h with ⟨k,hk,rfl⟩|⟨w,hw,_,rfl⟩|⟨k,x,hk,hx,rfl⟩|⟨k,l,hk,hl,hp,_,rfl⟩
  ·rfl
  ·rfl
  ·have ih:=qGE n x hx;show(if k=7∨k=8 then _ else 1+muN (n+1) x)=(if k=7∨k=8 then _ else 1+muN n x);rw[if_neg (by omega),if_neg (by omega),ih]
  ·rw[qC1 k hk,qC1 k hk]
   congr 1
   have:∀ l:Es,(∀ p∈l,nameB p.1=true∧WF n p.2)→sumE (muN (n+1)) l=sumE (muN n) l:=by
    intro l
    induction l with
    |nil=>intro _; rfl
    |cons p l ih =>
     intro h;have h1:=qGE n p.2 (h p (List.mem_cons_self ..)).2;have h2:=ih (fun x hx=>h x (List.mem_cons_of_mem _ hx));simp only[sumE,List.map_cons,List.sum_cons] at h2 ⊢;rw[h1,h2]
   exact this l hp
def bM:Nat→Nat
 |0=>1
 |d+1=>12+4*bM d
theorem qJh{f:TT→Nat}{B:Nat}:∀ l:Es,(∀ p∈l,f p.2≤B)→sumE f l≤l.length*B
 |[],_=>by simp[sumE]
 |p::l,h=>by
  have h1:=h p (List.mem_cons_self ..);have h2:=qJh l (fun x hx=>h x (List.mem_cons_of_mem _ hx));simp only[sumE,List.map_cons,List.sum_cons,List.length_cons,Nat.succ_mul] at h2 ⊢;omega
theorem qH5(n B:Nat)(k:Int)(r:RW)(sub:RW→TT)(hk:1≤k∧k≤9)(hs:4≤k→k≤8→∀ x,WF n (sub x)∧muN n (sub x)≤B):muN (n+1) (treeK nsB k r sub)≤12+4*B:=by
 have lf:∀ (k:Int) (nm:List UInt8),muN (n+1) (.mk k nm .nil .nil)≤1:=fun k nm=>by
  show(if k=7∨k=8 then 3*0+0 else 1)≤1;split <;> omega
 unfold treeK;split
 ·have:=lf 9 (nsB.getD (withinM r.n (nsB.length:Int)).toNat []);rename_i h9;rw[h9] at *;omega
 split
 ·rename_i h9 h456;have hx:=hs (by omega) (by omega) (kidM r 0);split
  ·rw[qGE _ _ hx.1]; omega
  ·have h6:muN (n+1) (.mk k [] .nil (.mk true [sub (kidM r 0)]))=1+muN n (sub (kidM r 0)):=by
    show(if k=7∨k=8 then _ else 1+muN n (sub (kidM r 0)))=_;rw[if_neg (by omega)]
   omega
 split
 ·rename_i h9 h456 h78;have hc:cntM r k≤4:=by
   unfold cntM;split
   ·split <;> omega
   ·omega
  obtain⟨l,h1,h2,h3,h4⟩:=qF8 (Q:=fun p=>muN n p.2≤B) k r sub (fun w x hw=>(hs (by omega) (by omega) x).2) (cntM r k) 0 [] (fun i p q hp _=>by simp at hp) (fun p hp=>by cases hp);have h1':recM r sub (cntM r k) 0 (.mk k [] .nil .nil)=recT k l:=h1;have h4':l.length≤0+cntM r k:=h4;rw[h1',qC1 k h78];have h5:=qJh l h3;have h6:l.length*B≤4*B:=Nat.mul_le_mul_right _ (by omega);omega
 ·have:=lf k [];omega
theorem qJq:∀ (d:Nat) (r:RW),muN (d+1) (treeM nsB d r)≤bM (d+1)
 |0,r=>by
  have:=qEI r 0;exact qH5 0 1 (kindT r 0) r _ ⟨this.1,this.2.1⟩ (fun h1 h2=>absurd ⟨h1,h2⟩ (this.2.2 (by decide)))
 |d+1,r=>by
  have:=qEI r ((d:Int)+1);exact qH5 (d+1) (bM (d+1)) (kindT r ((d:Int)+1)) r _ ⟨this.1,this.2.1⟩ (fun _ _ x=>⟨qEM d x,qJq d x⟩)
theorem qHF:∀ (n:Nat) (t:TT),WF n t→smT t
 |0,t,h=>h.elim
 |n+1,t,h=>by
  rw[qDx]
  rcases h with ⟨k,hk,rfl⟩|⟨w,hw,_,rfl⟩|⟨k,x,hk,hx,rfl⟩|⟨k,l,hk,hl,hp,_,rfl⟩
  ·exact⟨Nat.zero_le _,Nat.zero_le _,fun x hx=>by cases hx⟩
  ·exact⟨Nat.zero_le _,Nat.zero_le _,fun x hx=>by cases hx⟩
  ·exact⟨Nat.zero_le _,by show 1≤1000; decide,fun y hy=>by
    have:y∈[x]:=hy
    rw[List.mem_singleton.1 this]; exact qHF n x hx⟩
  ·have e1:(recT k l).names.list=l.map (·.1):=qAZ _;have e2:(recT k l).kids.list=l.map (·.2):=qAZ _;refine⟨by show(recT k l).names.list.length≤_; rw[e1,List.length_map]; omega,by show(recT k l).kids.list.length≤_; rw[e2,List.length_map]; omega,fun y hy => ?_⟩;rw[e2] at hy;obtain⟨p,hpl,rfl⟩:=List.mem_map.1 hy;exact qHF n p.2 (hp p hpl).2
theorem qJM{f:TT→Nat}:∀ (l:Es) (p:List UInt8×TT),p∈l→f p.2≤sumE f l
 |[],p,h=>by cases h
 |q::l,p,h=>by
  simp only[sumE,List.map_cons,List.sum_cons]
  rcases List.mem_cons.1 h with rfl|h
  ·omega
  ·have:=qJM (f:=f) l p h;have:f p.2≤sumE f l:=this;simp only[sumE] at this;omega
theorem qL2(f:TT→Nat):∀ l:Es,(∀ p∈l,(txtM p.2).length≤20*f p.2+8)→(angL (l.map (·.2))).length≤10*l.length+20*sumE f l
 |[],_=>by simp[angL]
 |p::l,h=>by
  have h1:=h p (List.mem_cons_self ..);have h2:=qL2 f l (fun x hx=>h x (List.mem_cons_of_mem _ hx));simp only[List.map_cons,angL,sumE,List.sum_cons,List.length_append,List.length_cons,List.length_nil] at h2 ⊢;omega
theorem qLF:∀ (n:Nat) (t:TT),WF n t→muN n t≤2000000→wrB n t
 |0,t,h,_=>h.elim
 |n+1,t,h,hm=>by
  have ht:=qCz (n+1) t h
  rcases h with ⟨k,hk,rfl⟩|⟨w,hw,hne,rfl⟩|⟨k,x,hk,hx,rfl⟩|⟨k,l,hk,hl,hp,hs,rfl⟩
  ·exact⟨by omega,by show 2≤_; decide,by show 0≤_; decide,fun x hx=>by cases hx⟩
  ·exact⟨by omega,by show 2≤_; decide,by show 0≤_; decide,fun x hx=>by cases hx⟩
  ·have h6:muN (n+1) (.mk k [] .nil (.mk true [x]))=1+muN n x:=by
    show(if k=7∨k=8 then _ else 1+muN n x)=_;rw[if_neg (by omega)]
   have hx2:=qCz n x hx;refine⟨by omega,by show 2≤_; decide,?_,fun y hy => ?_⟩
   ·show(angL [x]).length≤_;simp[angL]; omega
   ·have:y∈[x]:=hy;rw[List.mem_singleton.1 this];exact qLF n x hx (by omega)
  ·have e2:(recT k l).kids.list=l.map (·.2):=qAZ _;have hmu:=qC1 (n:=n) k hk l;have hf:=qDo (muN n) l (fun p hpl=>⟨qD2 (hp p hpl).1,qCz n p.2 (hp p hpl).2⟩);have ha:=qL2 (muN n) l (fun p hpl=>qCz n p.2 (hp p hpl).2);have hb:(brM (recT k l)).length=(fldTx l).length+2:=by rw[qHH]; simp
   refine⟨by omega,by omega,by rw[e2]; omega,fun y hy => ?_⟩;rw[e2] at hy;obtain⟨p,hpl,rfl⟩:=List.mem_map.1 hy;have:=qJM (f:=muN n) l p hpl;exact qLF n p.2 (hp p hpl).2 (by omega)
theorem qJc{n:Nat}{t:TT}(h:WF n t)(hm:muN n t≤2000000):TextOK t:=qJz n t (qLF n t h hm) (qHF n t h)
theorem qKL(r:RW):TextOK (treeM nsB 8 r):=qJc (qEM 8 r) (Nat.le_trans (qJq 8 r) (by decide))
theorem qPf{src:List UInt8}(o:typeOK src)(h:typeE src=0):muN 12 (typeM src)≤500:=by
 have hg:=qH6 h;have h1:=qJa (qEZ src) 13 1 (by decide) _ o hg;have h2:=(qCc (wordsM src).1 13 1 (s0M src) ⟨fun _=>Nat.zero_le _,Nat.zero_le _⟩).1.2;have h3:=qGk src;unfold typeM;rw[if_pos h];have h1':muN 12 (typeR src).1+0≤(typeR src).2.p:=h1;have h2':(typeR src).2.p≤(wordsM src).1.length+1:=h2;omega
theorem qL4{src:List UInt8}(o:typeOK src)(h:typeE src=0):TextOK (typeM src):=qJc (qGH o h) (Nat.le_trans (qPf o h) (by decide))
theorem qPn{src:List UInt8}(o:typeOK src)(h:typeE src=0):smT (typeM src):=qHF 12 _ (qGH o h)
theorem qFn:∀ (n:Nat) (t:TT),SizeOf.sizeOf t<n→sameT t t=true
 |0,t,h=>by omega
 |n+1,t,h=>by
  have L:∀ l:List TT,(∀ x∈l,SizeOf.sizeOf x<n)→sameL l l=true:=by
   intro l
   induction l with
   |nil=>intro _; rfl
   |cons x l ih =>
    intro hh;rw[sameL,qFn n x (hh x (List.mem_cons_self ..)),ih (fun y hy=>hh y (List.mem_cons_of_mem _ hy))];rfl
  rw[qHM,L t.kids.list (fun x hx=>by have:=TT.mem_size hx; omega)];simp
end Go.Proofs.YtnlmlcfipbnpgaaDoor.Ab
set_option maxHeartbeats 4000000
namespace Go.Proofs.YtnlmlcfipbnpgaaDoor.Ab
open Go Go.AI
def nsQ:Sl (List UInt8) := .mk true nsB
theorem qP4:TreeOK nsQ 8 (treeM nsB 8):=qJO nsQ (by decide) (by decide) 8 (by decide)
theorem z4u(t:TT):put1 z4 0 (pcells t.row)=pcells t.row:=qC0 _ (TT.row_len t)
theorem v14{β:Type}{k:TVal→Heap→Option β}{h:Heap}{d:Nat}{t:TT}(ok:TextOK t):vcall Om (.v (.c (.func 14 []))) [kA t.row] h d k=k (kS (txtM t)) h:=qAE 14 _ _ (by simp only[exP]) ok rfl
theorem v16{β:Type}{k:TVal→Heap→Option β}{h:Heap}{d:Nat}{s:List UInt8}(ok:typeOK s):vcall Om (.v (.c (.func 16 []))) [kS s] h d k=k (.tup [.agg (pcells (typeM s).row),.c (.p (.int .i64 (typeE s)))]) h:=qAE 16 _ _ (by simp only[exP]) (qQ2 s ok) (by simp only[exP])
theorem v17{β:Type}{k:TVal→Heap→Option β}{h:Heap}{d:Nat}{a b:TT}(ok:RSameOK a b):vcall Om (.v (.c (.func 17 []))) [kA a.row,kA b.row] h d k=k (kB (sameT a b)) h:=qAE 17 _ _ (by simp only[exP]) ok rfl
theorem qLG(l:List (List UInt8))(h3:l.length=3)(hg:∀ s∈l,typeOK s):∀ (i:Nat) (h:Heap),lim tab.get S 4 0 1 [kSl 1 true (l.map sRow),kI (i:Int)] h=some (kB true,[]):=by
 refine qB7 3 (fun i hi h => ?_) (fun i hi ihl h => ?_) <;> rw[w4_1,b4_1]
 ·have h1:¬ (i:Int)<3:=by omega
  simp (maxSteps:=9999999) +contextual only[exa,ne_eq,not_false_eq_true,reduceAdd,reduceMul,reduceLT,reduceLeDiff,reduceEqDiff,Int.reduceLT,Int.reduceLE,Int.reduceEq,Int.reduceToNat,h1,oneOf]
 ·have h1:(i:Int)<3:=by omega
  have nxt:∀ hh:Heap,lim tab.get S 4 0 2 [kSl 1 true (l.map sRow),kI (i:Int)] hh=some (kB true,[]):=fun hh=>by
   rw[w4_2,b4_2];have:=ihl hh;generalize kSl 1 true (l.map sRow)=MP at *;simp (maxSteps:=9999999) +contextual only[exa,ne_eq,not_false_eq_true,reduceAdd,reduceMul,reduceLT,reduceLeDiff,reduceEqDiff,Int.reduceLT,Int.reduceLE,Int.reduceEq,Int.reduceToNat,qBW i (by omega),this]
  obtain⟨x,hx,dx,mx⟩:=qAd (l:=l) (i:=i) (by omega);have ok:=hg x mx;have AT:∀ (β:Type) (kk:TVal→Heap→Option β) (hh:Heap),viaddr 1 (kSl 1 true (l.map sRow)) (kI (i:Int)) hh kk=kk (.v (.c (.p (.pptr (sRow x) 0)))) hh:=fun β kk hh=>by
   have:(l.map sRow)[i]?=some (sRow x):=by rw[List.getElem?_map,hx]; rfl
   exact qDp (h:=hh) (k:=kk) 1 true (l.map sRow) i _ this
  generalize kSl 1 true (l.map sRow)=MP at *;have z5':∀ t:TT,(pcells t.row).length=4:=fun t=>by rw[qAS,TT.row_len]
  have Tz:∀ t:TT,(pcells t.row).take 4=pcells t.row:=fun t=>List.take_of_length_le (by rw[z5']; exact Nat.le_refl _)
  by_cases he:typeE x=0
  ·have tok:=qL4 ok he;have ts:=qPn ok he;have C1:=fun(β:Type) (kk:TVal→Heap→Option β) (hh:Heap) (d:Nat)=>v16 (k:=kk) (h:=hh) (d:=d) ok
   have C2:=fun(β:Type) (kk:TVal→Heap→Option β) (hh:Heap) (d:Nat)=>v14 (k:=kk) (h:=hh) (d:=d) tok
   obtain⟨ok2,R⟩:=qO9 (qGH ok he);have C3:=fun(β:Type) (kk:TVal→Heap→Option β) (hh:Heap) (d:Nat)=>v16 (k:=kk) (h:=hh) (d:=d) ok2
   have C4:=fun(β:Type) (kk:TVal→Heap→Option β) (hh:Heap) (d:Nat)=>v17 (k:=kk) (h:=hh) (d:=d) (qOS _ _ _ (Nat.lt_succ_self _) ts ts)
   rw[qFn _ _ (Nat.lt_succ_self _)] at C4;have zt:=z4u (typeM x);have lt:=z5' (typeM x);have et:=Tz (typeM x);have zu:=z4u (typeM (txtM (typeM x)));have lu:=z5' (typeM (txtM (typeM x)));have eu:=Tz (typeM (txtM (typeM x)));rw[he] at C1
   rcases R with r|r|⟨r,e⟩
   ·rw[r] at C3;generalize typeM (txtM (typeM x))=u at *;generalize typeM x=t at *;simp (maxSteps:=9999999) +contextual only[exa,ne_eq,not_false_eq_true,reduceAdd,reduceMul,reduceLT,reduceLeDiff,reduceEqDiff,Int.reduceLT,Int.reduceLE,Int.reduceEq,Int.reduceToNat,exR,exW,h1,AT,C1,C2,C3,zt,lt,et,zu,lu,eu,nxt,oneOf]
   ·rw[r] at C3;generalize typeM (txtM (typeM x))=u at *;generalize typeM x=t at *;simp (maxSteps:=9999999) +contextual only[exa,ne_eq,not_false_eq_true,reduceAdd,reduceMul,reduceLT,reduceLeDiff,reduceEqDiff,Int.reduceLT,Int.reduceLE,Int.reduceEq,Int.reduceToNat,exR,exW,h1,AT,C1,C2,C3,zt,lt,et,zu,lu,eu,nxt,oneOf]
   ·rw[r,e] at C3;generalize typeM x=t at *;simp (maxSteps:=9999999) +contextual only[exa,ne_eq,not_false_eq_true,reduceAdd,reduceMul,reduceLT,reduceLeDiff,reduceEqDiff,Int.reduceLT,Int.reduceLE,Int.reduceEq,Int.reduceToNat,exR,exW,h1,AT,C1,C2,C3,C4,zt,lt,et,nxt,oneOf]
  ·have C1:=fun(β:Type) (kk:TVal→Heap→Option β) (hh:Heap) (d:Nat)=>v16 (k:=kk) (h:=hh) (d:=d) ok
   have zt:=z4u (typeM x);have lt:=z5' (typeM x);have et:=Tz (typeM x);generalize typeM x=t at *;simp (maxSteps:=9999999) +contextual only[exa,ne_eq,not_false_eq_true,reduceAdd,reduceMul,reduceLT,reduceLeDiff,reduceEqDiff,Int.reduceLT,Int.reduceLE,Int.reduceEq,Int.reduceToNat,exR,exW,h1,AT,C1,he,zt,lt,et,nxt,oneOf]
theorem qMK(r:RW)(s:Sl Int):orc S (lim tab.get S) 4 [kA r.row,IsP s] []=some (kB true,[]):=by
 refine(qAB rfl).trans ?_;show lim tab.get S 4 0 0 [kA r.row,IsP s] h0=_;rw[w4_0,b4_0];have u10:CAL 10 [] (kB true):=fun{β k h d}=>qAE 10 _ _ rfl qPT rfl
 by_cases ha:fewR r 60=0
 ·simp (maxSteps:=9999999) +contextual only[exa,ne_eq,not_false_eq_true,reduceAdd,reduceMul,reduceLT,reduceLeDiff,reduceEqDiff,Int.reduceLT,Int.reduceLE,Int.reduceEq,Int.reduceToNat,exR,u10,u11,ha,oneOf]
 have sa:=qLm (by decide) ha;have N1:∀ (β:Type) (kk:TVal→Heap→Option β) (hh:Heap),vop Om (.bslice 1 1 [.p (.str [])] [(0,.k (kS [65]))] false) hh 18 kk=kk (.v (.c (.p (slP 1 sRow nsQ)))) hh:=fun _ _ _=>qAU _ _ rfl
 have N2:∀ (β:Type) (kk:TVal→Heap→Option β) (hh:Heap) (a b c:List UInt8),vop Om (.bslice 1 3 [.p (.str [])] [(0,.k (kS a)),(1,.k (kS b)),(2,.k (kS c))] false) hh 27 kk=kk (kSl 1 true ([a,b,c].map sRow)) hh:=fun _ _ _ _ _ _=>qAU _ _ rfl
 have ya:CAL 12 [kA r.row,kI 8,.v (.c (.p (slP 1 sRow nsQ)))] (kA (treeM nsB 8 r).row):=fun{β k h d}=>u12 qP4 r sa
 have yt:=fun(β:Type) (kk:TVal→Heap→Option β) (hh:Heap) (d:Nat)=>v14 (k:=kk) (h:=hh) (d:=d) (qKL r)
 have ym:=fun(β:Type) (kk:TVal→Heap→Option β) (hh:Heap) (d:Nat)=>u15 (k:=kk) (h:=hh) (d:=d) s
 have ml:=qPu s.list;have V1:∀ (β:Type) (kk:TVal→Heap→Option β) (hh:Heap),vbin .add 0 (kS [123]) (kS (mixM s.list)) hh kk=kk (kS ([123]++mixM s.list)) hh:=fun β kk hh=>qKl _ _ (by simp; omega)
 have V2:∀ (β:Type) (kk:TVal→Heap→Option β) (hh:Heap),vbin .add 0 (kS ([123]++mixM s.list)) (kS [125]) hh kk=kk (kS ([123]++mixM s.list++[125])) hh:=fun β kk hh=>qKl _ _ (by simp; omega)
 have fin:=qLG [txtM (treeM nsB 8 r),mixM s.list,[123]++mixM s.list++[125]] rfl (fun x hx=>by
  rcases List.mem_cons.1 hx with rfl|hx
  ·exact(qO9 (qN5 r)).1
  rcases List.mem_cons.1 hx with rfl|hx
  ·exact qQz _
  rcases List.mem_cons.1 hx with rfl|hx
  ·exact qQa _
  ·cases hx) 0
 generalize txtM (treeM nsB 8 r)=tx at *;generalize treeM nsB 8 r=t at *;generalize mixM s.list=mx at *;generalize hM:kSl 1 true ([tx,mx,[123]++mx++[125]].map sRow)=MP at *;have N3:∀ (β:Type) (kk:TVal→Heap→Option β) (hh:Heap),vop Om (.bslice 1 3 [.p (.str [])] [(0,.k (kS tx)),(1,.k (kS mx)),(2,.k (kS ([123]++mx++[125])))] false) hh 27 kk=kk MP hh:=fun β kk hh=>by rw[← hM]; exact N2 β kk hh _ _ _
 have fin0:∀ hh:Heap,lim tab.get S 4 0 1 [MP,kI 0] hh=some (kB true,[]):=fin;simp (maxSteps:=9999999) +contextual only[exa,ne_eq,not_false_eq_true,reduceAdd,reduceMul,reduceLT,reduceLeDiff,reduceEqDiff,Int.reduceLT,Int.reduceLE,Int.reduceEq,Int.reduceToNat,exR,u10,u11,ha,N1,ya,yt,ym,V1,V2,N3,fin0,oneOf]
def mixI:Option (List Int)→Sl Int
 |none => .nil
 |some l => .mk false l
theorem qP1(o:Option (List Int)):intsP .i64 o=slP 1 iRow (mixI o):=by cases o <;> rfl
theorem again_run(r:RW)(o:Option (List Int)):orc S (lim tab.get S) 4 [kA r.row,.v (.c (.p (intsP .i64 o)))] []=some (kB true,[]):=by
 rw[qP1];exact qMK r (mixI o)
end Go.Proofs.YtnlmlcfipbnpgaaDoor.Ab
