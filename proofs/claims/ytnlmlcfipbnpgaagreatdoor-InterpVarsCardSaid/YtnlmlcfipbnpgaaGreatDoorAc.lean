/- An abstract interpreter of the model's code,shown sound. Own work. Condition: what each theorem names. -/
import Derived.Test.YtnlmlcfipbnpgaaGreatDoorAb
import Derived.Calls
import Derived.Orders
import Derived.LoopN
import Derived.Scope
import Derived.Below
import Derived.ChangeSame
set_option linter.all false
set_option linter.unusedVariables false
set_option linter.unusedSimpArgs false
set_option linter.unusedSectionVars false
namespace Go.AI
variable [Sym]
def envBack(ρ ρ':Env)(k n:Nat):Env
 |.own e g'=>ρ (.own e g')
 |.im i=>if n<=i then ρ' (.im (k+(i - n))) else ρ (.im i)
theorem qHz(ρ ρ':Env)(k n j:Nat):envBack ρ ρ' k n (newRef n j)=ρ' (.im (k+j)):=by
 simp only[envBack,newRef]; rw[if_pos (by omega)]; congr 2; omega
section
variable {ρ:Env} {I:Imm} {h:Heap} {w:World} {rs:List Ref} {ρ':Env} {I':Imm} {objs':List AObj} {w':World}
theorem qE3(H:WRel ρ I h w):ρ.le (envBack ρ ρ' rs.length h.ims.length):=by
 intro r l e;cases r with
 |own e' g' =>
  exact e
 |im i =>
  have:=H.freshi i l e;simp only[envBack];rw[if_neg (by omega)];exact e
theorem qG3{m:Nat}(H:WRel ρ I h w)(hlive:∀ r∈rs,∃ o,h.get r=some o)(hle:(envOf ρ rs).le ρ')(hown:∀ e g,ρ' (.own e g)=none) :
  ∀ r s l,back rs m (newRef h.ims.length) r=some s->ρ' r=some l->envBack ρ ρ' rs.length h.ims.length s=some l:=by
 intro r s l hs hr;cases r with
 |own e g=>rw[hown] at hr; cases hr
 |im i =>
  simp only[back] at hs;cases hi:rs[i]? with
  |none =>
   rw[hi] at hs;dsimp only at hs;cases hb:Nat.blt i m with
   |false=>rw[hb] at hs; cases hs
   |true =>
   rw[hb] at hs;simp only[cond_true,Option.some.injEq] at hs;subst hs;rw[qHz];have:=List.getElem?_eq_none_iff.1 hi;rw[show rs.length+(i - rs.length)=i by omega];exact hr
  |some r0 =>
   rw[hi] at hs; simp only[Option.some.injEq] at hs;subst hs;obtain⟨o,ho⟩:=hlive r0 (List.mem_of_getElem? hi);obtain⟨l0,e0,_⟩:=H.live r0 o ho;have h1:envOf ρ rs (.im i)=some l0:=by simp[envOf,hi,e0]
   have h2:=hle _ _ h1;rw[hr] at h2; cases h2;exact qE3 H _ _ e0
theorem qQD(H:WRel ρ I h w)(hnd:rs.Nodup)(hlive:∀ r∈rs,∃ o,h.get r=some o)(H':WRel ρ' I' { ims:=objs',owns := .nil } w')(hG:Good (envOf ρ rs) I (heapOf h rs) w ρ' I' { ims:=objs',owns := .nil } w')
  (hown:∀ e g,ρ' (.own e g)=none) (hlen:rs.length<=objs'.length) :
  let σ:=back rs objs'.length (newRef h.ims.length)
  let h2:=callHeap h rs (objs'.map (AObj.ren σ))
  let ρ2:=envBack ρ ρ' rs.length h.ims.length
  WRel ρ2 I' h2 w'/\Good ρ I h w ρ2 I' h2 w':=by
 intro σ h2 ρ2;have hle:ρ.le ρ2:=qE3 H;have hσ:∀ r s l,σ r=some s->ρ' r=some l->ρ2 s=some l:=qG3 H hlive hG.env hown;have hhas:∀ r∈rs,Has h r:=λr hr=>let ⟨o,ho⟩:=hlive r hr; Has.of_get ho
 have hgen:=qGy (os:=objs'.map (AObj.ren σ)) hhas;have hcase:∀ r o,h2.get r=some o->(∃ i x,({ ims:=objs',owns := .nil }:Heap).get (.im i)=some x/\o=x.ren σ/\σ (.im i)=some r)\/(r∉rs/\h.get r=some o):=by
  intro r o hr;have hnd':=Heap.get_ne_dead hr;have obj:∀ (i:Nat),(objs'.map (AObj.ren σ))[i]?=some o->∃ x,({ ims:=objs',owns := .nil }:Heap).get (.im i)=some x/\o=x.ren σ:=by
   intro i hi;rw[List.getElem?_map] at hi;cases hx:objs'[i]? with
   |none=>rw[hx] at hi; cases hi
   |some x =>
    rw[hx] at hi; simp only[Option.map_some,Option.some.injEq] at hi;subst hi;refine⟨x,?_,rfl⟩;unfold Heap.get;simp only[hx];split
    ·rename_i e; cases e; exact absurd rfl hnd'
    ·rfl
  rcases qGZ hnd (by simpa using hlen) hhas hr with ⟨i,a,b⟩|⟨j,a,b⟩|c
  ·obtain⟨x,x1,x2⟩:=obj i b;exact .inl ⟨i,x,x1,x2,by show back rs _ _ (.im i)=_; simp only[back,a]⟩
  ·obtain⟨x,x1,x2⟩:=obj _ b;refine .inl ⟨_,x,x1,x2,?_⟩;have hjl:rs.length+j<objs'.length:=by
    have:=(List.getElem?_eq_some_iff.1 b).1
    simpa using this
   have hbl:Nat.blt (rs.length+j) objs'.length=true:=by rw[Nat.blt_eq]; exact hjl
   show back rs _ _ (.im _)=_;simp only[back];rw[List.getElem?_eq_none (by omega)];simp only[hbl,cond_true,Nat.add_sub_cancel_left,a]
  ·exact .inr c
 have hnot:∀ r o l,r∉rs->h.get r=some o->ρ r=some l->¬ owned (envOf ρ rs) (heapOf h rs) l.blk:=by
  intro r o l hr ho hl ⟨r1,o1,l1,a,b,c⟩;obtain⟨i,s,x,rfl,hs,hx,rfl⟩:=qBD a;simp[envOf,hs] at b;exact H.inj s r x o l1 l hx ho b hl (λe=>hr (by rw[<- e]; exact List.mem_of_getElem? hs)) c
 have hoff:∀ r o l,r∉rs->h.get r=some o->ρ r=some l->∀ i x l',({ ims:=objs',owns := .nil }:Heap).get (.im i)=some x->ρ' (.im i)=some l'->l'.blk≠l.blk:=by
  intro r o l hr ho hl i x l' hx hl' e
  rcases hG.own l'.blk ⟨_,x,l',hx,hl',rfl⟩ with a|a
  ·rw[e] at a; exact hnot r o l hr ho hl a
  ·have:=H.lt ho hl; omega
 have at2:∀ {i x r l},({ ims:=objs',owns := .nil }:Heap).get (.im i)=some x->σ (.im i)=some r->ρ2 r=some l->ρ' (.im i)=some l:=by
  intro i x r l hx hs hl;obtain⟨l0,e0,_⟩:=H'.live _ _ hx;have:=hσ _ _ _ hs e0;rw[this] at hl; cases hl; exact e0
 have atC:∀ {r o l},h.get r=some o->ρ2 r=some l->ρ r=some l:=by
  intro r o l ho hl;obtain⟨l0,e0,_⟩:=H.live r o ho;have:=hle _ _ e0;rw[this] at hl; cases hl; exact e0
 constructor
 ·refine⟨λr o hr => ?_,λr r' o o' l l' hr hr' hl hl' hne => ?_,H'.icell,H'.imap,λr o l hr hl b k v hv hb => ?_,λr o l hr hl => ?_,λe g l hl => ?_,λi l hl => ?_⟩
  ·rcases hcase r o hr with ⟨i,x,hx,rfl,hs⟩|⟨hn,ho⟩
   ·obtain⟨l,e,ho⟩:=H'.live _ _ hx;exact⟨l,hσ _ _ _ hs e,qIL hσ ho⟩
   ·obtain⟨l,e,hob⟩:=H.live _ _ ho;exact⟨l,hle _ _ e,(hob.mono hle hG.imm).of_block (hG.keep.block _ (H.lt ho e) (hnot r o l hn ho e))⟩
  ·rcases hcase r o hr with ⟨i,x,hx,rfl,hs⟩|⟨hn,ho⟩ <;> rcases hcase r' o' hr' with ⟨i',x',hx',rfl,hs'⟩|⟨hn',ho'⟩
   ·exact H'.inj _ _ _ _ _ _ hx hx' (at2 hx hs hl) (at2 hx' hs' hl') λe=>hne (by cases e; rw[hs] at hs'; exact Option.some.inj hs')
   ·exact hoff r' o' l' hn' ho' (atC ho' hl') i x l hx (at2 hx hs hl)
   ·exact(hoff r o l hn ho (atC ho hl) i' x' l' hx' (at2 hx' hs' hl')).symm
   ·exact H.inj _ _ _ _ _ _ ho ho' (atC ho hl) (atC ho' hl') hne
  ·rcases hcase r o hr with ⟨i,x,hx,rfl,hs⟩|⟨hn,ho⟩
   ·rw[qIJ]; exact H'.apart _ _ _ hx (at2 hx hs hl) b k v hv hb
   ·rcases hG.inew b k v hv with a|a|a
    ·exact H.apart _ _ _ ho (atC ho hl) b k v a hb
    ·subst hb; exact absurd a (hnot r o l hn ho (atC ho hl))
    ·have:=H.lt ho (atC ho hl); omega
  ·rcases hcase r o hr with ⟨i,x,hx,rfl,hs⟩|⟨hn,ho⟩
   ·exact H'.apartm _ _ _ hx (at2 hx hs hl)
   ·cases hm:I'.map l.blk with
    |none=>rfl
    |some y =>
     rcases hG.mnew _ _ hm with a|a|a
     ·rw[H.apartm _ _ _ ho (atC ho hl)] at a; cases a
     ·exact absurd a (hnot r o l hn ho (atC ho hl))
     ·have:=H.lt ho (atC ho hl); omega
  ·show g<=h2.gen e;simp only[ρ2,envBack] at hl;exact Nat.le_trans (H.fresh e g l hl) (hgen.1 e)
  ·show i<h2.ims.length;simp only[ρ2,envBack] at hl;split at hl
   ·rename_i hh;have:=H'.freshi _ _ hl;exact hgen.2.2 (i - h.ims.length) (by simp only[List.length_map] at this ⊢; omega) i (by simp only[newRef]; congr 1; omega)
   ·exact Nat.lt_of_lt_of_le (H.freshi i l hl) hgen.2.1
 ·refine⟨hle,hG.imm,⟨hG.keep.os,hG.keep.tape,hG.keep.output,hG.keep.size,λb hb hn=>hG.keep.block b hb λa=>hn (qBU a)⟩,λb ho => ?_,λb k v hv=>(hG.inew b k v hv).imp id (·.imp qBU id),λb v hv=>(hG.mnew b v hv).imp id (·.imp qBU id)⟩;obtain⟨r,o,l,hr,hl,e⟩:=ho
  rcases hcase r o hr with ⟨i,x,hx,rfl,hs⟩|⟨hn,ho⟩
  ·exact(hG.own b ⟨_,x,l,hx,at2 hx hs hl,e⟩).imp qBU id
  ·exact .inl ⟨r,o,l,ho,atC ho hl,e⟩
end
def FSound(P:Program)(G:Nat->Option (List PVal))(O:Oracle):Prop:=∀ f args objs v objs',O f args objs=some (v,objs') ->
 (∃ fn,P.funcs[f]?=some fn/\fn.body.isSome=true/\fn.name ≠ "runtime.NumGoroutine") /\
 ∀ ρ I w (avs:Array Value),GRel G I->WRel ρ I { ims:=objs,owns := .nil } w->All2 (TRel ρ I) args avs.toList->(∀ d g,ρ (.own d g)=none) ->
  Calls P f avs w λe w'=>∃ cv ρ' I',e = .returned cv/\TRel ρ' I' v cv/\WRel ρ' I' { ims:=objs',owns := .nil } w'/\Good ρ I { ims:=objs,owns := .nil } w ρ' I' { ims:=objs',owns := .nil } w'/\(∀ d g,ρ' (.own d g)=none)
theorem qDW{h:Heap}{rs:List Ref}{objs:List AObj}(hm:rs.mapM h.get=some objs):(∀ r∈rs,∃ o,h.get r=some o)/\objs.map (AObj.ren (inn rs))=rs.map (objOf h rs):=by
 have h1:=qAP hm;have key:∀ (σ:Ref->Option Ref) (l:List Ref) (m:List AObj),All2 (λr o=>h.get r=some o) l m->(∀ r∈l,∃ o,h.get r=some o)/\m.map (AObj.ren σ)=l.map (λr=>match h.get r with|some o=>o.ren σ|none => .dead):=by
  intro σ l
  induction l with
  |nil=>intro m hm; cases m with
   |nil=>exact⟨by simp,rfl⟩
   |cons _ _=>exact hm.elim
  |cons r l ih=>intro m hm; cases m with
   |nil=>exact hm.elim
   |cons o m =>
    obtain⟨a,b⟩:=ih m hm.2;refine⟨λs hs => ?_,?_⟩
    ·rcases List.mem_cons.1 hs with rfl|hs
     ·exact⟨o,hm.1⟩
     ·exact a s hs
    ·simp only[List.map_cons,b,hm.1]
 exact key (inn rs) _ _ h1
theorem qN9{P:Program}{G:Nat->Option (List PVal)}{O:Oracle}(hO:FSound P G O){ρ:Env}{I:Imm}{h:Heap}{w:World}(hG:GRel G I)(H:WRel ρ I h w){f:FuncId}{args:List TVal}{avs:Array Value}(ha:All2 (TRel ρ I) args avs.toList)
  {d:Nat} (hd:d+1<1048576) {v:TVal} {h':Heap} {t:Touch} (hc:callOp O f args d h=some (v,h',t)) :
  (∃ fn,P.funcs[f]?=some fn/\fn.body.isSome=true/\fn.name ≠ "runtime.NumGoroutine") /\
  Calls P f avs w λe w'=>∃ cv ρ' I',e = .returned cv/\TRel ρ' I' v cv/\WRel ρ' I' h' w'/\Good ρ I h w ρ' I' h' w':=by
 unfold callOp at hc;dsimp only at hc;generalize hrs:reach h fuelReach ((args.map TVal.strip).flatMap TVal.refs) []=rs at hc;have hnd:rs.Nodup:=by rw[<- hrs]; exact(qEU h _ _ [] (by simp)).1
 split at hc
 ·cases hc
 ·rename_i objs hobjs;split at hc
  ·cases hc
  ·rename_i v0 objs' hO';split at hc
   ·cases hc
   ·rename_i hlen;obtain⟨hlive,hmap⟩:=qDW hobjs;rw[hmap] at hO';obtain⟨hf,hcall⟩:=hO _ _ _ _ _ hO';refine⟨hf,?_⟩;have:=hcall (envOf ρ rs) I w avs hG (H.heapOf hnd) ?_ (λd g=>rfl)
    ·refine Calls.mono this λe w' ⟨cv,ρ',I',e1,e2,e3,e4,e5⟩ => ?_
     obtain⟨m1,m2⟩:=qQD H hnd hlive e3 e4 e5 (by omega);have hσ:=qG3 (m:=objs'.length) H hlive e4.env e5;simp only[Option.some.injEq,Prod.mk.injEq] at hc;obtain⟨c1,c2,_⟩:=hc;refine⟨cv,envBack ρ ρ' rs.length h.ims.length,I',e1,?_,?_,?_⟩
     ·rw[<- c1]; exact qJF hσ e2
     ·have:h'=callHeap h rs (objs'.map (AObj.ren (back rs objs'.length (newRef h.ims.length)))):=by rw[<- c2]; rfl
      rw[this]; exact m1
     ·have:h'=callHeap h rs (objs'.map (AObj.ren (back rs objs'.length (newRef h.ims.length)))):=by rw[<- c2]; rfl
      rw[this]; exact m2
    ·rw[List.map_map];exact ha.mapL λa b hab=>qJF qFg (qOj hab)
end Go.AI
namespace Go.AI
variable [Sym]
section
variable {P:Program} {G:Nat->Option (List PVal)} {O:Oracle} {ρ:Env} {I:Imm} {w:World} {nt:Nat} {heap:Nat->Bool}
theorem qMv{a:Act}{dst:Option Tmp}{v:Value}:(a.put dst v).tmps=(match dst with|some d=>a.tmps.setIfInBounds d v|none=>a.tmps)/\(a.put dst v).defers=a.defers:=by
 cases dst <;> exact⟨rfl,rfl⟩
theorem SRel.put{st:St}{a:Act}(S:SRel nt ρ I st a w){ρ':Env}{I':Imm}{h':Heap}{w':World}(H':WRel ρ' I' h' w')(hle:ρ.le ρ')(hI:I.le I'){dst:Option Tmp}(hd:∀ d,dst=some d->d<nt){v:TVal}{cv:Value}(hv:TRel ρ' I' v cv) :
  SRel nt ρ' I' { tm:=setDst st.tm dst v,h:=h' } (a.put dst cv) w':=by
 obtain⟨h1,h2⟩:=qMv (a:=a) (dst:=dst) (v:=cv);refine⟨H',λt u hu => ?_,?_,by rw[h2]; exact S.defers⟩
 ·rw[h1];cases dst with
  |none=>exact(S.tm t u hu).mono hle hI
  |some d =>
   simp only[setDst] at hu;by_cases hdt:d=t
   ·subst hdt;have:=TM.get_set_some _ _ _ _ hu;subst this;have hlt:d<a.tmps.size:=by rw[S.size]; exact hd d rfl
    simpa [hlt] using hv
   ·rw[TM.get_set_ne _ _ _ _ hdt] at hu;have:=(S.tm t u hu).mono hle hI
    simpa [Array.getElem?_setIfInBounds_ne hdt] using this
 ·rw[h1];cases dst with
  |none=>exact S.size
  |some d=>simp[S.size]
theorem qGC:TRel ρ I .undef undef:=⟨#[],rfl,trivial⟩
theorem qLO{a:Act}{tm:TM TVal}{h:Heap}(C:Here P G ρ I h w tm a):∀ {xs:List Operand}{xs':List X}{as:List TVal},xs.mapM (compX G)=some xs'->xs'.mapM (λx=>x.ev tm)=some as->All2 (TRel ρ I) as (xs.map a.eval):=by
 intro xs
 induction xs with
 |nil =>
  intro xs' as h1 h2;simp at h1; subst h1;simp at h2; subst h2;trivial
 |cons x xs ih =>
  intro xs' as h1 h2;have h1':=qAP h1;cases xs' with
  |nil=>exact h1'.elim
  |cons x' xs' =>
   have h2':=qAP h2;cases as with
   |nil=>exact h2'.elim
   |cons u as =>
    simp only[List.mapM_cons,Option.bind_eq_bind,Option.bind_eq_some_iff,Option.pure_def,Option.some.injEq] at h1 h2;obtain⟨y,_,ys,e1,e2⟩:=h1;obtain⟨z,_,zs,e3,e4⟩:=h2;cases e2; cases e4;exact⟨C.ev h1'.1 h2'.1,ih e1 e3⟩
theorem qNI:∀ {caps:List Ref}{ls:List Loc},All2 (λr l=>ρ r=some l) caps ls->All2 (TRel ρ I) (caps.map λr => .v (.c (.ptr r 0))) (ls.map locPtr):=by
 intro caps
 induction caps with
 |nil=>intro ls h; cases ls with
  |nil=>trivial
  |cons _ _=>exact h.elim
 |cons r caps ih=>intro ls h; cases ls with
  |nil=>exact h.elim
  |cons l ls=>exact⟨CRel.ptr r 0 l h.1,ih h.2⟩
def Leaves(P:Program)(nt:Nat)(ρ:Env)(I:Imm)(st:St)(w:World)(st1:St)(K:Act->World->Prop):Prop :=
 ∀ ρ' I' a' w',SRel nt ρ' I' st1 a' w'->Good ρ I st.h w ρ' I' st1.h w'->K a' w'
theorem qHw{op:Op}{f:X}{args:List X}(h:compOp P G heap op=some (.call f args)):∃ c fo,op = .call c/\c.callee = .value fo/\compX G fo=some f/\c.args.toList.mapM (compX G)=some args:=by
 cases op
 case call c =>
  simp only[compOp] at h;unfold compCall at h;split at h
  ·rename_i fo hfo;simp only[Option.bind_eq_bind,Option.bind_eq_some_iff,Option.pure_def,Option.some.injEq,AOp.call.injEq] at h;obtain⟨f',h1,as,h2,h3,h4⟩:=h;exact⟨c,fo,rfl,hfo,by rw[h1,h3],by rw[h2,h4]⟩
  ·cases h
  ·simp only[Option.bind_eq_bind,Option.bind_eq_some_iff] at h;obtain⟨xs,_,h⟩:=h;split at h
   ·split at h <;> simp at h
   ·split at h <;> simp at h
   ·split at h <;> simp[Option.bind_eq_some_iff] at h
    all_goals (obtain⟨_,_,_,_,_,_,h⟩:=h; split at h <;> simp at h)
   ·split at h
    ·simp[Option.bind_eq_some_iff] at h
    ·cases h
   ·simp at h
   ·simp at h
   ·cases h
 all_goals
  exfalso;revert h;unfold compOp
  try dsimp only
  intro h
  repeat' (first|(cases h; done)|(simp[Option.bind_eq_some_iff] at h; done)|split at h)
  all_goals (try simp[Option.bind_eq_some_iff] at h)
  all_goals (repeat' (first|(cases h; done)|(obtain⟨_,_,h⟩:=h)|split at h))
  all_goals (rename_i e; cases e)
theorem qLU{tm:TM TVal}{aop:AOp}{f:FuncId}{as:List TVal}(h:plan tm aop=some (.call f as)):∃ x xs g caps as',aop = .call x xs/\x.ev tm=some (.v (.c (.func g caps)))/\xs.mapM (λx=>x.ev tm)=some as'/\f=g/\as=as'++caps.map λr => .v (.c (.ptr r 0)):=by
 have hpure:∀ v,Plan.pure v ≠ .call f as:=λv e=>by cases e
 have hread:∀ r k,Plan.read r k ≠ .call f as:=λr k e=>by cases e
 have hwrite:∀ r k,Plan.write r k ≠ .call f as:=λr k e=>by cases e
 have hmk:∀ o b k,Plan.mk1 o b k ≠ .call f as:=λo b k e=>by cases e
 cases aop
 case call x xs =>
  simp only[plan] at h;split at h
  ·rename_i g caps hx;simp only[Option.bind_eq_bind,Option.bind_eq_some_iff,Option.pure_def,Option.some.injEq,Plan.call.injEq] at h;obtain⟨as',h1,h2,h3⟩:=h;exact⟨x,xs,g,caps,as',rfl,hx,h1,h2.symm,h3.symm⟩
  ·cases h
 all_goals
  exfalso;unfold plan at h
  try dsimp only at h
  repeat' (first|(cases h; done)|(simp[Option.bind_eq_some_iff,hpure,hread,hwrite,hmk] at h; done)|split at h)
  all_goals (try simp[Option.bind_eq_some_iff,hpure,hread,hwrite,hmk] at h)
  all_goals (repeat' (first|(cases h; done)|(obtain⟨_,_,h⟩:=h)|split at h))
theorem SRel.here{st:St}{a:Act}(S:SRel nt ρ I st a w)(hG:GRel G I):Here P G ρ I st.h w st.tm a:=⟨hG,S.heap,S.tm⟩
theorem qJW{fo:Operand}{c:Call}{a:Act}{o:Oper}(ho:o.op = .call c)(hc:c.callee = .value fo){g:FuncId}{caps:Array Value}(hf:a.eval fo = .func (.func g) #[] caps)
  (hfn:∃ fn,P.funcs[g]?=some fn/\fn.body.isSome=true/\fn.name ≠ "runtime.NumGoroutine"):(execOp a.eval o).run P w = .ok (.enter g (c.args.map a.eval++caps)) w:=by
 obtain⟨fn,h1,h2,h3⟩:=hfn;have hb:fn.body.isNone=false:=by cases hb:fn.body <;> simp_all
 have he:execOp a.eval o=(do let d <- resolve a.eval c o.type; invoke d.target d.args):=by unfold execOp; rw[ho]
 have hr:resolve a.eval c o.type=pure { target := .fn (.func g) caps,args:=#[]++c.args.map a.eval }:=by unfold resolve; rw[hc]; simp only[hf]; rfl
 have h3':(fn.name == "runtime.NumGoroutine")=false:=by simpa using h3
 rw[he,hr];have hi:∀ args,invoke (.fn (.func g) caps) args=callFunc g (args++caps):=λargs=>rfl
 have hbn:¬ fn.body=none:=by intro e; rw[e] at h2; cases h2
 simp[hi,callFunc,h1];rw[if_neg h3,if_neg hbn]
theorem qNE{o:Oper}{a:Act}{next:Act->World->Prop}{Q:Exit->Act->World->Prop}{v:Value}{w':World}(h:(execOp a.eval o).run P w = .ok (.value v) w')(hn:next (a.put o.dst v) w'):o.wp P a w next Q:=by
 unfold Oper.wp; rw[h]; exact hn
theorem wp_skip{o:Oper}{a:Act}{next:Act->World->Prop}{Q:Exit->Act->World->Prop}{w':World}(h:(execOp a.eval o).run P w = .ok .skip w')(hn:next (a.put o.dst undef) w'):o.wp P a w next Q:=by
 unfold Oper.wp; rw[h]; exact hn
theorem qQG(hO:FSound P G O)(hG:GRel G I){st:St}{a:Act}(S:SRel nt ρ I st a w)(hnt:nt<1000000){o:Oper}{aop:AOp}(hc:compOp P G heap o.op=some aop)(hdst:∀ d,o.dst=some d->d<nt){gd:Option (Nat×Bool)}{st1:St}{t:Touch}
  (hs:doOp O { dst:=o.dst,op:=aop,guard:=gd } st=some (st1,t)) {K:Act->World->Prop} {Q:Exit->Act->World->Prop} (hK:Leaves P nt ρ I st w st1 K):o.wp P a w K Q:=by
 unfold doOp at hs;dsimp only at hs;have hd:o.dst.getD 1000000+1<1048576:=by
  cases h:o.dst with
  |none=>simp
  |some d=>exact Nat.lt_of_le_of_lt (hdst d h) (by omega)
 split at hs
 ·cases hs
 ·rename_i p hp;split at hs
  ·cases hs
  ·rename_i v h t' hv;simp only[Option.some.injEq,Prod.mk.injEq] at hs;obtain⟨e1,e2⟩:=hs;subst e1;cases p with
   |go needs k =>
    have hv':(Plan.go needs k).doGo (o.dst.getD 1000000) st.h=some (v,h,t'):=hv;obtain⟨w',ρ',I',hres,hW,hGd⟩:=qQU (S.here (P:=P) hG) hd rfl hc hp hv'
    rcases hres with ⟨cv,hr,hv⟩|⟨hr,hv⟩
    ·exact qNE hr (hK ρ' I' _ _ (S.put hW hGd.env hGd.imm hdst hv) hGd)
    ·subst hv;exact wp_skip hr (hK ρ' I' _ _ (S.put hW hGd.env hGd.imm hdst qGC) hGd)
   |call f as =>
    obtain⟨x,xs,g,caps,as',rfl,hx,hxs,rfl,rfl⟩:=qLU hp;obtain⟨c,fo,hop,hcal,hfo,hargs⟩:=qHw hc;have C:=S.here (P:=P) hG;have hfv:=C.ev hfo hx;have hfv':=qAC hfv;generalize hfe:a.eval fo=fv at hfv';cases hfv' with|func _ _ ls hls =>
    have hall:All2 (TRel ρ I) (as'++caps.map λr => .v (.c (.ptr r 0))) (c.args.map a.eval++(ls.map locPtr).toArray).toList:=by
     simp only[Array.toList_append,Array.toList_map];exact All2.append (qLO C hargs hxs) (qNI hls)
    obtain⟨hfn,hcall⟩:=qN9 hO hG S.heap hall hd hv;have hrun:=qJW (w:=w) hop hcal hfe hfn;unfold Oper.wp;rw[hrun,Oper.upon_enter];refine Calls.mono hcall λe w' ⟨cv,ρ',I',e1,e2,e3,e4⟩ => ?_
    subst e1;exact hK ρ' I' _ _ (S.put e3 e4.env e4.imm hdst e2) e4
theorem qDy{ops:Array Oper}{o:Oper}{ao:AOper}(h:compOper P G nt heap ops o=some ao):(∀ d,o.dst=some d->d<nt)/\ao.dst=o.dst/\ao.op=(compOp P G heap o.op).getD .bad /\
  ((o.guard=none/\ao.guard=none)\/∃ j want t,o.guard=some (j,want)/\(ops[j]?).bind (·.dst)=some t/\ao.guard=some (t,want)):=by
 unfold compOper at h;cases hg:o.guard with
 |none =>
  rw[hg] at h;simp only[Option.bind_eq_bind,Option.bind_some] at h;split at h
  ·rename_i hall;simp only[Option.pure_def,Option.some.injEq] at h;subst h;exact⟨λd hd=>by rw[hd] at hall; simpa using hall,rfl,rfl,.inl ⟨rfl,rfl⟩⟩
  ·cases h
 |some p =>
  obtain⟨j,want⟩:=p;rw[hg] at h;dsimp only at h;cases ht:(ops[j]?).bind (·.dst) with
  |none=>rw[ht] at h; cases h
  |some t =>
   rw[ht] at h;simp only[Option.bind_eq_bind,Option.bind_some] at h;split at h
   ·rename_i hall;simp only[Option.pure_def,Option.some.injEq] at h;subst h;exact⟨λd hd=>by rw[hd] at hall; simpa using hall,rfl,rfl,.inr ⟨j,want,t,rfl,ht,rfl⟩⟩
   ·cases h
theorem qAx(hO:FSound P G O)(hG:GRel G I){st:St}{a:Act}(S:SRel nt ρ I st a w)(hnt:nt<1000000){ops:Array Oper}{i:Nat}{o:Oper}(hi:ops[i]?=some o){ao:AOper}(hc:compOper P G nt heap ops o=some ao){st1:St}{t:Touch}
  (hs:stepOp O ao st=some (st1,t)) {K:Act->World->Prop} {Q:Exit->Act->World->Prop} (hK:Leaves P nt ρ I st w st1 K):wpOp P ops Q i K a w:=by
 obtain⟨hdst,e1,e2,e3⟩:=qDy hc;obtain⟨dst,op,gd⟩:=ao;dsimp only at e1 e2 e3;subst e1;have doit:∀ (hs:doOp O { dst:=o.dst,op:=op,guard:=gd } st=some (st1,t)),o.wp P a w K Q:=by
  intro hs;cases hop:compOp P G heap o.op with
  |none =>
   rw[hop] at e2;subst e2;simp[doOp,plan] at hs
  |some aop =>
   rw[hop] at e2;subst e2;exact qQG hO hG S hnt hop hdst hs hK
 unfold wpOp;simp only[hi]
 rcases e3 with ⟨g1,g2⟩|⟨j,want,tg,g1,g2,g3⟩
 ·subst g2;have hw:Region.wanted o (yielded ops a.tmps)=true:=by simp[Region.wanted,g1]
  simp only[hw,if_true];exact .inl (doit hs)
 ·subst g3;have hskip:st1={ st with tm:=setDst st.tm o.dst .undef }->K (a.put o.dst undef) w:=by
   intro e;subst e;exact hK ρ I _ _ (S.put S.heap (Env.le_refl _) (Imm.le_refl _) hdst qGC) (Good.refl _ _ _ _)
  unfold stepOp at hs;dsimp only at hs;split at hs
  ·rename_i b hb;have hv:a.tmps.getD tg undef = .bool b:=qA9 (S.tm _ _ hb);have hy:yielded ops a.tmps j=some b:=by
    unfold yielded;rw[g2];have:a.tmps[tg]?=some (.bool b):=by
     rw[Array.getD_eq_getD_getElem?] at hv;cases hh:a.tmps[tg]? with
     |none=>rw[hh] at hv; cases hv
     |some x=>rw[hh] at hv; simp at hv; rw[hv]
    simp[this]
   cases hbw:(b==want) with
   |true =>
    rw[hbw] at hs;have hw:Region.wanted o (yielded ops a.tmps)=true:=by simp[Region.wanted,g1,hy]; simpa using hbw
    simp only[hw,if_true];exact .inl (doit hs)
   |false =>
    rw[hbw] at hs;have hw:Region.wanted o (yielded ops a.tmps)=false:=by simp[Region.wanted,g1,hy]; simpa using hbw
    simp only[hw,Bool.false_eq_true,if_false];simp only[cond_false,Option.some.injEq,Prod.mk.injEq] at hs;exact hskip hs.1.symm
  ·rename_i hb;obtain⟨arr,hv,hv2⟩:=S.tm _ _ hb;have hy:yielded ops a.tmps j=none:=by
    unfold yielded;rw[g2];rw[Array.getD_eq_getD_getElem?] at hv;cases hh:a.tmps[tg]? with
    |none=>simp[hh]
    |some x=>rw[hh] at hv; simp at hv; simp[hh,hv]
   have hw:Region.wanted o (yielded ops a.tmps)=false:=by simp[Region.wanted,g1,hy]
   simp only[hw,Bool.false_eq_true,if_false];simp only[Option.some.injEq,Prod.mk.injEq] at hs;exact hskip hs.1.symm
  ·cases hs
end
end Go.AI
namespace Go.AI
variable [Sym]
inductive Var where
 |slot (n:Nat)
 |own (d:Nat)
 |im (i:Nat)
 |len
def hsame(h h':Heap):Var->Prop
 |.slot _=>True
 |.own d=>h.owns.get d=h'.owns.get d
 |.im i=>h.ims[i]?=h'.ims[i]?
 |.len=>h.ims.length=h'.ims.length
def same(s s':St):Var->Prop
 |.slot n=>s.tm.get n=s'.tm.get n
 |x=>hsame s.h s'.h x
def Site.var:Site->Var
 |.own d => .own d
 |.im i => .im i
def hW(t:Touch):Var->Prop
 |.slot _=>False
 |.own d=>Site.own d∈t.wr
 |.im i=>Site.im i∈t.wr
 |.len=>t.wild=true
def hR(t:Touch):Var->Prop
 |.slot _=>False
 |.own d=>Site.own d∈t.rd\/Site.own d∈t.wr
 |.im i=>Site.im i∈t.rd\/Site.im i∈t.wr
 |.len=>t.wild=true
def opW(o:AOper)(t:Touch):Var->Prop
 |.slot n=>o.dst=some n
 |x=>hW t x
def opR(o:AOper)(t:Touch):Var->Prop
 |.slot n=>n∈o.looks
 |x=>hR t x
theorem hsame.refl(h:Heap):∀ x,hsame h h x:=λx=>by cases x <;> simp[hsame]
theorem hsame.trans{h h' h'':Heap}{x:Var}(a:hsame h h' x)(b:hsame h' h'' x):hsame h h'' x:=by cases x <;> simp only[hsame] at * <;> first|exact a.trans b|trivial
theorem hsame.symm{h h':Heap}{x:Var}(a:hsame h h' x):hsame h' h x:=by cases x <;> simp only[hsame] at * <;> first|exact a.symm|trivial
theorem same.trans{h h' h'':St}{x:Var}(a:same h h' x)(b:same h' h'' x):same h h'' x:=by cases x <;> simp only[same,hsame] at * <;> exact a.trans b
theorem same.symm{h h':St}{x:Var}(a:same h h' x):same h' h x:=by cases x <;> simp only[same,hsame] at * <;> exact a.symm
theorem same.refl(h:St):∀ x,same h h x:=λx=>by cases x <;> simp[same,hsame]
theorem qAv{h h':Heap}{r:Ref}(hs:hsame h h' r.site.var):h.get r=h'.get r:=by
 cases r with
 |im i=>simp only[Ref.site,Site.var,hsame] at hs; unfold Heap.get; simp only[hs]
 |own d g=>simp only[Ref.site,Site.var,hsame] at hs; unfold Heap.get; simp only[hs]
theorem qG9{h h':Heap}{d:Nat}(hs:hsame h h' (.own d)):h.gen d=h'.gen d:=by
 simp only[hsame] at hs; unfold Heap.gen; simp only[hs]
def There(h:Heap):Ref->Prop
 |.own d _=>(h.owns.get d).isSome=true
 |.im i=>i<h.ims.length
theorem There.of_get{h:Heap}{r:Ref}{o:AObj}(hr:h.get r=some o):There h r:=by
 cases r with
 |own d g=>have:=(Heap.get_own_gen hr).2; simp[There,this]
 |im i =>
  unfold Heap.get at hr;dsimp only at hr;simp only[There];cases hi:h.ims[i]? with
  |none=>rw[hi] at hr; cases hr
  |some x=>exact(List.getElem?_eq_some_iff.1 hi).1
theorem There.put{h:Heap}{r r':Ref}(hr:There h r)(o:AObj):There (h.put r' o) r:=by
 cases r' with
 |im j=>cases r with
  |im i=>simpa [There,Heap.put] using hr
  |own d g=>exact hr
 |own e g'=>cases r with
  |im i=>exact hr
  |own d g =>
   simp only[There,Heap.put] at *;by_cases hd:e=d
   ·subst hd; exact TM.isSome_set _ _ _ hr
   ·rw[TM.get_set_ne _ _ _ _ hd]; exact hr
theorem qBm{h:Heap}{r:Ref}{o:AObj}{x:Var}(hx:x≠r.site.var):hsame h (h.put r o) x:=by
 cases r with
 |im j=>cases x with
  |im i =>
   simp only[Ref.site,Site.var,ne_eq,Var.im.injEq] at hx;simp only[hsame,Heap.put];rw[List.getElem?_set_ne (λe=>hx e.symm)]
  |own d=>rfl
  |slot n=>trivial
  |len=>simp[hsame,Heap.put]
 |own e g=>cases x with
  |im i=>rfl
  |own d =>
   simp only[Ref.site,Site.var,ne_eq,Var.own.injEq] at hx;simp only[hsame,Heap.put];rw[TM.get_set_ne _ _ _ _ (λe=>hx e.symm)]
  |slot n=>trivial
  |len=>rfl
theorem qBI{α:Type}(a:α){t:TM α}{n:Nat}(h:(t.get n).isSome=true):(TM.set a t n).get n=some a:=by
 have:=TM.isSome_set a t n h;cases hg:(TM.set a t n).get n with
 |none=>rw[hg] at this; cases this
 |some x=>rw[TM.get_set_some _ _ _ _ hg]
theorem qGw{h h':Heap}{r:Ref}(hr:There h r)(hr':There h' r)(o:AObj){x:Var}(hs:hsame h h' x):hsame (h.put r o) (h'.put r o) x:=by
 by_cases hx:x=r.site.var
 ·subst hx;cases r with
  |im i =>
   simp only[There] at hr hr';simp only[Ref.site,Site.var,hsame,Heap.put,List.getElem?_set_self hr,List.getElem?_set_self hr']
  |own d g =>
   simp only[There] at hr hr';simp only[Ref.site,Site.var,hsame,Heap.put];rw[qBI _ hr,qBI _ hr']
 ·exact((qBm hx).symm.trans hs).trans (qBm hx)
theorem qKp:∀ (ups:List (Ref×AObj)) {h h':Heap},(∀ p∈ups,There h p.1)->(∀ p∈ups,There h' p.1)->∀ x,hsame h h' x->hsame (ups.foldl (λh p=>h.put p.1 p.2) h) (ups.foldl (λh p=>h.put p.1 p.2) h') x:=by
 intro ups
 induction ups with
 |nil=>intro h h' _ _ x hs; exact hs
 |cons p ups ih =>
  intro h h' h1 h2 x hs;exact ih (λq hq=>(h1 q (by simp[hq])).put _) (λq hq=>(h2 q (by simp[hq])).put _) x (qGw (h1 p (by simp)) (h2 p (by simp)) _ hs)
theorem qJX:∀ (ups:List (Ref×AObj)) {h:Heap} {x:Var},(∀ p∈ups,x≠p.1.site.var)->hsame h (ups.foldl (λh p=>h.put p.1 p.2) h) x:=by
 intro ups
 induction ups with
 |nil=>intro h x _; exact hsame.refl h x
 |cons p ups ih=>intro h x hx; exact(qBm (hx p (by simp))).trans (ih λq hq=>hx q (by simp[hq]))
theorem qEm:∀ (ups:List (Ref×AObj)) {h:Heap},(ups.foldl (λh p=>h.put p.1 p.2) h).ims.length=h.ims.length:=by
 intro ups
 induction ups with
 |nil=>intro h; rfl
 |cons p ups ih=>intro h; exact ih.trans (Heap.ims_put _ _ _)
theorem qNF{h h':Heap}{d:Nat}(hd:d+1<1048576)(p:Nat×AObj){x:Var}(hs:hsame h h' x):hsame { h with owns:=h.owns.set p d } { h' with owns:=h'.owns.set p d } x:=by
 cases x with
 |own e =>
  simp only[hsame] at *;by_cases hde:d=e
  ·subst hde; rw[TM.get_set_same _ _ _ hd,TM.get_set_same _ _ _ hd]
  ·rw[TM.get_set_ne _ _ _ _ hde,TM.get_set_ne _ _ _ _ hde]; exact hs
 |im i=>exact hs
 |slot n=>trivial
 |len=>exact hs
theorem qK2{h:Heap}{d:Nat}(p:Nat×AObj){x:Var}(hx:x ≠ .own d):hsame h { h with owns:=h.owns.set p d } x:=by
 cases x with
 |own e =>
  simp only[hsame];rw[TM.get_set_ne _ _ _ _ (λe'=>hx (by rw[e']))]
 |im i=>rfl
 |slot n=>trivial
 |len=>rfl
theorem qGO{h h':Heap}(hl:h.ims.length=h'.ims.length)(l:List AObj){x:Var}(hs:hsame h h' x):hsame { h with ims:=h.ims++l } { h' with ims:=h'.ims++l } x:=by
 cases x with
 |own e=>exact hs
 |im i =>
  simp only[hsame] at *;by_cases hi:i<h.ims.length
  ·rw[List.getElem?_append_left hi,List.getElem?_append_left (by omega)]; exact hs
  ·rw[List.getElem?_append_right (by omega),List.getElem?_append_right (by omega),hl]
 |slot n=>trivial
 |len=>simp only[hsame,List.length_append] at *; omega
theorem qFK{h:Heap}(l:List AObj){x:Var}(hx:∀ j,j<l.length->x ≠ .im (h.ims.length+j))(hl:l≠[]->x ≠ .len):hsame h { h with ims:=h.ims++l } x:=by
 cases x with
 |own e=>rfl
 |im i =>
  simp only[hsame];by_cases hi:i<h.ims.length
  ·rw[List.getElem?_append_left hi]
  ·by_cases hj:i - h.ims.length<l.length
   ·exact absurd (by congr 1; omega) (hx _ hj)
   ·rw[List.getElem?_eq_none (by omega),List.getElem?_eq_none (by simp; omega)]
 |slot n=>trivial
 |len =>
  cases l with
  |nil=>simp[hsame]
  |cons _ _=>exact absurd rfl (hl (by simp))
theorem qBO{α β:Type}{f g:α->Option β}:∀ {l:List α},(∀ a∈l,f a=g a)->l.mapM f=l.mapM g:=by
 intro l
 induction l with
 |nil=>intro _; rfl
 |cons a l ih=>intro h; simp only[List.mapM_cons,h a (by simp),ih λb hb=>h b (by simp[hb])]
theorem qLp{t:Touch}{r:Ref}(h:r.site∈t.wr):hW t r.site.var:=by cases r <;> exact h
theorem qKQ{t:Touch}{r:Ref}(h:r.site∈t.rd):hR t r.site.var:=by cases r <;> exact .inl h
theorem qM4{needs:List Ref}{k:List AObj->Option Res}{d:Nat}(hd:d+1<1048576){h h' h1:Heap}{v:TVal}{t:Touch}(hg:goOp needs k d h=some (v,h1,t))(hs:∀ x,hR t x->hsame h h' x) :
  ∃ h1',goOp needs k d h'=some (v,h1',t)/\(∀ x,hsame h h' x->hsame h1 h1' x):=by
 obtain⟨os,res,e1,e2,e3,e4⟩:=qCG hg;have hrd:t.rd=needs.map Ref.site:=by
  cases hn:res.new with
  |none=>rw[hn] at e4; rw[e4.2.2]
  |some x=>rw[hn] at e4; rw[e4.2.2]
 have hneed:∀ r∈needs,hsame h h' r.site.var:=λr hr=>hs _ (qKQ (by rw[hrd]; exact List.mem_map_of_mem hr))
 have hm:needs.mapM h'.get=some os:=by rw[<- e1]; exact(qBO λr hr=>qAv (hneed r hr)).symm
 have live:∀ {hh:Heap},needs.mapM hh.get=some os->∀ p∈res.ups,There hh p.1:=by
  intro hh hmm p hp;obtain⟨o,ho⟩:=(qDW hmm).1 p.1 (e3 p hp);exact There.of_get ho
 have hups:(res.ups.all λp=>needs.contains p.1)=true:=List.all_eq_true.2 λp hp=>List.contains_iff_mem.2 (e3 p hp)
 have hf:=qKp res.ups (live e1) (live hm);unfold goOp;rw[hm];simp only[e2,hups,Bool.not_true,cond_false];cases hn:res.new with
 |none =>
  rw[hn] at e4;obtain⟨rfl,rfl,rfl⟩:=e4;exact⟨_,rfl,hf⟩
 |some o =>
  rw[hn] at e4;obtain⟨rfl,rfl,rfl⟩:=e4;cases hp:res.push with
  |false =>
   rw[hp] at hs;have hgen:h.gen d=h'.gen d:=qG9 (hs (.own d) (.inr (by simp[place,Ref.site])));refine⟨_,by simp[place,Ref.site,hgen]; rfl,λx hx => ?_⟩;have:=qNF hd (h'.gen d+1,o) (hf x hx);rw[<- hgen] at this
   simpa [place,hgen] using this
  |true =>
   rw[hp] at hs;have hlen:h.ims.length=h'.ims.length:=hs .len rfl;refine⟨_,by simp[place,Ref.site,hlen]; rfl,λx hx => ?_⟩;exact qGO (by rw[qEm,qEm]; exact hlen) [o] (hf x hx)
theorem qMU{needs:List Ref}{k:List AObj->Option Res}{d:Nat}{h h1:Heap}{v:TVal}{t:Touch}(hg:goOp needs k d h=some (v,h1,t)):∀ x,¬ hW t x->hsame h h1 x:=by
 intro x hx;obtain⟨os,res,e1,e2,e3,e4⟩:=qCG hg;have hf:(∀ p∈res.ups,p.1.site∈t.wr)->hsame h (res.ups.foldl (λh p=>h.put p.1 p.2) h) x:=λhw=>qJX res.ups λp hp e=>hx (by subst e; exact qLp (hw p hp))
 cases hn:res.new with
 |none =>
  rw[hn] at e4;obtain⟨rfl,rfl,rfl⟩:=e4;exact hf λp hp=>List.mem_map_of_mem (f:=λp=>p.1.site) hp
 |some o =>
  rw[hn] at e4;obtain⟨rfl,rfl,rfl⟩:=e4;have hf:=hf λp hp=>List.mem_cons_of_mem _ (List.mem_map_of_mem (f:=λp=>p.1.site) hp)
  cases hp:res.push with
  |false =>
   rw[hp] at hx;exact hf.trans (qK2 _ λe=>hx (by subst e; simp[hW,place,Ref.site]))
  |true =>
   rw[hp] at hx;refine hf.trans (qFK [o] (λj hj e=>hx ?_) (λ_ e=>hx (by subst e; rfl)));subst e;simp only[List.length_singleton] at hj;obtain rfl:j=0:=by omega
   simp[hW,place,Ref.site,qEm]
end Go.AI
namespace Go.AI
variable [Sym]
theorem qHg(h:Heap):∀ (n:Nat) (todo seen:List Ref),∃ t,reach h n todo seen=seen++t:=by
 intro n
 induction n with
 |zero=>intro todo seen; exact⟨[],by simp[reach]⟩
 |succ n ih =>
  intro todo seen;cases todo with
  |nil=>exact⟨[],by simp[reach]⟩
  |cons r todo =>
   unfold reach;cases hc:seen.contains r with
   |true=>exact ih todo seen
   |false =>
    simp only[cond_false];cases hg:h.get r with
    |none=>exact ih todo seen
    |some o =>
     obtain⟨t,b⟩:=ih (o.refs++todo) (seen++[r]);exact⟨r::t,b.trans (by simp)⟩
theorem qJm{h h':Heap}:∀ (n:Nat) (todo seen:List Ref),(∀ r∈todo,hsame h h' r.site.var)->(∀ r∈reach h n todo seen,∀ o,h.get r=some o->∀ s∈o.refs,hsame h h' s.site.var) ->
  reach h' n todo seen=reach h n todo seen:=by
 intro n
 induction n with
 |zero=>intro todo seen _ _; rfl
 |succ n ih =>
  intro todo seen h1 h2;cases todo with
  |nil=>rfl
  |cons r todo =>
   have hr:=qAv (h1 r (by simp));unfold reach at h2 ⊢;cases hc:seen.contains r with
   |true =>
    simp only[hc,cond_true] at h2 ⊢;exact ih todo seen (λs hs=>h1 s (by simp[hs])) h2
   |false =>
    simp only[hc,cond_false] at h2 ⊢;rw[<- hr];cases hg:h.get r with
    |none =>
     simp only[hg] at h2 ⊢;exact ih todo seen (λs hs=>h1 s (by simp[hs])) h2
    |some o =>
     simp only[hg] at h2 ⊢;refine ih _ _ (λs hs => ?_) h2
     rcases List.mem_append.1 hs with hs|hs
     ·obtain⟨t,ht⟩:=qHg h n (o.refs++todo) (seen++[r]);exact h2 r (by rw[ht]; simp) o hg s hs
     ·exact h1 s (by simp[hs])
theorem qI3{rs:List Ref}{m n n':Nat}(h1:rs.length<m->n=n'):back rs m (newRef n)=back rs m (newRef n'):=by
 funext r
 cases r with
 |own _ _=>rfl
 |im i =>
  simp only[back];cases hi:rs[i]? with
  |some s=>rfl
  |none =>
   have hil:=List.getElem?_eq_none_iff.1 hi;cases hb:Nat.blt i m with
   |false=>rfl
   |true =>
    rw[Nat.blt_eq] at hb;simp only[cond_true]
    congr 1
    simp only[newRef]; rw[h1 (by omega)]
theorem qHt:∀ (rs:List Ref) (os:List AObj) {h h':Heap},(∀ r∈rs,There h r)->(∀ r∈rs,There h' r)->∀ x,hsame h h' x->hsame (putAll h rs os) (putAll h' rs os) x:=by
 intro rs
 induction rs with
 |nil=>intro os h h' _ _ x hs; exact hs
 |cons r rs ih =>
  intro os h h' h1 h2 x hs;cases os with
  |nil=>exact hs
  |cons o os=>exact ih os (λq hq=>(h1 q (by simp[hq])).put _) (λq hq=>(h2 q (by simp[hq])).put _) x (qGw (h1 r (by simp)) (h2 r (by simp)) _ hs)
theorem qGr:∀ (rs:List Ref) (os:List AObj) {h:Heap} {x:Var},(∀ r∈rs,x≠r.site.var)->hsame h (putAll h rs os) x:=by
 intro rs
 induction rs with
 |nil=>intro os h x _; exact hsame.refl h x
 |cons r rs ih =>
  intro os h x hx;cases os with
  |nil=>exact hsame.refl h x
  |cons o os=>exact(qBm (hx r (by simp))).trans (ih os λq hq=>hx q (by simp[hq]))
theorem qDR:∀ (rs:List Ref) (os:List AObj) {h:Heap},(putAll h rs os).ims.length=h.ims.length:=by
 intro rs
 induction rs with
 |nil=>intro os h; rfl
 |cons r rs ih =>
  intro os h;cases os with
  |nil=>rfl
  |cons o os=>exact(ih os).trans (Heap.ims_put _ _ _)
theorem qFR{O:Oracle}{f:FuncId}{args:List TVal}{d:Nat}{h h1:Heap}{v:TVal}{t:Touch}(hc:callOp O f args d h=some (v,h1,t)) :
  ∃ rs objs v0 objs',reach h fuelReach ((args.map TVal.strip).flatMap TVal.refs) []=rs/\rs.mapM h.get=some objs/\O f ((args.map TVal.strip).map (TVal.ren (inn rs))) (objs.map (AObj.ren (inn rs)))=some (v0,objs')/\rs.length<=objs'.length /\
   v=v0.ren (back rs objs'.length (newRef h.ims.length))/\h1=callHeap h rs (objs'.map (AObj.ren (back rs objs'.length (newRef h.ims.length)))) /\
   t={ rd:=((args.map TVal.strip).flatMap TVal.refs++objs.flatMap AObj.refs++rs).map Ref.site,wr:=rs.map Ref.site++(List.range (objs'.length - rs.length)).map λj => .im (h.ims.length+j),wild:=Nat.blt 0 (objs'.length - rs.length) }:=by
 unfold callOp at hc;dsimp only at hc;generalize hrs:reach h fuelReach ((args.map TVal.strip).flatMap TVal.refs) []=rs at hc;split at hc
 ·cases hc
 ·rename_i objs hobjs;split at hc
  ·cases hc
  ·rename_i v0 objs' hO';split at hc
   ·cases hc
   ·rename_i hlen;simp only[Option.some.injEq,Prod.mk.injEq] at hc;obtain⟨c1,c2,c3⟩:=hc;refine⟨rs,objs,v0,objs',rfl,hobjs,hO',by omega,c1.symm,by rw[<- c2]; rfl,?_⟩;rw[<- c3];simp only[List.length_drop,List.length_map]
theorem qJT{O:Oracle}{f:FuncId}{args:List TVal}{d:Nat}(hd:d+1<1048576){h h' h1:Heap}{v:TVal}{t:Touch}(hc:callOp O f args d h=some (v,h1,t))(hs:∀ x,hR t x->hsame h h' x) :
  ∃ h1',callOp O f args d h'=some (v,h1',t)/\(∀ x,hsame h h' x->hsame h1 h1' x):=by
 obtain⟨rs,objs,v0,objs',e1,e2,e3,e4,e5,e6,e7⟩:=qFR hc;have hrd:∀ r,r∈(args.map TVal.strip).flatMap TVal.refs++objs.flatMap AObj.refs++rs->hsame h h' r.site.var:=λr hr=>hs _ (qKQ (by rw[e7]; exact List.mem_map_of_mem hr))
 have hreach:reach h' fuelReach ((args.map TVal.strip).flatMap TVal.refs) []=rs:=by
  rw[<- e1];refine qJm _ _ _ (λr hr=>hrd r (by simp[hr])) (λr hr o ho s hs' => ?_);rw[e1] at hr;refine hrd s ?_;have:o∈objs:=by
   have h2:=qAP e2;obtain⟨i,hi⟩:=List.getElem?_of_mem hr;obtain⟨o',h3,h4⟩:=h2.get i r hi;rw[ho] at h4; cases h4;exact List.mem_of_getElem? h3
  exact List.mem_append_left _ (List.mem_append_right _ (List.mem_flatMap.2 ⟨o,this,hs'⟩))
 have hm:rs.mapM h'.get=some objs:=by
  rw[<- e2]; exact(qBO λr hr=>qAv (hrd r (by simp[hr]))).symm
 have live:∀ {hh:Heap},rs.mapM hh.get=some objs->∀ r∈rs,There hh r:=λhmm r hr=>let ⟨o,ho⟩:=(qDW hmm).1 r hr; There.of_get ho
 have hlen:rs.length<objs'.length->h.ims.length=h'.ims.length:=λhlt=>hs .len (by rw[e7]; simp only[hR]; rw[Nat.blt_eq]; omega)
 have hb:=qI3 (n:=h.ims.length) (n':=h'.ims.length) hlen;refine⟨callHeap h' rs (objs'.map (AObj.ren (back rs objs'.length (newRef h.ims.length)))),?_,λx hx => ?_⟩
 ·unfold callOp;dsimp only;rw[hreach,hm];simp only[e3];rw[if_neg (by omega),<- hb,e5,e7];simp only[Option.some.injEq,Prod.mk.injEq,true_and];refine⟨rfl,?_⟩;simp only[List.length_drop,List.length_map];by_cases hl:rs.length<objs'.length
  ·rw[hlen hl]
  ·rw[show objs'.length - rs.length=0 by omega]; rfl
 ·rw[e6];have hp:=qHt rs ((objs'.map (AObj.ren (back rs objs'.length (newRef h.ims.length)))).take rs.length) (live e2) (live hm) x hx;unfold callHeap;generalize hos:(objs'.map (AObj.ren (back rs objs'.length (newRef h.ims.length)))).drop rs.length=new;have hnl:new.length=objs'.length - rs.length:=by rw[<- hos]; simp
  cases new with
  |nil=>exact hp
  |cons o rest =>
   simp only[List.length_cons] at hnl;dsimp only;exact qGO (by rw[qDR,qDR]; exact hlen (by omega)) (o::rest) hp
theorem qKF{O:Oracle}{f:FuncId}{args:List TVal}{d:Nat}{h h1:Heap}{v:TVal}{t:Touch}(hc:callOp O f args d h=some (v,h1,t)):∀ x,¬ hW t x->hsame h h1 x:=by
 intro x hx;obtain⟨rs,objs,v0,objs',e1,e2,e3,e4,e5,e6,e7⟩:=qFR hc
 have hrs:∀ r∈rs,x≠r.site.var:=λr hr e=>hx (by
  subst e;refine qLp ?_;rw[e7]
  exact List.mem_append_left _ (List.mem_map_of_mem hr))
 have hp:=qGr (h:=h) rs ((objs'.map (AObj.ren (back rs objs'.length (newRef h.ims.length)))).take rs.length) hrs;rw[e6];unfold callHeap;generalize hos:(objs'.map (AObj.ren (back rs objs'.length (newRef h.ims.length)))).drop rs.length=new;have hnl:new.length=objs'.length - rs.length:=by rw[<- hos]; simp
 cases new with
 |nil=>exact hp
 |cons o rest =>
  simp only[List.length_cons] at hnl;dsimp only;refine hp.trans (qFK (o::rest) (λj hj e=>hx ?_) (λhr e=>hx ?_))
  ·subst e;rw[e7];simp only[hW];simp only[List.length_cons] at hj;refine List.mem_append_right _ (List.mem_map.2 ⟨j,List.mem_range.2 (by omega),?_⟩);rw[qDR]
  ·subst e;rw[e7];simp only[hW];rw[Nat.blt_eq];omega
end Go.AI
namespace Go.AI
variable [Sym]
theorem qJ9{tm tm':TM TVal}{op:AOp}(h:∀ x∈op.xs,x.ev tm=x.ev tm'):plan tm op=plan tm' op:=by
 have opt:∀ (l:Option X),(∀ x∈l.toList,x.ev tm=x.ev tm')->optN tm l=optN tm' l:=by
  intro l hl;cases l with
  |none=>rfl
  |some x=>simp only[optN,hl x (by simp)]
 cases op
 case build z ps =>
  simp only[plan];refine congrArg (λz=>Option.bind z _) (qBO λp hp => ?_);rw[h p.2.2 (List.mem_map_of_mem (f:=λp:Nat×Nat×X=>p.2.2) hp)]
 case bslice sz n z ps hp =>
  simp only[plan];refine congrArg (λz=>Option.bind z _) (qBO λp hp => ?_);rw[h p.2 (List.mem_map_of_mem (f:=λp:Nat×X=>p.2) hp)]
 case mkfn f xs =>
  simp only[plan];rw[qBO (g:=λx:X=>(x.ev tm').bind refOf) λp hp=>by rw[h p hp]]
 case call f xs =>
  simp only[plan];rw[h f (by simp[AOp.xs]),qBO (g:=λx:X=>x.ev tm') λp hp=>h p (by simp[AOp.xs,hp])]
 case minmax mx xs =>
  have:xs.map (λx=>x.ev tm)=xs.map λx=>x.ev tm':=List.map_congr_left λx hx=>h x hx
  simp only[plan,this]
 case slice sz str x lo hi mx =>
  simp only[plan];rw[h x (by simp[AOp.xs]),opt lo λy hy=>h y (by simp[AOp.xs] at hy ⊢; simp[hy]),opt hi λy hy=>h y (by simp[AOp.xs] at hy ⊢; simp[hy]),opt mx λy hy=>h y (by simp[AOp.xs] at hy ⊢; simp[hy])]
 case sliceA n sz x lo hi =>
  simp only[plan];rw[h x (by simp[AOp.xs]),opt lo λy hy=>h y (by simp[AOp.xs] at hy ⊢; simp[hy]),opt hi λy hy=>h y (by simp[AOp.xs] at hy ⊢; simp[hy])]
 all_goals (first|rfl|(simp[AOp.xs] at h; simp only[plan,h]; done)|(simp[AOp.xs] at h; obtain⟨h1,h2⟩:=h; simp only[plan,h1,h2]; done)|(simp[AOp.xs] at h; obtain⟨h1,h2,h3⟩:=h; simp only[plan,h1,h2,h3]; done))
theorem qN3{s s':St}{x:X}(h:∀ n,x.slot=some n->s.tm.get n=s'.tm.get n):x.ev s.tm=x.ev s'.tm:=by
 cases x with
 |t n=>exact h n rfl
 |k v=>rfl
theorem qJu{s s':St}{o:AOper}(h:∀ n,n∈o.looks->s.tm.get n=s'.tm.get n):plan s.tm o.op=plan s'.tm o.op :=
 qJ9 λx hx=>qN3 λn hn=>h n (List.mem_append_left _ (List.mem_filterMap.2 ⟨x,hx,hn⟩))
theorem qDG{O:Oracle}{o:AOper}{s s1:St}{t:Touch}(h:doOp O o s=some (s1,t)):∃ p v h1,plan s.tm o.op=some p/\p.exec O (o.dst.getD 1000000) s.h=some (v,h1,t)/\s1={ tm:=setDst s.tm o.dst v,h:=h1 }:=by
 unfold doOp at h;cases hp:plan s.tm o.op with
 |none=>rw[hp] at h; cases h
 |some p =>
  rw[hp] at h;dsimp only at h;cases hv:p.exec O (o.dst.getD 1000000) s.h with
  |none=>rw[hv] at h; cases h
  |some r =>
   obtain⟨v,h1,t'⟩:=r;rw[hv] at h;simp only[Option.some.injEq,Prod.mk.injEq] at h;obtain⟨rfl,rfl⟩:=h;exact⟨p,v,h1,rfl,hv,rfl⟩
theorem qGq{s s':St}{dst:Option Nat}(hd:∀ d,dst=some d->d+1<1048576){v:TVal}{h h':Heap}(hh:∀ x,same s s' x->hsame h h' x) :
  (∀ x,same s s' x->same { tm:=setDst s.tm dst v,h } { tm:=setDst s'.tm dst v,h:=h' } x)/\(∀ d,dst=some d->same { tm:=setDst s.tm dst v,h } { tm:=setDst s'.tm dst v,h:=h' } (.slot d)):=by
 have hslot:∀ d,dst=some d->same { tm:=setDst s.tm dst v,h } { tm:=setDst s'.tm dst v,h:=h' } (.slot d):=by
  intro d e;subst e;simp only[same,setDst];rw[TM.get_set_same _ _ _ (hd d rfl),TM.get_set_same _ _ _ (hd d rfl)]
 refine⟨λx hx => ?_,hslot⟩;cases x with
 |slot n =>
  by_cases hn:dst=some n
  ·exact hslot n hn
  ·cases dst with
   |none=>exact hx
   |some d =>
    simp only[same,setDst] at hx ⊢;rw[TM.get_set_ne _ _ _ _ (λe=>hn (by rw[e])),TM.get_set_ne _ _ _ _ (λe=>hn (by rw[e]))];exact hx
 |own d=>exact hh _ hx
 |im i=>exact hh _ hx
 |len=>exact hh _ hx
theorem qLD{o:AOper}(hd:∀ d,o.dst=some d->d+1<1048576):o.dst.getD 1000000+1<1048576:=by
 cases h:o.dst with
 |none=>simp
 |some d=>exact hd d h
theorem qGe{O:Oracle}{o:AOper}{s s' s1:St}{t:Touch}(hd:∀ d,o.dst=some d->d+1<1048576)(h:doOp O o s=some (s1,t))(hs:∀ x,opR o t x->same s s' x) :
  ∃ s1',doOp O o s'=some (s1',t)/\(∀ x,same s s' x->same s1 s1' x)/\(∀ d,o.dst=some d->same s1 s1' (.slot d)):=by
 obtain⟨p,v,h1,e1,e2,rfl⟩:=qDG h;have hp:plan s'.tm o.op=some p:=by rw[<- e1]; exact(qJu λn hn=>hs (.slot n) hn).symm
 have hheap:∀ x,hR t x->hsame s.h s'.h x:=λx hx=>by
  cases x with
  |slot n=>trivial
  |own d=>exact hs (.own d) hx
  |im i=>exact hs (.im i) hx
  |len=>exact hs .len hx
 have key:∃ h1',p.exec O (o.dst.getD 1000000) s'.h=some (v,h1',t)/\(∀ x,hsame s.h s'.h x->hsame h1 h1' x):=by
  cases p with
  |go needs k=>exact qM4 (qLD hd) e2 hheap
  |call f args=>exact qJT (qLD hd) e2 hheap
 obtain⟨h1',k1,k2⟩:=key;have hss:=qGq (s:=s) (s':=s') (dst:=o.dst) (v:=v) (h:=h1) (h':=h1') hd (λx hx=>k2 x (by cases x <;> first|trivial|exact hx));refine⟨{ tm:=setDst s'.tm o.dst v,h:=h1' },?_,hss.1,hss.2⟩;unfold doOp;rw[hp];simp only[k1]
theorem qGs{O:Oracle}{o:AOper}{s s1:St}{t:Touch}(h:doOp O o s=some (s1,t)):∀ x,¬ opW o t x->same s s1 x:=by
 obtain⟨p,v,h1,e1,e2,rfl⟩:=qDG h;intro x hx;have key:∀ x,¬ hW t x->hsame s.h h1 x:=by
  cases p with
  |go needs k=>exact qMU e2
  |call f args=>exact qKF (d:=o.dst.getD 1000000) e2
 cases x with
 |slot n =>
  simp only[opW] at hx;cases hd:o.dst with
  |none=>simp[same,setDst,hd]
  |some d =>
   simp only[same,setDst,hd];rw[TM.get_set_ne _ _ _ _ (λe=>hx (by rw[hd,e]))]
 |own d=>exact key (.own d) hx
 |im i=>exact key (.im i) hx
 |len=>exact key .len hx
theorem qJ8{O:Oracle}{o:AOper}{s s' s1:St}{t:Touch}(hd:∀ d,o.dst=some d->d+1<1048576)(h:stepOp O o s=some (s1,t))(hs:∀ x,opR o t x->same s s' x) :
  ∃ s1',stepOp O o s'=some (s1',t)/\(∀ x,same s s' x->same s1 s1' x)/\(∀ d,o.dst=some d->same s1 s1' (.slot d)):=by
 unfold stepOp at h ⊢;cases hg:o.guard with
 |none=>rw[hg] at h; exact qGe hd h hs
 |some p =>
  obtain⟨tg,want⟩:=p;rw[hg] at h;dsimp only at h ⊢;have ht:s'.tm.get tg=s.tm.get tg:=(hs (.slot tg) (List.mem_append_right _ (by rw[hg]; simp))).symm
  try rw[ht]
  have skip:∀ (s1:St) t,some (({ s with tm:=setDst s.tm o.dst .undef }:St),noTouch)=some (s1,t)->∃ s1',some (({ s' with tm:=setDst s'.tm o.dst .undef }:St),noTouch)=some (s1',t)/\(∀ x,same s s' x->same s1 s1' x)/\(∀ d,o.dst=some d->same s1 s1' (.slot d)):=by
   intro s1 t e;simp only[Option.some.injEq,Prod.mk.injEq] at e;obtain⟨rfl,rfl⟩:=e;have hss:=qGq (s:=s) (s':=s') (dst:=o.dst) (v := .undef) (h:=s.h) (h':=s'.h) hd (λx hx=>by cases x <;> first|trivial|exact hx);exact⟨_,rfl,hss.1,hss.2⟩
  split at h
  ·rename_i b hb
   try rw[hb]
   try dsimp only
   cases hbw:(b==want) with
   |true=>rw[hbw] at h; exact qGe hd h hs
   |false=>rw[hbw] at h; exact skip _ _ h
  ·rename_i hb
   try rw[hb]
   exact skip _ _ h
  ·cases h
theorem qDX{O:Oracle}{o:AOper}{s s1:St}{t:Touch}(h:stepOp O o s=some (s1,t)):∀ x,¬ opW o t x->same s s1 x:=by
 have skip:∀ (s1:St) t,some (({ s with tm:=setDst s.tm o.dst .undef }:St),noTouch)=some (s1,t)->∀ x,¬ opW o t x->same s s1 x:=by
  intro s1 t e x hx;simp only[Option.some.injEq,Prod.mk.injEq] at e;obtain⟨rfl,rfl⟩:=e;cases x with
  |slot n =>
   simp only[opW] at hx;cases hd:o.dst with
   |none=>simp[same,setDst]
   |some d =>
    simp only[same,setDst];rw[TM.get_set_ne _ _ _ _ (λe=>hx (by rw[hd,e]))]
  |own d=>rfl
  |im i=>rfl
  |len=>rfl
 unfold stepOp at h;split at h
 ·exact qGs h
 ·split at h
  ·rename_i b hb;cases hbw:(b==_) with
   |true=>rw[hbw] at h; exact qGs h
   |false=>rw[hbw] at h; exact skip _ _ h
  ·exact skip _ _ h
  ·cases h
theorem qL4{tm:TM TVal}{op:AOp}(hw:op.weight=0){p:Plan}(h:plan tm op=some p):∃ v,p = .pure v:=by
 cases op
 all_goals (first|(simp[AOp.weight] at hw; done)|skip)
 all_goals
  unfold plan at h
  try dsimp only at h
  repeat' (first|(cases h; done)|(exact⟨_,(Option.some.inj h).symm⟩)|(obtain⟨y,_,e⟩:=Option.map_eq_some_iff.1 h; exact⟨_,e.symm⟩)|split at h)
 all_goals
  simp only[Option.bind_eq_bind,Option.bind_eq_some_iff,Option.pure_def,Option.some.injEq] at h
  first
   |(obtain⟨_,_,_,_,e⟩:=h; exact⟨_,e.symm⟩)
   |(obtain⟨_,_,e⟩:=h; exact⟨_,e.symm⟩)
theorem qJN{tm:TM TVal}{op:AOp}(hw:op.weight=1){p:Plan}(h:plan tm op=some p):(∃ v,p = .pure v)\/(∃ r k,p = .read r k):=by
 cases op
 all_goals (first|(simp[AOp.weight] at hw; done)|skip)
 all_goals
  unfold plan at h
  try dsimp only at h
  repeat' (first|(cases h; done)|(exact .inl ⟨_,(Option.some.inj h).symm⟩)|(exact .inr ⟨_,_,(Option.some.inj h).symm⟩)|(obtain⟨y,_,e⟩:=Option.map_eq_some_iff.1 h; exact .inl ⟨_,e.symm⟩)|split at h)
def quiet(t:Touch):Prop:=t.wr=[]/\t.wild=false
def still(t:Touch):Prop:=t.rd=[]/\quiet t
theorem qEv{v v1:TVal}{d:Nat}{h h1:Heap}{t:Touch}{O:Oracle}(hg:(Plan.pure v).exec O d h=some (v1,h1,t)):still t:=by
 have hg:goOp [] (λ_=>some ⟨λ_=>v,[],none,false⟩) d h=some (v1,h1,t):=hg;obtain⟨os,res,e1,e2,e3,e4⟩:=qCG hg;cases e2;obtain⟨_,_,rfl⟩:=e4;exact⟨rfl,rfl,rfl⟩
theorem qJJ{r:Ref}{k:AObj->Option TVal}{v1:TVal}{d:Nat}{h h1:Heap}{t:Touch}{O:Oracle}(hg:(Plan.read r k).exec O d h=some (v1,h1,t)):quiet t:=by
 have hg:goOp [r] (fun|[o]=>(k o).map λv=>⟨λ_=>v,[],none,false⟩|_=>none) d h=some (v1,h1,t):=hg;obtain⟨os,res,e1,e2,e3,e4⟩:=qCG hg;have:res.ups=[]/\res.new=none:=by
  split at e2
  ·obtain⟨v,_,e⟩:=Option.map_eq_some_iff.1 e2;subst e;exact⟨rfl,rfl⟩
  ·cases e2
 rw[this.2] at e4;obtain⟨_,_,rfl⟩:=e4;exact⟨by simp[this.1],rfl⟩
theorem qE5{O:Oracle}{o:AOper}{s s1:St}{t:Touch}(hw:o.op.weight=0)(h:stepOp O o s=some (s1,t)):still t:=by
 have doit:∀ s1 t,doOp O o s=some (s1,t)->still t:=by
  intro s1 t h;obtain⟨p,v,h1,e1,e2,_⟩:=qDG h;obtain⟨v0,rfl⟩:=qL4 hw e1;exact qEv e2
 have hno:still noTouch:=⟨rfl,rfl,rfl⟩;unfold stepOp at h;split at h
 ·exact doit _ _ h
 ·split at h
  ·rename_i b hb;cases hbw:(b==_) with
   |true=>rw[hbw] at h; exact doit _ _ h
   |false=>rw[hbw] at h; simp only[cond_false,Option.some.injEq,Prod.mk.injEq] at h; rw[<- h.2]; exact hno
  ·simp only[Option.some.injEq,Prod.mk.injEq] at h; rw[<- h.2]; exact hno
  ·cases h
theorem qFI{O:Oracle}{o:AOper}{s s1:St}{t:Touch}(hw:o.op.weight=1)(h:stepOp O o s=some (s1,t)):quiet t:=by
 have doit:∀ s1 t,doOp O o s=some (s1,t)->quiet t:=by
  intro s1 t h;obtain⟨p,v,h1,e1,e2,_⟩:=qDG h
  rcases qJN hw e1 with ⟨v0,rfl⟩|⟨r,k,rfl⟩
  ·exact(qEv e2).2
  ·exact qJJ e2
 have hno:quiet noTouch:=⟨rfl,rfl⟩;unfold stepOp at h;split at h
 ·exact doit _ _ h
 ·split at h
  ·rename_i b hb;cases hbw:(b==_) with
   |true=>rw[hbw] at h; exact doit _ _ h
   |false=>rw[hbw] at h; simp only[cond_false,Option.some.injEq,Prod.mk.injEq] at h; rw[<- h.2]; exact hno
  ·simp only[Option.some.injEq,Prod.mk.injEq] at h; rw[<- h.2]; exact hno
  ·cases h
end Go.AI
namespace Go.AI
variable [Sym]
theorem qGS{O:Oracle}:∀ {L:List AOper}{st0 stm:St}{ts:List Touch},runOps O L st0=some (stm,ts) ->
  ∃ s:Nat->St,s 0=st0/\s L.length=stm/\ts.length=L.length/\∀ (j:Nat) o,L[j]?=some o->∃ t,ts[j]?=some t/\stepOp O o (s j)=some (s (j+1),t):=by
 intro L
 induction L with
 |nil =>
  intro st0 stm ts h;simp only[runOps,Option.some.injEq,Prod.mk.injEq] at h;obtain⟨rfl,rfl⟩:=h;exact⟨λ_=>st0,rfl,rfl,rfl,λj o e=>by simp at e⟩
 |cons o L ih =>
  intro st0 stm ts h;unfold runOps at h;split at h
  ·cases h
  ·rename_i st' t hs;split at h
   ·cases h
   ·rename_i st'' ts' hr;simp only[Option.some.injEq,Prod.mk.injEq] at h;obtain⟨rfl,rfl⟩:=h;obtain⟨s,h0,h1,h2,h3⟩:=ih hr;refine⟨λn=>match n with|0=>st0|n+1=>s n,rfl,h1,by simp[h2],λj o' e => ?_⟩;cases j with
    |zero=>simp at e; subst e; exact⟨t,rfl,by simp only; rw[h0]; exact hs⟩
    |succ j=>exact h3 j o' (by simpa using e)
theorem qGH{acc:List Nat}{i:Nat}:∀ {es:List Edge},(rowOf acc es).testBit i=true->∃ e∈es,Region.binds .any e=true/\(e.on=i\/(acc.getD e.on 0).testBit i=true):=by
 intro es
 induction es with
 |nil=>intro h; simp[rowOf] at h
 |cons e es ih =>
  intro h;simp only[rowOf,Nat.testBit_or,Bool.or_eq_true] at h
  rcases h with h|h
  ·split at h
   ·rename_i hb;simp only[Nat.testBit_or,Bool.or_eq_true,Nat.testBit_two_pow,decide_eq_true_eq] at h;exact⟨e,by simp,hb,h⟩
   ·simp at h
  ·obtain⟨e',h1,h2⟩:=ih h;exact⟨e',by simp[h1],h2⟩
theorem qJ6{D:Nat->Prop}:∀ (os:List Oper) (acc:List Nat) (all:List Oper),
  (∀ (j:Nat) o,all[j]?=some o->D j->∀ e∈o.after,Region.binds .any e=true->D e.on)->all.drop acc.length=os ->
  (∀ (j:Nat) o,j<acc.length->all[j]?=some o->(∀ e∈o.after,Region.binds .any e=true->D e.on)->∀ i,(acc.getD j 0).testBit i=true->D i) ->
  ∀ (j:Nat) o,all[j]?=some o->(∀ e∈o.after,Region.binds .any e=true->D e.on)->∀ i,((befs os acc).getD j 0).testBit i=true->D i:=by
 intro os
 induction os with
 |nil =>
  intro acc all hcl hdrop hacc j o ho hp i hi;refine hacc j o ?_ ho hp i hi;have h1:=List.drop_eq_nil_iff.1 hdrop;have h2:=(List.getElem?_eq_some_iff.1 ho).1;omega
 |cons o os ih =>
  intro acc all hcl hdrop hacc;have hat:all[acc.length]?=some o:=by
   have:=congrArg (λl:List Oper=>l[0]?) hdrop
   simpa using this
  refine ih (acc++[rowOf acc o.after.toList]) all hcl ?_ ?_
  ·have:=congrArg (List.drop 1) hdrop
   simpa [List.drop_drop] using this
  ·intro j o' hj ho' hp i hi;by_cases hjl:j<acc.length
   ·refine hacc j o' hjl ho' hp i ?_;rw[List.getD_eq_getElem?_getD,List.getElem?_append_left hjl,<- List.getD_eq_getElem?_getD] at hi;exact hi
   ·simp only[List.length_append,List.length_singleton] at hj;obtain rfl:j=acc.length:=by omega
    rw[hat] at ho';cases ho';rw[List.getD_eq_getElem?_getD,List.getElem?_append_right (Nat.le_refl _)] at hi;simp only[Nat.sub_self,List.getElem?_cons_zero,Option.getD_some] at hi;obtain⟨e,he,hb,h⟩:=qGH hi;have he':e∈o.after:=by simpa using he
    rcases h with rfl|h
    ·exact hp e he' hb
    ·have hlt:e.on<acc.length:=by
      rcases Nat.lt_or_ge e.on acc.length with h'|h'
      ·exact h'
      ·rw[List.getD_eq_getElem?_getD,List.getElem?_eq_none h'] at h; simp at h
     have hall:e.on<all.length:=by have:=(List.getElem?_eq_some_iff.1 hat).1; omega
     exact hacc e.on all[e.on] hlt (List.getElem?_eq_getElem hall) (λe2 he2 hb2=>hcl e.on _ (List.getElem?_eq_getElem hall) (hp e he' hb) e2 he2 hb2) i h
theorem qDf:∀ (os:List Oper) (i:Nat),backward os i=true->∀ (j:Nat) o,os[j]?=some o->∀ e∈o.after,Region.binds .any e=true->e.on<i+j:=by
 intro os
 induction os with
 |nil=>intro i _ j o ho; simp at ho
 |cons o os ih =>
  intro i h j o' ho e he hb;simp only[backward,Bool.and_eq_true] at h;cases j with
  |zero =>
   simp at ho; subst ho;have:=List.all_eq_true.1 h.1 e (by simpa using he);simp only[hb,Bool.not_true,Bool.false_or,Nat.blt_eq] at this;omega
  |succ j =>
   have:=ih (i+1) h.2 j o' (by simpa using ho) e he hb;omega
def Clear(a b:AOper)(s t:Touch):Prop:=∀ x,(opW a s x->¬ opR b t x)/\(opW b t x->¬ opR a s x)/\¬ (opW a s x/\opW b t x)
theorem qAp{a b:List Site}(h:disj a b=true){x:Site}(ha:x∈a):x∉b:=by
 intro hb;have:=List.all_eq_true.1 h x ha;rw[List.contains_iff_mem.2 hb] at this;cases this
theorem qHr{a b:AOper}{s t:Touch}(h1:sApart a b=true)(h2:s.apart t=true):Clear a b s t:=by
 simp only[sApart,Bool.and_eq_true,Bool.not_eq_true'] at h1;simp only[Touch.apart,Bool.and_eq_true,Bool.not_eq_true'] at h2;obtain⟨⟨s1,s2⟩,s3⟩:=h1;obtain⟨⟨⟨d1,d2⟩,d3⟩,d4⟩:=h2;intro x;cases x with
 |slot n =>
  refine⟨λhw hr => ?_,λhw hr => ?_,λhw => ?_⟩
  ·simp only[opW] at hw; simp only[opR] at hr;rw[sees,hw] at s1;have:=List.contains_iff_mem.2 hr;dsimp only at s1;rw[this] at s1; cases s1
  ·simp only[opW] at hw; simp only[opR] at hr;rw[sees,hw] at s2;have:=List.contains_iff_mem.2 hr;dsimp only at s2;rw[this] at s2; cases s2
  ·simp only[opW] at hw;rw[hw.1,hw.2] at s3;simp at s3
 |own d =>
  refine⟨λhw hr => ?_,λhw hr => ?_,λhw=>qAp d1 hw.1 hw.2⟩
  ·exact hr.elim (qAp d2 hw) (qAp d1 hw)
  ·exact hr.elim (qAp d3 hw) λh=>qAp d1 h hw
 |im i =>
  refine⟨λhw hr => ?_,λhw hr => ?_,λhw=>qAp d1 hw.1 hw.2⟩
  ·exact hr.elim (qAp d2 hw) (qAp d1 hw)
  ·exact hr.elim (qAp d3 hw) λh=>qAp d1 h hw
 |len =>
  have hno:¬ (s.wild=true/\t.wild=true):=λhh=>by rw[hh.1,hh.2] at d4; cases d4
  exact⟨λhw hr=>hno ⟨hw,hr⟩,λhw hr=>hno ⟨hr,hw⟩,hno⟩
theorem qHp{s t:Touch}(h:still s):s.apart t=true:=by
 obtain⟨h1,h2,h3⟩:=h;simp[Touch.apart,disj,h1,h2,h3]
theorem qGh{s t:Touch}(h:still t):s.apart t=true:=by
 obtain⟨h1,h2,h3⟩:=h;simp[Touch.apart,disj,h1,h2,h3]
theorem qH7{s t:Touch}(h:quiet s)(k:quiet t):s.apart t=true:=by
 simp[Touch.apart,disj,h.1,h.2,k.1,k.2]
theorem qIH{O:Oracle}{a b:AOper}{s t:Touch}{sa sa1 sb sb1:St}(ha:stepOp O a sa=some (sa1,s))(hb:stepOp O b sb=some (sb1,t))(hh:heavy a b=false):s.apart t=true:=by
 by_cases h1:a.op.weight=0
 ·exact qHp (qE5 h1 ha)
 ·by_cases h2:b.op.weight=0
  ·exact qGh (qE5 h2 hb)
  ·have h3:Nat.blt 0 a.op.weight=true:=by rw[Nat.blt_eq]; omega
   have h4:Nat.blt 0 b.op.weight=true:=by rw[Nat.blt_eq]; omega
   simp only[heavy,h3,h4,Bool.true_and] at hh;have h5:¬ (2<a.op.weight+b.op.weight):=λhlt=>by rw[<- Nat.blt_eq] at hlt; rw[hlt] at hh; cases hh
   exact qH7 (qFI (by omega) ha) (qFI (by omega) hb)
theorem qDd{bs:List Nat}{n i j:Nat}(hij:i<j)(hj:j<n)(hb:(bs.getD j 0).testBit i=false):(i,j)∈openPairs bs n:=by
 unfold openPairs;exact List.mem_flatMap.2 ⟨j,List.mem_range.2 hj,List.mem_map.2 ⟨i,List.mem_filter.2 ⟨List.mem_range.2 hij,by rw[hb]; rfl⟩,rfl⟩⟩
theorem WRel.congr{ρ:Env}{I:Imm}{h h':Heap}{w:World}(H:WRel ρ I h w)(hs:∀ x,hsame h' h x):WRel ρ I h' w where
 live r o hr:=H.live r o (by rw[<- qAv (hs _)]; exact hr)
 inj r r' o o' l l' hr hr':=H.inj r r' o o' l l' (by rw[<- qAv (hs _)]; exact hr) (by rw[<- qAv (hs _)]; exact hr')
 icell:=H.icell
 imap:=H.imap
 apart r o l hr:=H.apart r o l (by rw[<- qAv (hs _)]; exact hr)
 apartm r o l hr:=H.apartm r o l (by rw[<- qAv (hs _)]; exact hr)
 fresh d g l e:=by rw[qG9 (hs (.own d))]; exact H.fresh d g l e
 freshi i l e:=by have:=hs .len; simp only[hsame] at this; rw[this]; exact H.freshi i l e
theorem owned.congr{ρ:Env}{h h':Heap}(hs:∀ x,hsame h' h x){b:Nat}(ho:owned ρ h' b):owned ρ h b:=by
 obtain⟨r,o,l,h1,h2,h3⟩:=ho;exact⟨r,o,l,by rw[<- qAv (hs _)]; exact h1,h2,h3⟩
theorem qGN{s s':St}(h:∀ x,same s s' x):∀ x,hsame s.h s'.h x:=λx=>by
 cases x with
 |slot n=>trivial
 |own d=>exact h (.own d)
 |im i=>exact h (.im i)
 |len=>exact h .len
theorem SRel.congr{nt:Nat}{ρ:Env}{I:Imm}{st st':St}{a:Act}{w:World}(S:SRel nt ρ I st' a w)(h:∀ x,same st st' x):SRel nt ρ I st a w where
 heap:=S.heap.congr (qGN h)
 tm t v e:=S.tm t v (by have:=h (.slot t); simp only[same] at this; rw[<- this]; exact e)
 size:=S.size
 defers:=S.defers
theorem Good.congr{ρ:Env}{I:Imm}{h0:Heap}{w:World}{ρ':Env}{I':Imm}{h h':Heap}{w':World}(g:Good ρ I h0 w ρ' I' h' w')(hs:∀ x,hsame h h' x):Good ρ I h0 w ρ' I' h w' :=
 { g with own:=λb hb=>g.own b (hb.congr hs) }
end Go.AI
namespace Go.AI
variable [Sym]
section
variable {P:Program} {G:Nat->Option (List PVal)} {O:Oracle} {nt:Nat} {heap:Nat->Bool} {ops:Array Oper} {Q:Exit->Act->World->Prop}
theorem qPg(hO:FSound P G O)(hnt:nt<1000000):∀ (L:List AOper) (i:Nat) (st:St) {stm:St} {ts:List Touch} {ρ:Env} {I:Imm} {a:Act} {w:World},GRel G I ->
  (∀ (j:Nat) ao,L[j]?=some ao->∃ o,ops[i+j]?=some o/\compOper P G nt heap ops o=some ao)->runOps O L st=some (stm,ts)->SRel nt ρ I st a w ->
  Leaves P nt ρ I st w stm (Q .normal)->wpOps P ops Q (List.range' i L.length) a w:=by
 intro L
 induction L with
 |nil =>
  intro i st stm ts ρ I a w hG hc hr S hK;simp only[runOps,Option.some.injEq,Prod.mk.injEq] at hr;obtain⟨rfl,rfl⟩:=hr;exact hK ρ I a w S (Good.refl _ _ _ _)
 |cons ao L ih =>
  intro i st stm ts ρ I a w hG hc hr S hK;unfold runOps at hr;split at hr
  ·cases hr
  ·rename_i st' t hs;split at hr
   ·cases hr
   ·rename_i st'' ts' hr';simp only[Option.some.injEq,Prod.mk.injEq] at hr;obtain⟨rfl,rfl⟩:=hr;obtain⟨o,ho,hco⟩:=hc 0 ao rfl;simp only[List.length_cons,List.range'_succ];rw[wpOps_cons];refine qAx hO hG S hnt (by simpa using ho) hco hs λρ' I' a' w' S' g => ?_
    refine ih (i+1) st' (hG.mono g.imm) (λj ao' e => ?_) hr' S' λρ2 I2 a2 w2 S2 g2=>hK ρ2 I2 a2 w2 S2 (g.trans g2)
    obtain⟨o',h1,h2⟩:=hc (j+1) ao' (by simpa using e);exact⟨o',by rw[show i+1+j=i+(j+1) by omega]; exact h1,h2⟩
theorem qLz{α:Type}{p q:α->Bool}:∀ {l:List α},(∀ a∈l,p a=true->q a=true)->(∃ a∈l,q a=true/\p a=false)->l.countP p<l.countP q:=by
 intro l
 induction l with
 |nil=>intro _ ⟨a,h,_⟩; simp at h
 |cons x l ih =>
  intro h1 ⟨a,ha,h2,h3⟩;have hle:l.countP p<=l.countP q:=List.countP_mono_left λb hb=>h1 b (by simp[hb])
  simp only[List.countP_cons]
  rcases List.mem_cons.1 ha with rfl|ha
  ·rw[if_neg (by simp[h3]),if_pos h2]; omega
  ·have:=ih (λb hb=>h1 b (by simp[hb])) ⟨a,ha,h2,h3⟩;by_cases hp:p x=true
   ·rw[if_pos hp,if_pos (h1 x (by simp) hp)]; omega
   ·rw[if_neg hp]; split <;> omega
def Done(listed:Array Bool)(j:Nat):Prop:=listed.getD j false=true
theorem qCh{listed:Array Bool}{i j:Nat}(hi:i<listed.size):Done (listed.setIfInBounds i true) j↔(j=i\/Done listed j):=by
 unfold Done;by_cases hij:i=j
 ·subst hij; simp[hi]
 ·rw[getD_set_ne false hij];constructor
  ·exact .inr
  ·rintro (h|h)
   ·exact absurd h.symm hij
   ·exact h
theorem qPa(hO:FSound P G O)(hnt:nt<1000000){L:List AOper}{s:Nat->St}{ts:List Touch}
  (hc:∀ (j:Nat) o,ops[j]?=some o->∃ ao,L[j]?=some ao/\compOper P G nt heap ops o=some ao) (hlen:L.length=ops.size)
  (hst:∀ (j:Nat) ao,L[j]?=some ao->∃ t,ts[j]?=some t/\stepOp O ao (s j)=some (s (j+1),t))
  (hconf:∀ (i j:Nat) ai aj ti tj,i<j->L[i]?=some ai->L[j]?=some aj->ts[i]?=some ti->ts[j]?=some tj->((befs ops.toList []).getD j 0).testBit i=true\/Clear ai aj ti tj)
  (hback:∀ (j:Nat) o,ops[j]?=some o->∀ e∈o.after,Region.binds .any e=true->e.on<j)
  {ρ0:Env} {I0:Imm} {w0:World} (hK:Leaves P nt ρ0 I0 (s 0) w0 (s L.length) (Q .normal)) :
  ∀ (fuel:Nat) (listed:Array Bool) (st':St) (ρ:Env) (I:Imm) (a:Act) (w:World),listed.size=ops.size->(List.range ops.size).countP (λj => !listed.getD j false)<=fuel ->
   (∀ (j:Nat) o,ops[j]?=some o->Done listed j->∀ e∈o.after,Region.binds .any e=true->Done listed e.on) ->
   (∀ (x:Var) (k:Nat),k<=L.length->(∀ (j:Nat) ao t,L[j]?=some ao->ts[j]?=some t->opW ao t x->(Done listed j↔j<k))->same (s k) st' x) ->
   SRel nt ρ I st' a w->GRel G I->Good ρ0 I0 (s 0).h w0 ρ I st'.h w->wpAny P .any ops Q fuel listed a w:=by
 intro fuel;have getD_eq:∀ {listed:Array Bool}{j:Nat},listed.size=ops.size->j<ops.size->listed.getD j true=listed.getD j false:=by
  intro listed j h1 h2;have:j<listed.size:=by omega
  simp[this]
 -- all are done
 have fin:∀ (listed:Array Bool) (st':St) (ρ:Env) (I:Imm) (a:Act) (w:World),(∀ j,j<ops.size->Done listed j) ->
   (∀ (x:Var) (k:Nat),k<=L.length->(∀ (j:Nat) ao t,L[j]?=some ao->ts[j]?=some t->opW ao t x->(Done listed j↔j<k))->same (s k) st' x) ->
   SRel nt ρ I st' a w->Good ρ0 I0 (s 0).h w0 ρ I st'.h w->Q .normal a w:=by
  intro listed st' ρ I a w hall hinv S g;have hsame:∀ x,same (s L.length) st' x:=λx=>hinv x L.length (Nat.le_refl _) λj ao t h1 _ _=>by
   have:=(List.getElem?_eq_some_iff.1 h1).1;exact⟨λ_=>this,λ_=>hall j (by omega)⟩
  exact hK ρ I a w (S.congr hsame) (g.congr (qGN hsame))
 have least:∀ (listed:Array Bool),listed.size=ops.size->Region.ready .any ops listed=[]->∀ j,j<ops.size->Done listed j:=by
  intro listed hsz hr j
  induction j using Nat.strongRecOn with
  |ind j ih =>
   intro hj;cases hd:listed.getD j false with
   |true=>exact hd
   |false =>
    exfalso;have hm:j∈Region.ready .any ops listed:=mem_ready.2 ⟨by rw[getD_eq hsz hj]; exact hd,ops[j],by simp[hj],λe he hb=>ih e.on (hback j ops[j] (by simp[hj]) e he hb) (by have:=hback j ops[j] (by simp[hj]) e he hb; omega)⟩;rw[hr] at hm;cases hm
 induction fuel with
 |zero =>
  intro listed st' ρ I a w hsz hcnt hcl hinv S hG g;have hall:∀ j,j<ops.size->Done listed j:=by
   intro j hj;have h0:(List.range ops.size).countP (λj => !listed.getD j false)=0:=by omega
   have:=List.countP_eq_zero.1 h0 j (List.mem_range.2 hj);unfold Done;cases hd:listed.getD j false with
   |true=>rfl
   |false=>rw[hd] at this; exact absurd rfl this
  refine⟨?_,fin listed st' ρ I a w hall hinv S g⟩;cases hr:Region.ready .any ops listed with
  |nil=>rfl
  |cons j l =>
   have hm:j∈Region.ready .any ops listed:=by rw[hr]; simp
   obtain⟨h0,o,ho,_⟩:=mem_ready.1 hm;have hj:=(Array.getElem?_eq_some_iff.1 ho).1;rw[getD_eq hsz hj] at h0;have:=hall j hj;unfold Done at this;rw[h0] at this; cases this
 |succ fuel ih =>
  intro listed st' ρ I a w hsz hcnt hcl hinv S hG g;refine⟨λhr=>fin listed st' ρ I a w (least listed hsz hr) hinv S g,λi hi => ?_⟩;obtain⟨h0,o,ho,hpre⟩:=mem_ready.1 hi;have hilt:=(Array.getElem?_eq_some_iff.1 ho).1;rw[getD_eq hsz hilt] at h0;have hnd:¬ Done listed i:=λh=>by unfold Done at h; rw[h0] at h; cases h
  obtain⟨ai,hai,hco⟩:=hc i o ho;obtain⟨ti,hti,hsi⟩:=hst i ai hai;have hdst:∀ d,ai.dst=some d->d+1<1048576:=by
   obtain⟨q1,q2,_,_⟩:=qDy hco;intro d hd;rw[q2] at hd;exact Nat.lt_of_le_of_lt (q1 d hd) (by omega)
  -- what is bound to come ahead of j is done,once j's own are
  have hbef:∀ j o',ops[j]?=some o'->(∀ e∈o'.after,Region.binds .any e=true->Done listed e.on)->∀ l,((befs ops.toList []).getD j 0).testBit l=true->Done listed l:=by
   intro j o' hj hp l hl;refine qJ6 (D:=Done listed) ops.toList [] ops.toList (λj o h1 h2=>hcl j o (by simpa using h1) h2) (by simp) (λj o h=>by simp at h) j o' (by simpa using hj) hp l hl
  have hdoneB:∀ j,j<ops.size->Done listed j->∀ l,((befs ops.toList []).getD j 0).testBit l=true->Done listed l:=λj hj hd =>
   hbef j ops[j] (by simp[hj]) (hcl j ops[j] (by simp[hj]) hd)
  have lt_ops:∀ {j:Nat}{ao:AOper},L[j]?=some ao->j<ops.size:=λh=>by have:=(List.getElem?_eq_some_iff.1 h).1; omega
  have agree:∀ x,opR ai ti x->same (s i) st' x:=by
   intro x hx;refine hinv x i (by have:=(List.getElem?_eq_some_iff.1 hai).1; omega) λj ao t h1 h2 h3 => ?_
   constructor
   ·intro hd
    rcases Nat.lt_trichotomy j i with h|h|h
    ·exact h
    ·subst h; exact absurd hd hnd
    ·exfalso
     rcases hconf i j ai ao ti t h hai h1 hti h2 with hb|hcl'
     ·exact hnd (hdoneB j (lt_ops h1) hd i hb)
     ·exact(hcl' x).2.1 h3 hx
   ·intro hlt
    rcases hconf j i ao ai t ti hlt h1 hai h2 hti with hb|hcl'
    ·exact hbef i o ho hpre j hb
    ·exact absurd hx ((hcl' x).1 h3)
  obtain⟨st1,hs1,hk1,hk2⟩:=qJ8 hdst hsi agree;refine qAx hO hG S hnt ho hco hs1 λρ' I' a' w' S' g' => ?_
  have hil:i<listed.size:=by omega
  refine ih (listed.setIfInBounds i true) st1 ρ' I' a' w' (by simp[hsz]) ?_ ?_ ?_ S' (hG.mono g'.imm) (g.trans g')
  ·have:(List.range ops.size).countP (λj => !(listed.setIfInBounds i true).getD j false)<(List.range ops.size).countP (λj => !listed.getD j false):=by
    refine qLz (λj hj h => ?_) ⟨i,List.mem_range.2 hilt,by rw[h0]; rfl,?_⟩
    ·by_cases hij:i=j
     ·subst hij; rw[h0]; rfl
     ·rw[getD_set_ne false hij] at h; exact h
    ·have:Done (listed.setIfInBounds i true) i:=(qCh hil).2 (.inl rfl);unfold Done at this;rw[this]; rfl
   omega
  ·intro j o' hj hd e he hb;rw[qCh hil] at hd ⊢;right
   rcases hd with rfl|hd
   ·rw[ho] at hj; cases hj; exact hpre e he hb
   ·exact hcl j o' hj hd e he hb
  ·intro x k hk hw;by_cases hWi:opW ai ti x
   ·have hik:i<k:=(hw i ai ti hai hti hWi).1 ((qCh hil).2 (.inl rfl));have h1:same (s (i+1)) st1 x:=by
     cases x with
     |slot n=>exact hk2 n hWi
     |own d=>exact hk1 (.own d) (agree (.own d) (.inr hWi))
     |im j=>exact hk1 (.im j) (agree (.im j) (.inr hWi))
     |len=>exact hk1 .len (agree .len hWi)
    have h2:∀ n,i+1+n<=k->same (s (i+1+n)) (s (i+1)) x:=by
     intro n
     induction n with
     |zero=>intro _; exact same.refl _ _
     |succ n ihn =>
      intro hn;have hlk:i+1+n<L.length:=by omega
      obtain⟨t,ht,hstep⟩:=hst (i+1+n) L[i+1+n] (List.getElem?_eq_getElem hlk);have hno:¬ opW L[i+1+n] t x:=by
       intro hW;have hd:=(hw (i+1+n) _ t (List.getElem?_eq_getElem hlk) ht hW).2 (by omega);rw[qCh hil] at hd;have hd:Done listed (i+1+n):=hd.resolve_left (by omega)
       rcases hconf i (i+1+n) ai _ ti t (by omega) hai (List.getElem?_eq_getElem hlk) hti ht with hb|hcl'
       ·exact hnd (hdoneB (i+1+n) (by omega) hd i hb)
       ·exact(hcl' x).2.2 ⟨hWi,hW⟩
      have:=qDX hstep x hno;exact this.symm.trans (ihn (by omega))
    have:=h2 (k - (i+1)) (by omega);rw[show i+1+(k - (i+1))=k by omega] at this;exact this.trans h1
   ·have h1:same (s k) st' x:=hinv x k hk λj ao t e1 e2 e3=>by
     have:=hw j ao t e1 e2 e3;rw[qCh hil] at this;have hji:j≠i:=λe=>by
      subst e;rw[hai] at e1; cases e1;rw[hti] at e2; cases e2;exact hWi e3
     exact⟨λh=>this.1 (.inr h),λh=>(this.2 h).resolve_left hji⟩
    exact h1.trans (qDX hs1 x hWi)
theorem qKT(hm:P.follows .mixedOrders=true)(hO:FSound P G O)(hnt:nt<1000000){id:Nat}{draw:Bool}{L:List AOper}{pairs:List (Nat×Nat)}(hc:compReg P G nt heap ops draw=some (.reg L pairs)){st stm:St}(hr:runReg O L pairs st=some stm){ρ:Env}{I:Imm}(hG:GRel G I){a:Act}{w:World}
  (S:SRel nt ρ I st a w) (hK:Leaves P nt ρ I st w stm (Q .normal)):(Code.region id ops draw).wp P Q a w:=by
 unfold compReg at hc;simp only[Option.bind_eq_bind,Option.bind_eq_some_iff] at hc;obtain⟨l,hl,hc⟩:=hc;have hall:=qAP hl;have hlen:l.length=ops.size:=by have:=hall.length; simpa using this.symm
 unfold runReg at hr;split at hr
 ·cases hr
 ·rename_i st' ts hrun;cases hap:apartAll ts pairs with
  |false=>rw[hap] at hr; cases hr
  |true =>
   rw[hap] at hr;simp only[cond_true,Option.some.injEq] at hr;subst hr;cases draw with
   |false =>
    simp only[Bool.false_eq_true,if_false,Option.pure_def,Option.some.injEq,ACode.reg.injEq] at hc;obtain⟨rfl,rfl⟩:=hc;refine wp_region ?_;have:=qPg (P:=P) (Q:=Q) (heap:=heap) (ops:=ops) hO hnt l 0 st hG (λj ao e => ?_) hrun S hK
    ·rw[hlen,<- List.range_eq_range'] at this; exact this
    ·have hj:=(List.getElem?_eq_some_iff.1 e).1;have ho:ops.toList[j]?=some ops[j]:=by simp[show j<ops.size by omega]
     obtain⟨ao',h1,h2⟩:=hall.get j _ ho;rw[e] at h1; cases h1;exact⟨ops[j],by simp[show j<ops.size by omega],h2⟩
   |true =>
    simp only[if_true] at hc;split at hc
    ·rename_i hchk;simp only[Option.pure_def,Option.some.injEq,ACode.reg.injEq] at hc;obtain⟨rfl,rfl⟩:=hc;simp only[Bool.and_eq_true] at hchk;refine wp_region_any hm ?_;obtain⟨s,s0,s1,s2,s3⟩:=qGS hrun;subst s0 s1;have S':SRel nt ρ I (s 0) a { w with drawn:=w.drawn+1 }:=⟨S.heap.same rfl,S.tm,S.size,S.defers⟩;have g0:Good ρ I (s 0).h w ρ I (s 0).h { w with drawn:=w.drawn+1 }:=⟨Env.le_refl _,Imm.le_refl _,⟨rfl,rfl,rfl,Nat.le_refl _,λ_ _ _=>rfl⟩,λ_ h => .inl h,λ_ _ _ h => .inl h,λ_ _ h => .inl h⟩;refine qPa hO hnt (L:=l) (s:=s) (ts:=ts) (heap:=heap) (λj o ho => ?_) hlen s3 (λi j ai aj ti tj hij h1 h2 h3 h4 => ?_) (λj o ho e he hb => ?_) (ρ0:=ρ) (I0:=I) (w0:=w) hK ops.size _ (s 0) ρ I a _ (by simp) (by have:=List.countP_le_length (p:=λj => !(Array.replicate ops.size false).getD j false) (l:=List.range ops.size); simpa using this) (λj o ho hd => ?_) (λx k hk hw => ?_) S' hG g0
     ·obtain⟨ao,h1,h2⟩:=hall.get j o (by simpa using ho);exact⟨ao,h1,h2⟩
     ·cases hbit:((befs ops.toList []).getD j 0).testBit i with
      |true=>exact .inl rfl
      |false =>
       right;have hj:j<ops.size:=by have:=(List.getElem?_eq_some_iff.1 h2).1; omega
       have hmem:=qDd hij hj hbit;have hs:=List.all_eq_true.1 hchk.2 _ hmem;have g1:l.getD i nop=ai:=by rw[List.getD_eq_getElem?_getD,h1]; rfl
       have g2:l.getD j nop=aj:=by rw[List.getD_eq_getElem?_getD,h2]; rfl
       simp only[g1,g2] at hs;refine qHr hs ?_;cases hh:heavy ai aj with
       |true =>
        have hmem2:(i,j)∈(openPairs (befs ops.toList []) ops.size).filter λp=>heavy (l.getD p.1 nop) (l.getD p.2 nop):=List.mem_filter.2 ⟨hmem,by simp only[g1,g2]; exact hh⟩
        have:=List.all_eq_true.1 hap _ hmem2;simp only[h3,h4] at this;exact this
       |false =>
        obtain⟨t1,e1,q1⟩:=s3 i ai h1;obtain⟨t2,e2,q2⟩:=s3 j aj h2;rw[h3] at e1; cases e1;rw[h4] at e2; cases e2;exact qIH q1 q2 hh
     ·have:=qDf ops.toList 0 hchk.1 j o (by simpa using ho) e he hb;omega
     ·exfalso;unfold Done at hd;have hj:=(Array.getElem?_eq_some_iff.1 ho).1;simp[hj] at hd
     ·have h0:∀ n,n<=k->same (s n) (s 0) x:=by
       intro n
       induction n with
       |zero=>intro _; exact same.refl _ _
       |succ n ihn =>
        intro hn;have hnl:n<l.length:=by omega
        obtain⟨t,ht,hstep⟩:=s3 n l[n] (List.getElem?_eq_getElem hnl);have hno:¬ opW l[n] t x:=λhW=>by
         have hd:=(hw n _ t (List.getElem?_eq_getElem hnl) ht hW).2 (by omega);unfold Done at hd;simp[show n<ops.size by omega] at hd
        exact(qDX hstep x hno).symm.trans (ihn (by omega))
      exact h0 k (Nat.le_refl _)
    ·cases hc
end
end Go.AI
namespace Go.AI
variable [Sym]
def AExit.toExit:AExit->Exit
 |.norm => .normal
 |.exit id => .exit id
 |.ret => .ret
section
variable {P:Program} {G:Nat->Option (List PVal)} {O:Oracle} {nt:Nat} {heap:Nat->Bool}
theorem qAf{ops:Array Oper}{draw:Bool}{x:ACode}(h:compReg P G nt heap ops draw=some x):∃ L pairs,x = .reg L pairs:=by
 unfold compReg at h;simp only[Option.bind_eq_bind,Option.bind_eq_some_iff] at h;obtain⟨l,_,h⟩:=h;split at h
 ·split at h
  ·simp only[Option.pure_def,Option.some.injEq] at h; exact⟨_,_,h.symm⟩
  ·cases h
 ·simp only[Option.pure_def,Option.some.injEq] at h; exact⟨_,_,h.symm⟩
def CodeOK(P:Program)(G:Nat->Option (List PVal))(nt:Nat)(heap:Nat->Bool)(O:Oracle)(rec:ACode->St->Option (AExit×St))(c:Code):Prop :=
 ∀ (st:St) (ex:AExit) (st1:St) (ρ:Env) (I:Imm) (a:Act) (w:World) (Q:Exit->Act->World->Prop),runF O rec (comp P G nt heap c) st=some (ex,st1)->GRel G I->SRel nt ρ I st a w ->
  Leaves P nt ρ I st w st1 (Q ex.toExit)->c.wp P Q a w
theorem qF0(hm:P.follows .mixedOrders=true)(hO:FSound P G O)(hnt:nt<1000000)(n:Nat)
  (hrec:∀ (c:Code) (st:St) (ex:AExit) (st1:St) (ρ:Env) (I:Imm) (a:Act) (w:World) (Q:Exit->Act->World->Prop),run O n (.loop (comp P G nt heap c)) st=some (ex,st1)->GRel G I->SRel nt ρ I st a w ->
   Leaves P nt ρ I st w st1 (Q ex.toExit)->Code.rounds P c Q n a w):∀ c,CodeOK P G nt heap O (run O n) c:=by
 intro c
 induction c with
 |skip =>
  intro st ex st1 ρ I a w Q h hG S hK;simp only[comp,runF,Option.some.injEq,Prod.mk.injEq] at h;obtain⟨rfl,rfl⟩:=h;exact Go.wp_skip (hK ρ I a w S (Good.refl _ _ _ _))
 |label l =>
  intro st ex st1 ρ I a w Q h hG S hK;simp only[comp,runF,Option.some.injEq,Prod.mk.injEq] at h;obtain⟨rfl,rfl⟩:=h;exact wp_label (hK ρ I a w S (Good.refl _ _ _ _))
 |region id ops draw =>
  intro st ex st1 ρ I a w Q h hG S hK;simp only[comp] at h;cases hc:compReg P G nt heap ops draw with
  |none=>rw[hc] at h; simp[runF] at h
  |some x =>
   obtain⟨L,pairs,rfl⟩:=qAf hc;rw[hc] at h;simp only[Option.getD_some,runF] at h;split at h
   ·rename_i st' hr;simp only[Option.some.injEq,Prod.mk.injEq] at h;obtain⟨rfl,rfl⟩:=h;exact qKT hm hO hnt hc hr hG S hK
   ·cases h
 |seq x y ihx ihy =>
  intro st ex st1 ρ I a w Q h hG S hK;simp only[comp,runF] at h;refine wp_seq ?_;cases hx:runF O (run O n) (comp P G nt heap x) st with
  |none=>rw[hx] at h; cases h
  |some r =>
   obtain⟨ex',st'⟩:=r;rw[hx] at h;cases ex' with
   |norm =>
    dsimp only at h;refine ihx st .norm st' ρ I a w _ hx hG S λρ' I' a' w' S' g => ?_
    exact ihy st' ex st1 ρ' I' a' w' Q h (hG.mono g.imm) S' λρ2 I2 a2 w2 S2 g2=>hK ρ2 I2 a2 w2 S2 (g.trans g2)
   |exit j =>
    simp only[Option.some.injEq,Prod.mk.injEq] at h;obtain⟨rfl,rfl⟩:=h;exact ihx st _ _ ρ I a w _ hx hG S hK
   |ret =>
    simp only[Option.some.injEq,Prod.mk.injEq] at h;obtain⟨rfl,rfl⟩:=h;exact ihx st _ _ ρ I a w _ hx hG S hK
 |cond cx x y ihx ihy =>
  intro st ex st1 ρ I a w Q h hG S hK;simp only[comp] at h;cases hc:compX G cx with
  |none=>rw[hc] at h; simp[runF] at h
  |some c' =>
   rw[hc] at h;simp only[runF] at h;split at h
   ·rename_i hb;exact wp_cond_true (qA9 ((S.here (P:=P) hG).ev hc hb)) (ihx st ex st1 ρ I a w Q h hG S hK)
   ·rename_i hb;exact wp_cond_false (qA9 ((S.here (P:=P) hG).ev hc hb)) (ihy st ex st1 ρ I a w Q h hG S hK)
   ·cases h
 |block id x ihx =>
  intro st ex st1 ρ I a w Q h hG S hK;simp only[comp,runF] at h;refine wp_block ?_;cases hx:runF O (run O n) (comp P G nt heap x) st with
  |none=>rw[hx] at h; cases h
  |some r =>
   obtain⟨ex',st'⟩:=r;rw[hx] at h;cases ex' with
   |norm =>
    simp only[Option.some.injEq,Prod.mk.injEq] at h;obtain⟨rfl,rfl⟩:=h;exact ihx st _ _ ρ I a w _ hx hG S hK
   |exit j =>
    dsimp only at h;rw[qAH,Bool.cond_decide] at h;refine ihx st _ _ ρ I a w _ hx hG S ?_;split at h
    ·rename_i e;simp only[Option.some.injEq,Prod.mk.injEq] at h;obtain⟨rfl,rfl⟩:=h;intro ρ' I' a' w' S' g;show(if j=id then Q .normal a' w' else Q (.exit j) a' w');rw[if_pos e];exact hK ρ' I' a' w' S' g
    ·rename_i e;simp only[Option.some.injEq,Prod.mk.injEq] at h;obtain⟨rfl,rfl⟩:=h;intro ρ' I' a' w' S' g;show(if j=id then Q .normal a' w' else Q (.exit j) a' w');rw[if_neg e];exact hK ρ' I' a' w' S' g
   |ret =>
    simp only[Option.some.injEq,Prod.mk.injEq] at h;obtain⟨rfl,rfl⟩:=h;exact ihx st _ _ ρ I a w _ hx hG S hK
 |loop x ihx =>
  intro st ex st1 ρ I a w Q h hG S hK;simp only[comp,runF] at h;refine wp_loop_rounds (n+1) ?_;cases hx:runF O (run O n) (comp P G nt heap x) st with
  |none=>rw[hx] at h; cases h
  |some r =>
   obtain⟨ex',st'⟩:=r;rw[hx] at h;cases ex' with
   |norm =>
    dsimp only at h;refine ihx st .norm st' ρ I a w _ hx hG S λρ' I' a' w' S' g => ?_
    exact hrec x st' ex st1 ρ' I' a' w' Q h (hG.mono g.imm) S' λρ2 I2 a2 w2 S2 g2=>hK ρ2 I2 a2 w2 S2 (g.trans g2)
   |exit j =>
    simp only[Option.some.injEq,Prod.mk.injEq] at h;obtain⟨rfl,rfl⟩:=h;exact ihx st _ _ ρ I a w _ hx hG S hK
   |ret =>
    simp only[Option.some.injEq,Prod.mk.injEq] at h;obtain⟨rfl,rfl⟩:=h;exact ihx st _ _ ρ I a w _ hx hG S hK
 |rangeFunc f ps x y _ _=>intro st ex st1 ρ I a w Q h; simp[comp,runF] at h
 |exit id =>
  intro st ex st1 ρ I a w Q h hG S hK;simp only[comp,runF,Option.some.injEq,Prod.mk.injEq] at h;obtain⟨rfl,rfl⟩:=h;exact wp_exit (hK ρ I a w S (Good.refl _ _ _ _))
 |scope x ihx =>
  intro st ex st1 ρ I a w Q h hG S hK;simp only[comp,runF] at h;refine wp_scope_straight ?_;refine ihx st ex st1 ρ I a w _ h hG S ?_;cases ex <;> exact hK
 |goto l=>intro st ex st1 ρ I a w Q h; simp[comp,runF] at h
 |ret =>
  intro st ex st1 ρ I a w Q h hG S hK;simp only[comp,runF,Option.some.injEq,Prod.mk.injEq] at h;obtain⟨rfl,rfl⟩:=h;exact wp_ret (hK ρ I a w S (Good.refl _ _ _ _))
 |refuse why=>intro st ex st1 ρ I a w Q h; simp[comp,runF] at h
theorem qOq(hm:P.follows .mixedOrders=true)(hO:FSound P G O)(hnt:nt<1000000):∀ (n:Nat) (c:Code) (st:St) (ex:AExit) (st1:St) (ρ:Env) (I:Imm) (a:Act) (w:World) (Q:Exit->Act->World->Prop),run O n (.loop (comp P G nt heap c)) st=some (ex,st1)->GRel G I->SRel nt ρ I st a w ->
   Leaves P nt ρ I st w st1 (Q ex.toExit)->Code.rounds P c Q n a w:=by
 intro n
 induction n with
 |zero=>intro c st ex st1 ρ I a w Q h; simp[run] at h
 |succ n ih =>
  intro c st ex st1 ρ I a w Q h hG S hK;have hcode:=qF0 (P:=P) (G:=G) (O:=O) (nt:=nt) (heap:=heap) hm hO hnt n ih c;simp only[run,runF] at h;show c.wp P (Exit.then (Code.rounds P c Q n) Q) a w;cases hx:runF O (run O n) (comp P G nt heap c) st with
  |none=>rw[hx] at h; cases h
  |some r =>
   obtain⟨ex',st'⟩:=r;rw[hx] at h;cases ex' with
   |norm =>
    dsimp only at h;refine hcode st .norm st' ρ I a w _ hx hG S λρ' I' a' w' S' g => ?_
    exact ih c st' ex st1 ρ' I' a' w' Q h (hG.mono g.imm) S' λρ2 I2 a2 w2 S2 g2=>hK ρ2 I2 a2 w2 S2 (g.trans g2)
   |exit j =>
    simp only[Option.some.injEq,Prod.mk.injEq] at h;obtain⟨rfl,rfl⟩:=h;exact hcode st _ _ ρ I a w _ hx hG S hK
   |ret =>
    simp only[Option.some.injEq,Prod.mk.injEq] at h;obtain⟨rfl,rfl⟩:=h;exact hcode st _ _ ρ I a w _ hx hG S hK
end
end Go.AI
namespace Go.AI
variable [Sym]
theorem qI6{ρ:Env}{I:Imm}{h:Heap}{w:World}(H:WRel ρ I h w){r:Ref}{cs:List Cell}{imm:Nat}{l:Loc}(hr:h.get r=some (.cells cs imm))(hl:ρ r=some l) :
  ∃ I',I.le I'/\(∀ k,l.base<=k->k<l.base+cs.length->I'.cell l.blk k=w.cell? ⟨l.blk,k,none⟩)/\WRel ρ I' (h.put r (.cells cs (max imm cs.length))) w/\Good ρ I h w ρ I' (h.put r (.cells cs (max imm cs.length))) w:=by
 obtain⟨l',e,hobj⟩:=H.live _ _ hr;rw[hl] at e; cases e;have hobj0:=hobj;obtain⟨arr,elem,lo,hi,h1,h2,h3,h4,h5⟩:=hobj;have hc:∀ k,w.cell? ⟨l.blk,k,none⟩=arr[k]?:=λk=>by simp[World.cell?,h1]
 have hsome:∀ k v,I.cell l.blk k=some v->w.cell? ⟨l.blk,k,none⟩=some v:=λk v e=>H.icell _ _ _ e
 let I':Imm:={ cell:=λb k=>if b=l.blk/\l.base<=k/\k<l.base+cs.length then w.cell? ⟨l.blk,k,none⟩ else I.cell b k,map:=I.map }
 have hin:∀ k,l.base<=k->k<l.base+cs.length->I'.cell l.blk k=w.cell? ⟨l.blk,k,none⟩:=λk a b=>by
  show(if l.blk=l.blk/\_ then _ else _)=_;rw[if_pos ⟨rfl,a,b⟩]
 have hout:∀ b k,¬ (b=l.blk/\l.base<=k/\k<l.base+cs.length)->I'.cell b k=I.cell b k:=λb k hn=>by
  show(if b=l.blk/\_ then _ else _)=_;rw[if_neg hn]
 have hle:I.le I':=by
  refine⟨λb k v e => ?_,λb v e=>e⟩;by_cases hb:b=l.blk/\l.base<=k/\k<l.base+cs.length
  ·obtain⟨rfl,a,b⟩:=hb;rw[hin k a b];exact hsome k v e
  ·rw[hout b k hb]; exact e
 have hI2:∀ b k v,I'.cell b k=some v->b≠l.blk->I.cell b k=some v:=λb k v e hb=>by rw[hout b k (λhh=>hb hh.1)] at e; exact e
 refine⟨I',hle,hin,?_,?_⟩
 ·refine WRel.one H r (.cells cs (max imm cs.length)) l (λ_ _=>rfl) hl (λ_ _=>rfl) (Env.le_refl _) (λr' o=>Heap.get_put h r _ r' o) (λr' o l' hne hr' hl' => ?_) hle hI2 (λk v e => ?_) rfl (H.apartm r _ l hr hl) ?_ (λd=>Heap.gen_put hr _ d) (by rw[Heap.ims_put]; exact Nat.le_refl _) (λd g e => ?_) (λi e => ?_)
  ·rcases Heap.get_put h r _ r' o hr' with ⟨a,_⟩|⟨_,b⟩
   ·exact absurd a hne
   ·exact H.inj r' r o _ l' l b hr hl' hl hne
  ·by_cases hk:l.base<=k/\k<l.base+cs.length
   ·rw[hin k hk.1 hk.2] at e;exact⟨by simp only[ownFrom]; omega,e⟩
   ·rw[hout _ k (λhh=>hk hh.2)] at e;have:=H.apart r _ l hr hl l.blk k v e rfl;refine⟨?_,hsome k v e⟩;simp only[ownFrom] at this ⊢;omega
  ·exact⟨arr,elem,lo,hi,h1,h2,h3,λk c hk=>let ⟨v,a,b⟩:=h4 k c hk; ⟨v,a,b.mono (Env.le_refl _) hle⟩,λo a b=>h5 o (by omega) b⟩
  ·subst e; exact Nat.le_trans (H.fresh d g l hl) (Heap.gen_put hr _ d)
  ·subst e; rw[Heap.ims_put]; exact H.freshi i l hl
 ·refine⟨Env.le_refl _,hle,⟨rfl,rfl,rfl,Nat.le_refl _,λ_ _ _=>rfl⟩,λb ho => ?_,λb k v e => ?_,λb v e => .inl e⟩
  ·obtain⟨r',o,l',hr',hl',e⟩:=ho
   rcases Heap.get_put h r _ r' o hr' with ⟨rfl,rfl⟩|⟨_,b'⟩
   ·exact .inl ⟨r',_,l',hr,hl',e⟩
   ·exact .inl ⟨r',o,l',b',hl',e⟩
  ·by_cases hb:b=l.blk
   ·exact .inr (.inl ⟨r,_,l,hr,hl,hb.symm⟩)
   ·exact .inl (hI2 b k v e hb)
theorem qJr{ρ:Env}{I:Imm}{h:Heap}{w:World}(H:WRel ρ I h w){r:Ref}{es:List (PVal×Comp×Nat)}{clock:Nat}{l:Loc}(hr:h.get r=some (.map es clock))(hl:ρ r=some l) :
  ∃ I' arr,I.le I'/\I'.map l.blk=some (arr,clock)/\All2 (λ(a:PVal×Comp×Nat) (e:MapEntry)=>PRel I a.1 e.key/\CompRel ρ I a.2.1 e.val/\a.2.2=e.born) es arr.toList/\WRel ρ I' (h.put r .dead) w/\Good ρ I h w ρ I' (h.put r .dead) w:=by
 obtain⟨l',e,hobj⟩:=H.live _ _ hr;rw[hl] at e; cases e;obtain⟨arr,h1,h2⟩:=hobj
 let I':Imm:={ cell:=I.cell,map:=λb=>if b=l.blk then some (arr,clock) else I.map b }
 have hle:I.le I':=by
  refine⟨λb k v e=>e,λb v e => ?_⟩;show(if b=l.blk then _ else _)=_;by_cases hb:b=l.blk
  ·subst hb; rw[H.apartm r _ l hr hl] at e; cases e
  ·rw[if_neg hb]; exact e
 have hm:∀ b v,I'.map b=some v->(b=l.blk/\v=(arr,clock))\/(b≠l.blk/\I.map b=some v):=by
  intro b v e;have e:(if b=l.blk then some (arr,clock) else I.map b)=some v:=e;by_cases hb:b=l.blk
  ·rw[if_pos hb] at e; cases e; exact .inl ⟨hb,rfl⟩
  ·rw[if_neg hb] at e; exact .inr ⟨hb,e⟩
 have hget:∀ r' o,(h.put r .dead).get r'=some o->r'≠r/\h.get r'=some o:=by
  intro r' o hr'
  rcases Heap.get_put h r _ r' o hr' with ⟨_,a⟩|b
  ·subst a; exact absurd rfl (Heap.get_ne_dead hr')
  ·exact b
 refine⟨I',arr,hle,by show(if l.blk=l.blk then _ else _)=_; rw[if_pos rfl],h2,?_,?_⟩
 ·refine⟨λr' o hr' => ?_,λr1 r2 o1 o2 l1 l2 a b=>H.inj r1 r2 o1 o2 l1 l2 (hget _ _ a).2 (hget _ _ b).2,H.icell,λb arr' c e => ?_,λr' o l' hr' hl' b k v hv hb=>H.apart r' o l' (hget _ _ hr').2 hl' b k v hv hb,λr' o l' hr' hl' => ?_,
   λd g l' e=>Nat.le_trans (H.fresh d g l' e) (Heap.gen_put hr _ d),λi l' e=>by rw[Heap.ims_put]; exact H.freshi i l' e⟩
  ·obtain⟨l',e,ho⟩:=H.live _ _ (hget _ _ hr').2;exact⟨l',e,ho.mono (Env.le_refl _) hle⟩
  ·rcases hm b _ e with ⟨rfl,e2⟩|⟨_,e2⟩
   ·cases e2; exact h1
   ·exact H.imap b arr' c e2
  ·cases hh:I'.map l'.blk with
   |none=>rfl
   |some v =>
    rcases hm _ _ hh with ⟨e2,_⟩|⟨_,e2⟩
    ·exact absurd e2 (H.inj r' r o _ l' l (hget _ _ hr').2 hr hl' hl (hget _ _ hr').1)
    ·rw[H.apartm r' o l' (hget _ _ hr').2 hl'] at e2; cases e2
 ·refine⟨Env.le_refl _,hle,⟨rfl,rfl,rfl,Nat.le_refl _,λ_ _ _=>rfl⟩,λb ho => ?_,λb k v e => .inl e,λb v e => ?_⟩
  ·obtain⟨r',o,l',hr',hl',e⟩:=ho;exact .inl ⟨r',o,l',(hget _ _ hr').2,hl',e⟩
  ·rcases hm b v e with ⟨e2,_⟩|⟨_,e2⟩
   ·exact .inr (.inl ⟨r,_,l,hr,hl,e2.symm⟩)
   ·exact .inl e2
def Frozen(ρ:Env)(h:Heap)(I:Imm)(w:World)(J:Imm)(r:Ref):Prop :=
 (∀ cs imm,h.get r=some (.cells cs imm)->∀ l,ρ r=some l->∀ k,l.base<=k->k<l.base+cs.length->J.cell l.blk k=w.cell? ⟨l.blk,k,none⟩) /\
 (∀ es clock,h.get r=some (.map es clock)->∀ l,ρ r=some l->∃ arr:Array MapEntry,J.map l.blk=some (arr,clock)/\All2 (λ(a:PVal×Comp×Nat) (e:MapEntry)=>PRel J a.1 e.key/\CompRel ρ J a.2.1 e.val/\a.2.2=e.born) es arr.toList)
theorem qD7{ρ:Env}{w:World}:∀ (rs:List Ref) (I:Imm) (h:Heap),WRel ρ I h w->∃ J,I.le J/\WRel ρ J (settle h rs) w/\Good ρ I h w ρ J (settle h rs) w /\
  (∀ r∈rs,Frozen ρ h I w J r):=by
 intro rs
 induction rs with
 |nil=>intro I h H; exact⟨I,Imm.le_refl _,H,Good.refl _ _ _ _,λr hr=>by simp at hr⟩
 |cons r rs ih =>
  intro I h H;cases hr:h.get r with
  |none =>
   have:settle h (r::rs)=settle h rs:=by simp[settle,hr]
   rw[this];obtain⟨J,a,b,c,d⟩:=ih I h H;refine⟨J,a,b,c,λs hs => ?_⟩
   rcases List.mem_cons.1 hs with rfl|hs
   ·exact⟨λcs imm e=>(by rw[hr] at e; cases e),λes clock e=>(by rw[hr] at e; cases e)⟩
   ·exact d s hs
  |some o =>
   cases o with
   |cells cs imm =>
    have:settle h (r::rs)=settle (h.put r (.cells cs (max imm cs.length))) rs:=by simp[settle,hr]
    rw[this];obtain⟨l,hl,_⟩:=H.live _ _ hr;obtain⟨I',a1,a2,a3,a4⟩:=qI6 H hr hl;obtain⟨J,b1,b2,b3,b4⟩:=ih I' _ a3;have hstay:∀ k,l.base<=k->k<l.base+cs.length->J.cell l.blk k=w.cell? ⟨l.blk,k,none⟩:=λk x y=>by
     have e1:=a2 k x y;cases hv:w.cell? ⟨l.blk,k,none⟩ with
     |some v=>rw[hv] at e1; exact b1.1 _ _ _ e1
     |none =>
      cases hj:J.cell l.blk k with
      |none=>rfl
      |some v=>rw[b2.icell _ _ _ hj] at hv; cases hv
    refine⟨J,Imm.le_trans a1 b1,b2,a4.trans b3,λs hs => ?_⟩;by_cases hsr:s=r
    ·subst hsr;refine⟨λcs' imm' e l' hl' k x y => ?_,λes clock e=>(by rw[hr] at e; cases e)⟩;rw[hr] at e; cases e;rw[hl] at hl'; cases hl';exact hstay k x y
    ·have hs':s∈rs:=(List.mem_cons.1 hs).resolve_left hsr;have hput:∀ o,h.get s=some o->(h.put r (.cells cs (max imm cs.length))).get s=some o:=λo ho=>by
      rw[<- qAv (qBm (h:=h) (r:=r) (o := .cells cs (max imm cs.length)) (x:=s.site.var) ?_)]; exact ho;intro e
      -- one slot,one block that stands
      cases s with
      |im i=>cases r with
       |im j=>simp only[Ref.site,Site.var,Var.im.injEq] at e; exact hsr (by rw[e])
       |own _ _=>simp[Ref.site,Site.var] at e
      |own d g=>cases r with
       |im j=>simp[Ref.site,Site.var] at e
       |own d' g' =>
        simp only[Ref.site,Site.var,Var.own.injEq] at e;subst e;have q1:=(Heap.get_own_gen ho).1;have q2:=(Heap.get_own_gen hr).1;exact hsr (by rw[<- q1,<- q2])
     have:=b4 s hs';exact⟨λcs' imm' e=>this.1 cs' imm' (hput _ e),λes clock e=>this.2 es clock (hput _ e)⟩
   |map es clock =>
    have:settle h (r::rs)=settle (h.put r .dead) rs:=by simp[settle,hr]
    rw[this];obtain⟨l,hl,_⟩:=H.live _ _ hr;obtain⟨I',arr,a1,a2,a5,a3,a4⟩:=qJr H hr hl;obtain⟨J,b1,b2,b3,b4⟩:=ih I' _ a3;refine⟨J,Imm.le_trans a1 b1,b2,a4.trans b3,λs hs => ?_⟩;by_cases hsr:s=r
    ·subst hsr;refine⟨λcs' imm' e=>(by rw[hr] at e; cases e),λes' clock' e l' hl' => ?_⟩;rw[hr] at e; cases e;rw[hl] at hl'; cases hl';exact⟨arr,b1.2 _ _ a2,a5.mono λa e x=>⟨x.1.mono (Imm.le_trans a1 b1),x.2.1.mono (Env.le_refl _) (Imm.le_trans a1 b1),x.2.2⟩⟩
    ·have hs':s∈rs:=(List.mem_cons.1 hs).resolve_left hsr;have hput:∀ o,h.get s=some o->(h.put r .dead).get s=some o:=λo ho=>by
      rw[<- qAv (qBm (h:=h) (r:=r) (o := .dead) (x:=s.site.var) ?_)]; exact ho;intro e;cases s with
      |im i=>cases r with
       |im j=>simp only[Ref.site,Site.var,Var.im.injEq] at e; exact hsr (by rw[e])
       |own _ _=>simp[Ref.site,Site.var] at e
      |own d g=>cases r with
       |im j=>simp[Ref.site,Site.var] at e
       |own d' g' =>
        simp only[Ref.site,Site.var,Var.own.injEq] at e;subst e;have q1:=(Heap.get_own_gen ho).1;have q2:=(Heap.get_own_gen hr).1;exact hsr (by rw[<- q1,<- q2])
     have:=b4 s hs';exact⟨λcs' imm' e=>this.1 cs' imm' (hput _ e),λes' clock' e=>this.2 es' clock' (hput _ e)⟩
   |siter s0 p0 =>
    have:settle h (r::rs)=settle h rs:=by simp[settle,hr]
    rw[this];obtain⟨J,a,b,c,d⟩:=ih I h H;refine⟨J,a,b,c,λs hs => ?_⟩
    rcases List.mem_cons.1 hs with rfl|hs
    ·exact⟨λcs imm e=>(by rw[hr] at e; cases e),λes clock e=>(by rw[hr] at e; cases e)⟩
    ·exact d s hs
   |dead=>exact absurd rfl (Heap.get_ne_dead hr)
end Go.AI
namespace Go.AI
variable [Sym]
theorem All2.comp{α β γ:Type}{R:α->β->Prop}{S:α->γ->Prop}{T:β->γ->Prop}(h:∀ a b c,R a b->S a c->T b c):∀ {l:List α}{m:List β}{n:List γ},All2 R l m->All2 S l n->All2 T m n
 |[],[],[],_,_=>trivial
 |_::_,_::_,_::_,a,b=>⟨h _ _ _ a.1 b.1,All2.comp h a.2 b.2⟩
theorem All2.mem{α β:Type}{R:α->β->Prop}:∀ {l:List α}{m:List β},All2 R l m->All2 (λa b=>a∈l/\b∈m/\R a b) l m
 |[],[],_=>trivial
 |a::l,b::m,h=>⟨⟨by simp,by simp,h.1⟩,(All2.mem h.2).mono λx y z=>⟨by simp[z.1],by simp[z.2.1],z.2.2⟩⟩
section
variable {ρ:Env} {I J:Imm} {h:Heap} {w:World}
theorem qDz(H:WRel ρ I h w)(hIJ:I.le J):∀ (n:Nat) (c:Cell) (p:PVal) (rs:List Ref),freeze h n c=some (p,rs)->(∀ r∈rs,Frozen ρ h I w J r)->∀ v,CRel ρ J c v->PRel J p v:=by
 intro n
 induction n with
 |zero=>intro c p rs e; simp[freeze] at e
 |succ n ih =>
  intro c p rs e hfr v hv;have cells_ok:∀ {cs:List Cell}{ys:List (PVal×List Ref)}{vals:List Value},cs.mapM (freeze h n)=some ys->(∀ y∈ys,∀ r∈y.2,Frozen ρ h I w J r)->All2 (CRel ρ J) cs vals->All2 (PRel J) (ys.map (·.1)) vals:=by
   intro cs ys vals h1 h2 h3;have:=All2.comp (T:=λ(y:PVal×List Ref) v=>PRel J y.1 v) (λc y v a b=>ih c y.1 y.2 (by rw[a.2.2]) (h2 y a.2.1) v b) (qAP h1).mem h3;exact this.mapL (f:=λy:PVal×List Ref=>y.1) λ_ _ x=>x
  unfold freeze at e;split at e
  ·cases e; cases hv with|p _ _ hp=>exact hp
  ·cases e;cases hv with|tsl _ _ _ b o cap l hp=>exact hp
  ·rename_i r off len cap sz;cases hg:h.get r with
   |none=>rw[hg] at e; cases e
   |some o =>
    rw[hg] at e;cases o with
    |cells cs imm =>
     simp only[Option.bind_eq_bind,Option.bind_eq_some_iff,Option.pure_def,Option.some.injEq,Prod.mk.injEq] at e;obtain⟨vs,h1,rows,h2,rfl,rfl⟩:=e;cases hv with|sref _ _ _ _ _ cc l hl a1 a2 a3 =>
     obtain⟨l',e',hobj⟩:=H.live _ _ hg;rw[hl] at e'; cases e';obtain⟨vals,v1,v2⟩:=((hobj.cellsAt.drop off).take (len*sz)).vals;have hvs:=cells_ok h1 (λy hy r' hr'=>hfr r' (List.mem_cons_of_mem _ (List.mem_flatMap.2 ⟨y,hy,hr'⟩))) (v1.mono λ_ _ x=>x.mono (Env.le_refl _) hIJ);have hvc:All2 (CRel ρ J) (vs.map λx=>Cell.p x.1) vals:=by
      have:=hvs.mapL (f:=Cell.p) (R':=CRel ρ J) λp v x => .p p v x
      rwa [List.map_map] at this
     have hF:=(hfr r (by simp)).1 cs imm hg l hl;refine qCT (Imm.le_refl J) h2 hvc (λj u hj => ?_) a1 (λht => ?_)
     ·have hjl:=(List.getElem?_eq_some_iff.1 hj).1;have hvl:=v1.length;simp only[List.length_take,List.length_drop] at hvl;rw[hF _ (by omega) (by omega)];exact v2 j u hj
     ·exact a3 len (by simpa using ht)
    |map es clock=>cases e
    |siter s p=>cases e
    |dead=>cases e
  ·rename_i r off;cases hg:h.get r with
   |none=>rw[hg] at e; cases e
   |some o =>
    rw[hg] at e;cases o with
    |cells cs imm =>
     simp only[Option.bind_eq_bind,Option.bind_eq_some_iff,Option.pure_def,Option.some.injEq,Prod.mk.injEq] at e;obtain⟨vs,h1,rfl,rfl⟩:=e;cases hv with|ptr _ _ l hl =>
     obtain⟨l',e',hobj⟩:=H.live _ _ hg;rw[hl] at e'; cases e';obtain⟨vals,v1,v2⟩:=hobj.cellsAt.vals;have hvs:=cells_ok h1 (λy hy r' hr'=>hfr r' (List.mem_cons_of_mem _ (List.mem_flatMap.2 ⟨y,hy,hr'⟩))) (v1.mono λ_ _ x=>x.mono (Env.le_refl _) hIJ);have hF:=(hfr r (by simp)).1 cs imm hg l hl;refine .pptr _ off l.blk l.base (λk=>vals.getD k undef) (λk u hk => ?_) (λk u hk => ?_)
     ·obtain⟨v,e1,_⟩:=hvs.get k u hk;have hkl:=(List.getElem?_eq_some_iff.1 e1).1;have hvl:=v1.length;rw[hF _ (by omega) (by omega),v2 k v e1];simp[e1]
     ·obtain⟨v,e1,e2⟩:=hvs.get k u hk;simp only[List.getD_eq_getElem?_getD,e1,Option.getD_some];exact e2
    |map es clock=>cases e
    |siter s p=>cases e
    |dead=>cases e
  ·rename_i r;cases hg:h.get r with
   |none=>rw[hg] at e; cases e
   |some o =>
    rw[hg] at e;cases o with
    |cells cs imm=>cases e
    |map es clock =>
     simp only[Option.bind_eq_bind,Option.bind_eq_some_iff,Option.pure_def,Option.some.injEq,Prod.mk.injEq] at e;obtain⟨vs,h1,rfl,rfl⟩:=e;cases hv with|mref _ l hl =>
     obtain⟨arr,m1,m2⟩:=(hfr r (by simp)).2 es clock hg l hl;have hvs:=(qAP h1).mem;have hlen1:=hvs.length;have hlen2:=m2.length;simp only[Array.length_toList] at hlen2
     let en:Nat->MapEntry:=λi=>(arr[i]?).getD ⟨.nilIface,.nilIface,0⟩
     let cv:Nat->Nat->Value:=λi j=>match (en i).val with | .agg xs=>xs.getD j undef|x=>x
     have key:∀ (i:Nat) k a cs,(vs.map (·.1))[i]?=some (k,a,cs)->arr[i]?=some (en i)/\PRel J k (en i).key/\((a=false/\cs.length=1/\oneC (en i).val=true/\∀ (j:Nat) v,cs[j]?=some v->PRel J v (en i).val)\/(a=true/\∃ xs:Array Value,(en i).val = .agg xs/\xs.size=cs.length/\∀ (j:Nat) v,cs[j]?=some v->∃ u,xs[j]?=some u/\PRel J v u)):=by
      intro i k a cs hi;rw[List.getElem?_map] at hi;cases hx:vs[i]? with
      |none=>rw[hx] at hi; cases hi
      |some x =>
       rw[hx] at hi;simp only[Option.map_some,Option.some.injEq] at hi;have hil:i<es.length:=by have:=(List.getElem?_eq_some_iff.1 hx).1; omega
       obtain⟨x',x1,x2⟩:=hvs.get i es[i] (List.getElem?_eq_getElem hil);rw[hx] at x1; cases x1;obtain⟨e',y1,y2⟩:=m2.get i es[i] (List.getElem?_eq_getElem hil);have hen:arr[i]?=some e':=by simpa using y1
       have hen2:en i=e':=by show(arr[i]?).getD _=_; rw[hen]; rfl
       rw[hen2];obtain⟨_,hmem,hfz⟩:=x2;have hfr':∀ r'∈x.2,Frozen ρ h I w J r':=λr' hr'=>hfr r' (List.mem_cons_of_mem _ (List.mem_flatMap.2 ⟨x,hmem,hr'⟩))
       obtain⟨y3,y4,_⟩:=y2;cases hcomp:es[i].2.1 with
       |c z =>
        rw[hcomp] at hfz y4;simp only[Option.map_eq_some_iff] at hfz;obtain⟨q,q1,q2⟩:=hfz;subst q2;simp only[Prod.mk.injEq] at hi;obtain⟨rfl,rfl,rfl⟩:=hi;refine⟨hen,y3,.inl ⟨rfl,rfl,CRel.one y4,λj v hj => ?_⟩⟩;cases j with
        |zero=>simp at hj; subst hj; exact ih z q.1 q.2 (by rw[q1]) hfr' _ y4
        |succ j=>simp at hj
       |agg zs =>
        rw[hcomp] at hfz y4;simp only[Option.map_eq_some_iff] at hfz;obtain⟨ys,q1,q2⟩:=hfz;subst q2;simp only[Prod.mk.injEq] at hi;obtain⟨rfl,rfl,rfl⟩:=hi;obtain⟨xs,e1,e2⟩:=y4;have:=cells_ok q1 (λy hy r' hr'=>hfr' r' (List.mem_flatMap.2 ⟨y,hy,hr'⟩)) e2;have hl2:=this.length;refine⟨hen,y3,.inr ⟨rfl,xs,e1,by simp at hl2 ⊢; omega,λj v hj => ?_⟩⟩;obtain⟨u,u1,u2⟩:=this.get j v hj;exact⟨u,by simpa using u1,u2⟩
     refine .pmap _ l.blk clock arr (λi=>(en i).key) cv (λi=>(en i).born) m1 (by simp; omega) (λi k a cs hi => ?_) (λi k a cs hi=>(key i k a cs hi).2.1) (λi k a cs j v hi hj => ?_)
     ·obtain⟨k1,k2,k3⟩:=key i k a cs hi
      rcases k3 with ⟨rfl,hl1,ho,_⟩|⟨rfl,xs,hxs,hl1,_⟩
      ·refine⟨?_,λ_=>hl1⟩;rw[k1];have hcv:cv i 0=(en i).val:=by
        show(match (en i).val with | .agg xs=>xs.getD 0 undef|x=>x)=_;cases hval:(en i).val <;> first|rfl|(rw[hval] at ho; cases ho)
       simp only[Bool.false_eq_true,if_false,hcv]
      ·refine⟨?_,λe=>by cases e⟩;rw[k1];have hcv:((List.range cs.length).map (cv i)).toArray=xs:=by
        apply Array.ext
        ·simp[hl1]
        ·intro j h1 h2;simp only[List.size_toArray,List.length_map,List.length_range] at h1;simp only[List.getElem_toArray,List.getElem_map,List.getElem_range];show(match (en i).val with | .agg xs=>xs.getD j undef|x=>x)=_;rw[hxs];simp[h2]
       simp only[if_true,hcv,<- hxs]
     ·obtain⟨k1,k2,k3⟩:=key i k a cs hi;show PRel J v (match (en i).val with | .agg xs=>xs.getD j undef|x=>x)
      rcases k3 with ⟨rfl,hl1,ho,hv'⟩|⟨rfl,xs,hxs,hl1,hv'⟩
      ·have:=hv' j v hj;cases hval:(en i).val <;> first|(rw[hval] at this; exact this)|(rw[hval] at ho; cases ho)
      ·obtain⟨u,u1,u2⟩:=hv' j v hj;rw[hxs];simp only[Array.getD_eq_getD_getElem?,u1,Option.getD_some];exact u2
    |siter s p=>cases e
    |dead=>cases e
  ·cases e
theorem qEw(H:WRel ρ I h w)(hIJ:I.le J){c c':Comp}{rs:List Ref}(e:freezeC h c=some (c',rs))(hfr:∀ r∈rs,Frozen ρ h I w J r){v:Value}(hv:CompRel ρ J c v):CompRel ρ J c' v:=by
 cases c with
 |c x =>
  simp only[freezeC,Option.map_eq_some_iff,Prod.mk.injEq] at e;obtain⟨y,h1,rfl,rfl⟩:=e;exact CRel.p _ _ (qDz H hIJ _ x y.1 y.2 (by rw[h1]) hfr v hv)
 |agg cs =>
  simp only[freezeC,Option.map_eq_some_iff,Prod.mk.injEq] at e;obtain⟨ys,h1,rfl,rfl⟩:=e;obtain⟨arr,e1,e2⟩:=hv;refine⟨arr,e1,?_⟩;have:=All2.comp (T:=λ(y:PVal×List Ref) v=>CRel ρ J (.p y.1) v) (λc y v a b=>CRel.p _ _ (qDz H hIJ _ c y.1 y.2 (by rw[a.2.2]) (λr hr=>hfr r (List.mem_flatMap.2 ⟨y,a.2.1,hr⟩)) v b)) (qAP h1).mem e2;exact this.mapL (f:=λy:PVal×List Ref=>Cell.p y.1) λ_ _ x=>x
theorem qFS(H:WRel ρ I h w)(hIJ:I.le J){c c':TVal}{rs:List Ref}(e:freezeT h c=some (c',rs))(hfr:∀ r∈rs,Frozen ρ h I w J r){v:Value}(hv:TRel ρ J c v):TRel ρ J c' v:=by
 cases c with
 |v x =>
  simp only[freezeT,Option.map_eq_some_iff,Prod.mk.injEq] at e;obtain⟨y,h1,rfl,rfl⟩:=e;exact qEw H hIJ (c:=x) (c':=y.1) (rs:=y.2) (by rw[h1]) hfr hv
 |tup xs =>
  simp only[freezeT,Option.map_eq_some_iff,Prod.mk.injEq] at e;obtain⟨ys,h1,rfl,rfl⟩:=e;obtain⟨arr,e1,e2⟩:=hv;refine⟨arr,e1,?_⟩;have:=All2.comp (T:=λ(y:Comp×List Ref) v=>CompRel ρ J y.1 v) (λc y v a b=>qEw H hIJ (c:=c) (c':=y.1) (rs:=y.2) (by rw[a.2.2]) (λr hr=>hfr r (List.mem_flatMap.2 ⟨y,a.2.1,hr⟩)) b) (qAP h1).mem e2;exact this.mapL (f:=λy:Comp×List Ref=>y.1) λ_ _ x=>x
end
end Go.AI
namespace Go.AI
variable [Sym]
section
variable {P:Program} {G:Nat->Option (List PVal)} {ρ:Env} {I:Imm} {w:World} {nt:Nat}
def oneRes(tmps:Array Value):ResultVar->Sem Value
 |.tmp t=>pure (tmps.getD t undef)
 |.cell a t=>do loadVar t (<- asAddr (tmps.getD a undef))
theorem qPI{st:St}{a:Act}(S:SRel nt ρ I st a w){r:ResultVar}{ar:ARes}(hr:compRes P r=some ar){x:Comp}(hx:getRes st ar=some x) :
  ∃ cv,(oneRes a.tmps r).run P w = .ok cv w/\CompRel ρ I x cv:=by
 cases r with
 |tmp t =>
  simp only[compRes,Option.some.injEq] at hr;subst hr;unfold getRes at hx;split at hx
  ·rename_i e; cases e;split at hx
   ·rename_i y hy;cases hx;exact⟨_,rfl,S.tm _ _ hy⟩
   ·cases hx
  ·rename_i e; cases e
 |cell ad t =>
  simp only[compRes,Option.bind_eq_bind,Option.bind_eq_some_iff,Option.pure_def,Option.some.injEq] at hr;obtain⟨g,h1,n,h2,rfl⟩:=hr;unfold getRes at hx;split at hx
  ·rename_i e; cases e
  ·rename_i e;cases e;split at hx
   ·rename_i rr off hy;split at hx
    ·rename_i cs imm hg;split at hx
     ·rename_i y hy2;cases hx;have hv:=qAC (S.tm _ _ hy);generalize hvv:a.tmps.getD ad undef=v at hv;cases hv with|ptr _ _ l hl =>
      obtain⟨l',e',hobj⟩:=S.heap.live _ _ hg;rw[hl] at e'; cases e';obtain⟨cv,r1,r2⟩:=qEW (P:=P) (hobj.cellsAt) h1 h2 hy2;exact⟨cv,by unfold oneRes; dsimp only; rw[hvv]; simp only[asAddr]; exact r1,r2⟩
     ·cases hx
    ·cases hx
   ·cases hx
theorem qL8{st:St}{a:Act}(S:SRel nt ρ I st a w):∀ {l:List ResultVar}{ar:List ARes}{vs:List Comp},l.mapM (compRes P)=some ar->ar.mapM (getRes st)=some vs ->
  ∃ cvs,(l.mapM (oneRes a.tmps)).run P w = .ok cvs w/\All2 (CompRel ρ I) vs cvs:=by
 intro l
 induction l with
 |nil =>
  intro ar vs h1 h2;simp at h1; subst h1;simp at h2; subst h2;exact⟨[],rfl,trivial⟩
 |cons r l ih =>
  intro ar vs h1 h2;simp only[List.mapM_cons,Option.bind_eq_bind,Option.bind_eq_some_iff,Option.pure_def,Option.some.injEq] at h1;obtain⟨x,x1,xs,x2,rfl⟩:=h1;simp only[List.mapM_cons,Option.bind_eq_bind,Option.bind_eq_some_iff,Option.pure_def,Option.some.injEq] at h2;obtain⟨y,y1,ys,y2,rfl⟩:=h2;obtain⟨cv,c1,c2⟩:=qPI S x1 y1;obtain⟨cvs,d1,d2⟩:=ih x2 y2;refine⟨cv::cvs,?_,c2,d2⟩;rw[List.mapM_cons];rw[Sem.run_bind,c1,Result.andThen_ok,Sem.run_bind,d1,Result.andThen_ok];rfl
theorem qKK{st:St}{a:Act}(S:SRel nt ρ I st a w){fn:Func}{ar:List ARes}{vs:List Comp}(h1:fn.results.toList.mapM (compRes P)=some ar)(h2:ar.mapM (getRes st)=some vs) :
  ∃ cv,(results fn a.tmps).run P w = .ok cv w/\TRel ρ I (oneOf vs) cv:=by
 obtain⟨cvs,d1,d2⟩:=qL8 S h1 h2;have hlen:=d2.length;refine⟨if h:cvs.toArray.size=1 then cvs.toArray[0] else .tuple cvs.toArray,?_,?_⟩
 ·have he:results fn a.tmps=(do let vs <- fn.results.mapM (oneRes a.tmps); pure (if h:vs.size=1 then vs[0] else .tuple vs)):=rfl;rw[he,Array.mapM_eq_mapM_toList,Sem.run_bind];have:(List.toArray <$> fn.results.toList.mapM (oneRes a.tmps):Sem (Array Value)).run P w = .ok cvs.toArray w:=by
   rw[map_eq_pure_bind,Sem.run_bind,d1];rfl
  rw[this,Result.andThen_ok];rfl
 ·cases vs with
  |nil=>cases cvs with
   |nil=>exact⟨#[],rfl,trivial⟩
   |cons _ _=>exact d2.elim
  |cons x vs=>cases cvs with
   |nil=>exact d2.elim
   |cons c cvs=>cases vs with
    |nil=>cases cvs with
     |nil=>exact d2.1
     |cons _ _=>exact d2.2.elim
    |cons y vs=>cases cvs with
     |nil=>exact d2.2.elim
     |cons c2 cvs=>exact⟨(c::c2::cvs).toArray,by simp,d2⟩
theorem qDi{heap:Nat->Bool}{frz:Bool}{fn:Func}{F:AFunc}(h:compF P G heap frz fn=some F):∃ c rs,fn.body=some c/\fn.results.toList.mapM (compRes P)=some rs/\fn.name ≠ "runtime.NumGoroutine" /\ fn.ntmps<1000000/\fn.params.size+fn.nfree<=fn.ntmps /\
  F={ np:=fn.params.size+fn.nfree,res:=rs,frz,body:=comp P G fn.ntmps heap c }:=by
 unfold compF at h;simp only[Option.bind_eq_bind,Option.bind_eq_some_iff] at h;obtain⟨c,h1,rs,h2,h⟩:=h;split at h
 ·cases h
 ·rename_i hn;split at h
  ·cases h
  ·rename_i hs;simp only[Option.pure_def,Option.some.injEq] at h;exact⟨c,rs,h1,h2,by simpa using hn,by omega,by omega,h.symm⟩
theorem qGM{F:AFunc}{fn:Func}{a:Act}{st:St}(S:SRel nt ρ I st a w)(hres:fn.results.toList.mapM (compRes P)=some F.res){objs:List AObj}{v:TVal}{objs':List AObj}(hf:finish F st objs.length=some (v,objs'))
  {ρ0:Env} {I0:Imm} {w0:World} (g:Good ρ0 I0 { ims:=objs,owns := .nil } w0 ρ I st.h w) (hfi:∀ i l,ρ0 (.im i)=some l->i<objs.length) (hown:∀ d n,ρ0 (.own d n)=none) :
  ∃ cv ρ' I',(results fn a.tmps).run P w = .ok cv w/\TRel ρ' I' v cv/\WRel ρ' I' { ims:=objs',owns := .nil } w/\Good ρ0 I0 { ims:=objs,owns := .nil } w0 ρ' I' { ims:=objs',owns := .nil } w/\∀ d n,ρ' (.own d n)=none:=by
 unfold finish at hf;cases hvs:F.res.mapM (getRes st) with
 |none=>rw[hvs] at hf; cases hf
 |some vs =>
  rw[hvs] at hf;dsimp only at hf;obtain⟨cv,hr,hv⟩:=qKK S hres hvs;generalize hv0:oneOf vs=v0 at hf hv;cases hfz:(if F.frz then freezeT st.h v0 else some (v0,[])) with
  |none=>rw[hfz] at hf; cases hf
  |some p =>
   obtain⟨v1,fr⟩:=p;rw[hfz] at hf;simp only[Option.some.injEq,Prod.mk.injEq] at hf;obtain⟨f1,f2⟩:=hf;obtain⟨J,j1,j2,j3,j4⟩:=qD7 fr I st.h S.heap;have hv1:TRel ρ J v1 cv:=by
    cases hfrz:F.frz with
    |true =>
     rw[hfrz] at hfz;exact qFS S.heap j1 (by simpa using hfz) j4 (hv.mono (Env.le_refl _) j1)
    |false =>
     rw[hfrz] at hfz;simp only[Bool.false_eq_true,if_false,Option.some.injEq,Prod.mk.injEq] at hfz;obtain⟨rfl,rfl⟩:=hfz;exact hv.mono (Env.le_refl _) j1
   generalize hh:settle st.h fr=h1 at f1 f2 j2 j3;generalize hrs:reach h1 fuelReach ((ims objs.length).flatMap (λr=>match h1.get r with|some o=>o.refs|none=>[])++v1.refs) (ims objs.length)=rs at f1 f2;have hnd0:(ims objs.length).Nodup:=by
    unfold ims;exact List.Pairwise.map Ref.im (λa b hab e=>hab (by cases e; rfl)) List.nodup_range
   obtain⟨hnd,t,ht⟩:=qEU h1 fuelReach ((ims objs.length).flatMap (λr=>match h1.get r with|some o=>o.refs|none=>[])++v1.refs) (ims objs.length) hnd0;rw[hrs] at hnd ht;have hobjs:({ ims:=objs',owns := .nil }:Heap)=heapOf h1 rs:=by rw[<- f2]; rfl
   have g2:=g.trans j3;refine⟨cv,envOf ρ rs,J,hr,?_,?_,?_,λd n=>rfl⟩
   ·rw[<- f1]; exact qJF qFg hv1
   ·rw[hobjs]; exact j2.heapOf hnd
   ·rw[hobjs];refine⟨λr l e => ?_,g2.imm,g2.keep,λb hb=>g2.own b (qBU hb),g2.inew,g2.mnew⟩;cases r with
    |own d n=>rw[hown] at e; cases e
    |im i =>
     have hi:=hfi i l e;have:rs[i]?=some (.im i):=by
      rw[ht,List.getElem?_append_left (by simp[ims]; exact hi)];simp[ims,hi]
     simp only[envOf,this,Option.bind_some];exact g2.env _ _ e
theorem qJa:FSound P G λ_ _ _=>none:=λf args objs v objs' e=>by cases e
end
end Go.AI
namespace Go.AI
def TM.All{α:Type}(Q:Nat->α->Prop):TM α->(Nat->Nat)->Prop
 |.nil,_=>True
 |.node l v r,φ=>(match v with|some a=>Q (φ 0) a|none=>True)/\TM.All Q l (λn=>φ (2*n+1))/\TM.All Q r (λn=>φ (2*n+2))
theorem TM.All.get{α:Type}{Q:Nat->α->Prop}:∀ {t:TM α}{φ:Nat->Nat},TM.All Q t φ->∀ {n:Nat}{a:α},t.get n=some a->Q (φ n) a:=by
 intro t
 induction t with
 |nil=>intro φ _ n a h; simp[TM.get_nil] at h
 |node l v r ihl ihr =>
  intro φ h n a hg;obtain⟨h1,h2,h3⟩:=h;rw[TM.get_node] at hg;by_cases h0:n=0
  ·subst h0;rw[if_pos rfl] at hg;subst hg;exact h1
  ·rw[if_neg h0] at hg;by_cases ho:n % 2=1
   ·rw[if_pos ho] at hg;have:=ihl h2 hg
    rwa [show 2*(n / 2)+1=n by omega] at this
   ·rw[if_neg ho] at hg;have:=ihr h3 hg
    rwa [show 2*(n / 2 - 1)+2=n by omega] at this
variable [Sym]
end Go.AI
namespace Go.AI
variable [Sym]
open Go.RowKit Go.ChangeShapes Go.WideShapes
def noEnv:Env:=λ_=>none
def noHeap:Heap:={ ims:=[],owns := .nil }
theorem qBY(r:Ref):noHeap.get r=none:=by cases r <;> rfl
theorem qJi{I:Imm}{w:World}(h1:∀ b o v,I.cell b o=some v->w.cell? ⟨b,o,none⟩=some v)(h2:∀ b arr c,I.map b=some (arr,c)->w.heap[b]?=some (.map arr c)):WRel noEnv I noHeap w where
 live r o e:=by rw[qBY] at e; cases e
 inj r r' o o' l l' e:=by rw[qBY] at e; cases e
 icell:=h1
 imap:=h2
 apart r o l e:=by rw[qBY] at e; cases e
 apartm r o l e:=by rw[qBY] at e; cases e
 fresh d g l e:=by cases e
 freshi i l e:=by cases e
theorem qM3{P:Program}{G:Nat->Option (List PVal)}{O:Oracle}(hO:FSound P G O){f:FuncId}{args:List TVal}{v:TVal}{objs:List AObj}(h:O f args []=some (v,objs)){I:Imm}(hG:GRel G I){w:World}
  (h1:∀ b o v,I.cell b o=some v->w.cell? ⟨b,o,none⟩=some v) (h2:∀ b arr c,I.map b=some (arr,c)->w.heap[b]?=some (.map arr c)) {avs:Array Value} (ha:All2 (TRel noEnv I) args avs.toList) :
  Calls P f avs w λe w'=>∃ cv ρ' I',e = .returned cv/\TRel ρ' I' v cv/\Below w.heap.size w w':=by
 refine Calls.mono ((hO _ _ _ _ _ h).2 noEnv I w avs hG (qJi h1 h2) ha (λ_ _=>rfl)) λe w' ⟨cv,ρ',I',e1,e2,e3,e4,_⟩=>⟨cv,ρ',I',e1,e2,e4.keep.os,e4.keep.tape,e4.keep.output,e4.keep.size,λk hk=>e4.keep.block k hk λ⟨r,o,l,hr,_⟩=>by rw[show(({ ims:=[],owns := .nil }:Heap))=noHeap from rfl,qBY] at hr; cases hr⟩
theorem qKe{ρ:Env}{I:Imm}(k:IntKind)(n:Int):TRel ρ I (.pv (.int k n)) (.int k n):=CRel.p _ _ (.int k n)
def preN:Nat->ACode->ACode
 |0,_ => .skip
 |n+1,.seq a b => .seq a (preN n b)
 |_+1,c=>c
variable {H:Type} {enc:TypeId×Value->H} {P:Program}
end Go.AI
