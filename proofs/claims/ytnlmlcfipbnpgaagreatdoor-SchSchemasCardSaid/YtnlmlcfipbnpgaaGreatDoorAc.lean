/- Own work. Condition: what each theorem names. -/
import Derived.Test.YtnlmlcfipbnpgaaGreatDoorAb
import Derived.Calls
import Derived.Orders
import Derived.LoopN
import Derived.Scope
import Derived.Below
import Derived.ChangeSame
set_option linter.all false
open Option renaming some.injEq->rJ,bind_eq_some_iff->rK,bind_eq_bind->rL,pure_def->rM
namespace Go.AI
variable [Sym]
def l8(ρ dL:Env)(k n:Nat):Env
 |.own e A=>ρ (.own e A)
 |.im i=>if n<=i then dL (.im (k+(i - n))) else ρ (.im i)
def qL1(ρ dL:Env)(k n j:Nat):l8 ρ dL k n (dC n j)=dL (.im (k+j)):=by
 simp only[l8,dC]; rw[bF bn]; congr 2; omega
section
variable {ρ:Env} {I:eK} {h:bm} {w:World} {rs:List Ref} {dL:Env} {I':eK} {cZ:List bG} {w':World}
def qHa(H:eC ρ I h w):ρ.le (l8 ρ dL rs.length h.bY.length):=by
 intro r l e;cases r with
 |own e' A =>
  exact e
 |im i =>
  have:=H.jf i l e;simp only[l8];rw[bA bn];exact e
def qLR{m:Nat}(H:eC ρ I h w)(A:∀ r∈rs,∃ o,h.get r=some o)(hle:(jM ρ rs).le dL)(M:∀ e g,dL (.own e g)=none) :
  ∀ r s l,back rs m (dC h.bY.length) r=some s->dL r=some l->l8 ρ dL rs.length h.bY.length s=some l:=by
 intro r s l hs U;cases r with
 |own e g=>rw[M] at U; cases U
 |im i =>
  simp only[back] at hs;cases hi:rs[i]? with
  |none =>
   rw[hi] at hs;dsimp only at hs;cases hb:Nat.blt i m with
   |false=>rw[hb] at hs; cases hs
   |true =>
   rw[hb] at hs;simp only[iv,rJ] at hs;subst hs;rw[qL1];have:=EY.1 hi;rw[show rs.length+(i - rs.length)=i by omega];exact U
  |some r0 =>
   rw[hi] at hs; simp only[rJ] at hs;subst hs;obtain⟨o,ho⟩:=A r0 (mY hi);obtain⟨l0,e0,_⟩:=H.live r0 o ho;have h1:jM ρ rs (.im i)=some l0:=by simp[jM,hi,e0]
   have h2:=hle _ _ h1;rw[U] at h2; cases h2;exact qHa H _ _ e0
def qXt(H:eC ρ I h w)(ar:rs.Nodup)(ae:∀ r∈rs,∃ o,h.get r=some o)(H':eC dL I' { bY:=cZ,cW:=.nil } w')(hG:Good (jM ρ rs) I (lH h rs) w dL I' { bY:=cZ,cW:=.nil } w')
  (an:∀ e g,dL (.own e g)=none) (hlen:rs.length<=cZ.length) :
  let σ:=back rs cZ.length (dC h.bY.length)
  let h2:=hZ h rs (cZ.map (bG.eB σ))
  let U:=l8 ρ dL rs.length h.bY.length
  eC U I' h2 w'/\Good ρ I h w U I' h2 w':=by
 intro σ h2 U;have hle:ρ.le U:=qHa H;have al:∀ r s l,σ r=some s->dL r=some l->U s=some l:=qLR H ae hG.env an;have aj:∀ r∈rs,Has h r:=λr hr=>let ⟨o,ho⟩:=ae r hr; Has.og ho
 have af:=qKD (os:=cZ.map (bG.eB σ)) aj;have A:∀ r o,h2.get r=some o->(∃ i x,({ bY:=cZ,cW:=.nil }:bm).get (.im i)=some x/\o=x.eB σ/\σ (.im i)=some r)\/(r∉rs/\h.get r=some o):=by
  intro r o hr;have ao:=bm.lk hr;have obj:∀ (i:Nat),(cZ.map (bG.eB σ))[i]?=some o->∃ x,({ bY:=cZ,cW:=.nil }:bm).get (.im i)=some x/\o=x.eB σ:=by
   intro i hi;rw[dP] at hi;cases hx:cZ[i]? with
   |none=>rw[hx] at hi; cases hi
   |some x =>
    rw[hx] at hi; simp only[iO,rJ] at hi;subst hi;refine⟨x,?_,rfl⟩;unfold bm.get;simp only[hx];split
    ·rename_i e; cases e; exact absurd rfl ao
    ·rfl
  rcases qKF ar (by simpa using hlen) aj hr with ⟨i,a,b⟩|⟨j,a,b⟩|c
  ·obtain⟨x,x1,x2⟩:=obj i b;exact .inl ⟨i,x,x1,x2,by show back rs _ _ (.im i)=_; simp only[back,a]⟩
  ·obtain⟨x,x1,x2⟩:=obj _ b;refine .inl ⟨_,x,x1,x2,?_⟩;have au:rs.length+j<cZ.length:=by
    have:=(cQ.1 b).1
    simpa using this
   have aw:Nat.blt (rs.length+j) cZ.length=true:=by rw[rP]; exact au
   show back rs _ _ (.im _)=_;simp only[back];rw[ky bn];simp only[aw,iv,Ln,a]
  ·exact .inr c
 have ab:∀ r o l,r∉rs->h.get r=some o->ρ r=some l->¬ owned (jM ρ rs) (lH h rs) l.fg:=by
  intro r o l hr ho hl ⟨r1,o1,l1,a,b,c⟩;obtain⟨i,s,x,rfl,hs,hx,rfl⟩:=OF a;simp[jM,hs] at b;exact H.inj s r x o l1 l hx ho b hl (λe=>hr (by rw[<- e]; exact mY hs)) c
 have ak:∀ r o l,r∉rs->h.get r=some o->ρ r=some l->∀ i x l',({ bY:=cZ,cW:=.nil }:bm).get (.im i)=some x->dL (.im i)=some l'->l'.fg≠l.fg:=by
  intro r o l hr ho hl i x l' hx ad e
  rcases hG.own l'.fg ⟨_,x,l',hx,ad,rfl⟩ with a|a
  ·rw[e] at a; exact ab r o l hr ho hl a
  ·have:=H.lt ho hl; omega
 have aa:∀ {i x r l},({ bY:=cZ,cW:=.nil }:bm).get (.im i)=some x->σ (.im i)=some r->U r=some l->dL (.im i)=some l:=by
  intro i x r l hx hs hl;obtain⟨l0,e0,_⟩:=H'.live _ _ hx;have:=al _ _ _ hs e0;rw[this] at hl; cases hl; exact e0
 have M:∀ {r o l},h.get r=some o->U r=some l->ρ r=some l:=by
  intro r o l ho hl;obtain⟨l0,e0,_⟩:=H.live r o ho;have:=hle _ _ e0;rw[this] at hl; cases hl; exact e0
 constructor
 ·refine⟨λr o hr=>?_,λr r' o o' l l' hr ax hl ad aq=>?_,H'.gQ,H'.sd,λr o l hr hl b k v hv hb=>?_,λr o l hr hl=>?_,λe g l hl=>?_,λi l hl=>?_⟩
  ·rcases A r o hr with ⟨i,x,hx,rfl,hs⟩|⟨hn,ho⟩
   ·obtain⟨l,e,ho⟩:=H'.live _ _ hx;exact⟨l,al _ _ _ hs e,qMY al ho⟩
   ·obtain⟨l,e,ay⟩:=H.live _ _ ho;exact⟨l,hle _ _ e,(ay.mono hle hG.imm).rl (hG.dY.block _ (H.lt ho e) (ab r o l hn ho e))⟩
  ·rcases A r o hr with ⟨i,x,hx,rfl,hs⟩|⟨hn,ho⟩ <;> rcases A r' o' ax with ⟨i',x',ag,rfl,ah⟩|⟨az,ai⟩
   ·exact H'.inj _ _ _ _ _ _ hx ag (aa hx hs hl) (aa ag ah ad) λe=>aq (by cases e; rw[hs] at ah; exact kr ah)
   ·exact ak r' o' l' az ai (M ai ad) i x l hx (aa hx hs hl)
   ·exact(ak r o l hn ho (M ho hl) i' x' l' ag (aa ag ah ad)).symm
   ·exact H.inj _ _ _ _ _ _ ho ai (M ho hl) (M ai ad) aq
  ·rcases A r o hr with ⟨i,x,hx,rfl,hs⟩|⟨hn,ho⟩
   ·rw[qMQ]; exact H'.apart _ _ _ hx (aa hx hs hl) b k v hv hb
   ·rcases hG.Cm b k v hv with a|a|a
    ·exact H.apart _ _ _ ho (M ho hl) b k v a hb
    ·subst hb; exact absurd a (ab r o l hn ho (M ho hl))
    ·have:=H.lt ho (M ho hl); omega
  ·rcases A r o hr with ⟨i,x,hx,rfl,hs⟩|⟨hn,ho⟩
   ·exact H'.jW _ _ _ hx (aa hx hs hl)
   ·cases hm:I'.map l.fg with
    |none=>rfl
    |some y =>
     rcases hG.Cl _ _ hm with a|a|a
     ·rw[H.jW _ _ _ ho (M ho hl)] at a; cases a
     ·exact absurd a (ab r o l hn ho (M ho hl))
     ·have:=H.lt ho (M ho hl); omega
  ·show g<=h2.gen e;simp only[U,l8] at hl;exact qa (H.fresh e g l hl) (af.1 e)
  ·show i<h2.bY.length;simp only[U,l8] at hl;split at hl
   ·rename_i hh;have:=H'.jf _ _ hl;exact af.2.2 (i - h.bY.length) (by simp only[dj] at this ⊢; omega) i (by simp only[dC]; congr 1; omega)
   ·exact Fw (H.jf i l hl) af.2.1
 ·refine⟨hle,hG.imm,⟨hG.dY.os,hG.dY.tape,hG.dY.output,hG.dY.size,λb hb hn=>hG.dY.block b hb λa=>hn (Vo a)⟩,λb ho=>?_,λb k v hv=>(hG.Cm b k v hv).imp id (·.imp Vo id),λb v hv=>(hG.Cl b v hv).imp id (·.imp Vo id)⟩;obtain⟨r,o,l,hr,hl,e⟩:=ho
  rcases A r o hr with ⟨i,x,hx,rfl,hs⟩|⟨hn,ho⟩
  ·exact(hG.own b ⟨_,x,l,hx,aa hx hs hl,e⟩).imp Vo id
  ·exact .inl ⟨r,o,l,ho,M ho hl,e⟩
end
def gN(P:Program)(G:Nat->Option (List bL))(O:bD):Prop:=∀ f args A v cZ,O f args A=some (v,cZ) ->
 (∃ fn,P.funcs[f]?=some fn/\fn.body.isSome=true/\fn.name ≠ "runtime.NumGoroutine") /\
 ∀ ρ I w (M:Array Value),nv G I->eC ρ I { bY:=A,cW:=.nil } w->cS (fq ρ I) args M.toList->(∀ d g,ρ (.own d g)=none) ->
  Calls P f M w λe w'=>∃ cv dL I',e = .returned cv/\fq dL I' v cv/\eC dL I' { bY:=cZ,cW:=.nil } w'/\Good ρ I { bY:=A,cW:=.nil } w dL I' { bY:=cZ,cW:=.nil } w'/\(∀ d g,dL (.own d g)=none)
def XD{h:bm}{rs:List Ref}{A:List bG}(hm:rs.mapM h.get=some A):(∀ r∈rs,∃ o,h.get r=some o)/\A.map (bG.eB (iU rs))=rs.map (Bi h rs):=by
 have h1:=wc hm;have key:∀ (σ:Ref->Option Ref) (l:List Ref) (m:List bG),cS (λr o=>h.get r=some o) l m->(∀ r∈l,∃ o,h.get r=some o)/\m.map (bG.eB σ)=l.map (λr=>match h.get r with|some o=>o.eB σ|none=>.dead):=by
  intro σ l
  induction l with
  |nil=>intro m hm; cases m with
   |nil=>exact⟨bR,rfl⟩
   |cons _ _=>exact hm.elim
  |cons r l M=>intro m hm; cases m with
   |nil=>exact hm.elim
   |cons o m =>
    obtain⟨a,b⟩:=M m hm.2;refine⟨λs hs=>?_,?_⟩
    ·rcases dK.1 hs with rfl|hs
     ·exact⟨o,hm.1⟩
     ·exact a s hs
    ·simp only[dr,b,hm.1]
 exact key (iU rs) _ _ h1
def qUv{P:Program}{G:Nat->Option (List bL)}{O:bD}(hO:gN P G O){ρ:Env}{I:eK}{h:bm}{w:World}(hG:nv G I)(H:eC ρ I h w){f:FuncId}{args:List bt}{M:Array Value}(ha:cS (fq ρ I) args M.toList)
  {d:Nat} (hd:d+1<1048576) {v:bt} {h':bm} {t:Touch} (hc:dE O f args d h=some (v,h',t)) :
  (∃ fn,P.funcs[f]?=some fn/\fn.body.isSome=true/\fn.name ≠ "runtime.NumGoroutine") /\
  Calls P f M w λe w'=>∃ cv dL I',e = .returned cv/\fq dL I' v cv/\eC dL I' h' w'/\Good ρ I h w dL I' h' w':=by
 unfold dE at hc;dsimp only at hc;generalize af:reach h cw ((args.map bt.strip).flatMap bt.refs) []=rs at hc;have ab:rs.Nodup:=by rw[<- af]; exact(qGc h _ _ [] bR).1
 split at hc
 ·cases hc
 ·rename_i ai U;split at hc
  ·cases hc
  ·rename_i v0 cZ ad;split at hc
   ·cases hc
   ·rename_i hlen;obtain⟨A,ae⟩:=XD U;rw[ae] at ad;obtain⟨hf,aa⟩:=hO _ _ _ _ _ ad;refine⟨hf,?_⟩;have:=aa (jM ρ rs) I w M hG (H.lH ab) ?_ (λd g=>rfl)
    ·refine Calls.mono this λe w' ⟨cv,dL,I',e1,e2,e3,e4,e5⟩=>?_
     obtain⟨m1,m2⟩:=qXt H ab A e3 e4 e5 bn;have ag:=qLR (m:=cZ.length) H A e4.env e5;simp only[rJ,fB] at hc;obtain⟨c1,c2,_⟩:=hc;refine⟨cv,l8 ρ dL rs.length h.bY.length,I',e1,?_,?_,?_⟩
     ·rw[<- c1]; exact Zz ag e2
     ·have:h'=hZ h rs (cZ.map (bG.eB (back rs cZ.length (dC h.bY.length)))):=by rw[<- c2]; rfl
      rw[this]; exact m1
     ·have:h'=hZ h rs (cZ.map (bG.eB (back rs cZ.length (dC h.bY.length)))):=by rw[<- c2]; rfl
      rw[this]; exact m2
    ·rw[fU];exact ha.ur λa b ah=>Zz Z4 (qUp ah)
end Go.AI
namespace Go.AI
variable [Sym]
section
variable {P:Program} {G:Nat->Option (List bL)} {O:bD} {ρ:Env} {I:eK} {w:World} {nt:Nat} {heap:Nat->Bool}
def qSw{a:Act}{dst:Option Tmp}{v:Value}:(a.put dst v).tmps=(match dst with|some d=>a.tmps.setIfInBounds d v|none=>a.tmps)/\(a.put dst v).defers=a.defers:=by
 cases dst <;> exact⟨rfl,rfl⟩
def nr.put{st:St}{a:Act}(S:nr nt ρ I st a w){dL:Env}{I':eK}{h':bm}{w':World}(U:eC dL I' h' w')(hle:ρ.le dL)(hI:I.le I'){dst:Option Tmp}(hd:∀ d,dst=some d->d<nt){v:bt}{cv:Value}(hv:fq dL I' v cv) :
  nr nt dL I' { tm:=fX st.tm dst v,h:=h' } (a.put dst cv) w':=by
 obtain⟨h1,h2⟩:=qSw (a:=a) (dst:=dst) (v:=cv);refine⟨U,λt u hu=>?_,?_,by rw[h2]; exact S.defers⟩
 ·rw[h1];cases dst with
  |none=>exact(S.tm t u hu).mono hle hI
  |some d =>
   simp only[fX] at hu;by_cases A:d=t
   ·subst A;have:=TM.jq _ _ _ _ hu;subst this;have M:d<a.tmps.size:=by rw[S.size]; exact hd d rfl
    simpa [M] using hv
   ·rw[TM.ez _ _ _ _ A] at hu;have:=(S.tm t u hu).mono hle hI
    simpa [BN A] using this
 ·rw[h1];cases dst with
  |none=>exact S.size
  |some d=>simp[S.size]
def qIs:fq ρ I .undef undef:=⟨#[],rfl,bB⟩
def qO1{a:Act}{tm:TM bt}{h:bm}(C:iZ P G ρ I h w tm a):∀ {xs:List Operand}{A:List X}{as:List bt},xs.mapM (cG G)=some A->A.mapM (λx=>x.ev tm)=some as->cS (fq ρ I) as (xs.map a.eval):=by
 intro xs
 induction xs with
 |nil =>
  intro A as h1 M;simp at h1; subst h1;simp at M; subst M;trivial
 |cons x xs ih =>
  intro A as h1 M;have U:=wc h1;cases A with
  |nil=>exact U.elim
  |cons x' A =>
   have aa:=wc M;cases as with
   |nil=>exact aa.elim
   |cons u as =>
    simp only[ek,rL,rK,rM,rJ] at h1 M;obtain⟨y,_,ys,e1,e2⟩:=h1;obtain⟨z,_,zs,e3,e4⟩:=M;cases e2; cases e4;exact⟨C.ev U.1 aa.1,ih e1 e3⟩
def qSC:∀ {dD:List Ref}{ls:List Loc},cS (λr l=>ρ r=some l) dD ls->cS (fq ρ I) (dD.map λr=>.v (.c (.ptr r 0))) (ls.map qE):=by
 intro dD
 induction dD with
 |nil=>intro ls h; cases ls with
  |nil=>trivial
  |cons _ _=>exact h.elim
 |cons r dD A=>intro ls h; cases ls with
  |nil=>exact h.elim
  |cons l ls=>exact⟨cD.ptr r 0 l h.1,A h.2⟩
def Leaves(P:Program)(nt:Nat)(ρ:Env)(I:eK)(st:St)(w:World)(A:St)(K:Act->World->Prop):Prop :=
 ∀ dL I' M w',nr nt dL I' A M w'->Good ρ I st.h w dL I' A.h w'->K M w'
def qLh{op:Op}{f:X}{args:List X}(h:oy P G heap op=some (.call f args)):∃ c A,op = .call c/\c.callee = .value A/\cG G A=some f/\c.args.toList.mapM (cG G)=some args:=by
 cases op
 case call c =>
  simp only[oy] at h;unfold rN at h;split at h
  ·rename_i A M;simp only[rL,rK,rM,rJ,jE.call.injEq] at h;obtain⟨f',h1,as,U,h3,h4⟩:=h;exact⟨c,A,rfl,M,by rw[h1,h3],by rw[U,h4]⟩
  ·cases h
  ·simp only[rL,rK] at h;obtain⟨xs,_,h⟩:=h;split at h
   ·split at h <;> simp at h
   ·split at h <;> simp[rK] at h
    all_goals (obtain⟨_,_,_,_,_,_,h⟩:=h; split at h <;> simp at h)
   ·cases h
 all_goals
  exfalso;revert h;unfold oy
  try dsimp only
  intro h
  repeat' (first|(cases h; done)|(simp[rK] at h; done)|split at h)
  all_goals (try simp[rK] at h)
  all_goals (repeat' (first|(cases h; done)|(obtain⟨_,_,h⟩:=h)|split at h))
  all_goals (rename_i e; cases e)
def qQ6{tm:TM bt}{M:jE}{f:FuncId}{as:List bt}(h:cH tm M=some (.call f as)):∃ x xs g dD A,M = .call x xs/\x.ev tm=some (.v (.c (.func g dD)))/\xs.mapM (λx=>x.ev tm)=some A/\f=g/\as=A++dD.map λr=>.v (.c (.ptr r 0)):=by
 have U:∀ v,cA.pure v ≠ .call f as:=λv e=>by cases e
 have aa:∀ r k,cA.read r k ≠ .call f as:=λr k e=>by cases e
 have ab:∀ r k,cA.write r k ≠ .call f as:=λr k e=>by cases e
 have ad:∀ o b k,cA.Bj o b k ≠ .call f as:=λo b k e=>by cases e
 cases M
 case call x xs =>
  simp only[cH] at h;split at h
  ·rename_i g dD hx;simp only[rL,rK,rM,rJ,cA.call.injEq] at h;obtain⟨A,h1,h2,h3⟩:=h;exact⟨x,xs,g,dD,A,rfl,hx,h1,h2.symm,h3.symm⟩
  ·cases h
 all_goals
  exfalso;unfold cH at h
  try dsimp only at h
  repeat' (first|(cases h; done)|(simp[rK,U,aa,ad] at h; done)|split at h)
  all_goals (try simp[rK] at h)
  all_goals (repeat' (first|(cases h; done)|(obtain⟨_,_,h⟩:=h)|split at h))
def nr.here{st:St}{a:Act}(S:nr nt ρ I st a w)(A:nv G I):iZ P G ρ I st.h w st.tm a:=⟨A,S.heap,S.tm⟩
def qOt{U:Operand}{c:Call}{a:Act}{o:Oper}(ho:o.op = .call c)(hc:c.callee = .value U){g:FuncId}{dD:Array Value}(hf:a.eval U = .func (.func g) #[] dD)
  (A:∃ fn,P.funcs[g]?=some fn/\fn.body.isSome=true/\fn.name ≠ "runtime.NumGoroutine"):(execOp a.eval o).run P w = .ok (.enter g (c.args.map a.eval++dD)) w:=by
 obtain⟨fn,h1,h2,h3⟩:=A;have hb:fn.body.isNone=false:=by cases hb:fn.body <;> simp_all
 have he:execOp a.eval o=(do let d <- resolve a.eval c o.type; invoke d.target d.args):=by unfold execOp; rw[ho]
 have hr:resolve a.eval c o.type=pure { target:=.fn (.func g) dD,args:=#[]++c.args.map a.eval }:=by unfold resolve; rw[hc]; simp only[hf]; rfl
 have aa:(fn.name == "runtime.NumGoroutine")=false:=by simpa using h3
 rw[he,hr];have hi:∀ args,invoke (.fn (.func g) dD) args=callFunc g (args++dD):=λargs=>rfl
 have M:¬ fn.body=none:=by intro e; rw[e] at h2; cases h2
 simp[hi,callFunc,h1];rw[bA h3,bA M]
def qTI{o:Oper}{a:Act}{next:Act->World->Prop}{Q:Exit->Act->World->Prop}{v:Value}{w':World}(h:(execOp a.eval o).run P w = .ok (.value v) w')(hn:next (a.put o.dst v) w'):o.wp P a w next Q:=by
 unfold Oper.wp; rw[h]; exact hn
def wp_skip{o:Oper}{a:Act}{next:Act->World->Prop}{Q:Exit->Act->World->Prop}{w':World}(h:(execOp a.eval o).run P w = .ok .skip w')(hn:next (a.put o.dst undef) w'):o.wp P a w next Q:=by
 unfold Oper.wp; rw[h]; exact hn
def qXo(hO:gN P G O)(hG:nv G I){st:St}{a:Act}(S:nr nt ρ I st a w)(ax:nt<1000000){o:Oper}{ad:jE}(hc:oy P G heap o.op=some ad)(A:∀ d,o.dst=some d->d<nt){gd:Option (Nat×Bool)}{ae:St}{t:Touch}
  (hs:pd O { dst:=o.dst,op:=ad,guard:=gd } st=some (ae,t)) {K:Act->World->Prop} {Q:Exit->Act->World->Prop} (hK:Leaves P nt ρ I st w ae K):o.wp P a w K Q:=by
 unfold pd at hs;dsimp only at hs;have hd:o.dst.getD 1000000+1<1048576:=by
  cases h:o.dst with
  |none=>simp
  |some d=>exact Fx (A d h) bn
 split at hs
 ·cases hs
 ·rename_i p hp;split at hs
  ·cases hs
  ·rename_i v h t' hv;simp only[rJ,fB] at hs;obtain⟨e1,e2⟩:=hs;subst e1;cases p with
   |go dM k =>
    have aj:(cA.go dM k).iL (o.dst.getD 1000000) st.h=some (v,h,t'):=hv;obtain⟨w',dL,I',af,hW,M⟩:=qXk (S.here (P:=P) hG) hd rfl hc hp aj
    rcases af with ⟨cv,hr,hv⟩|⟨hr,hv⟩
    ·exact qTI hr (hK dL I' _ _ (S.put hW M.env M.imm A hv) M)
    ·subst hv;exact wp_skip hr (hK dL I' _ _ (S.put hW M.env M.imm A qIs) M)
   |call f as =>
    obtain⟨x,xs,g,dD,ak,rfl,hx,al,rfl,rfl⟩:=qQ6 hp;obtain⟨c,fo,an,ag,ao,aa⟩:=qLh hc;have C:=S.here (P:=P) hG;have aq:=C.ev ao hx;have U:=qz aq;generalize ar:a.eval fo=fv at U;cases U with|func _ _ ls au =>
    have ah:cS (fq ρ I) (ak++dD.map λr=>.v (.c (.ptr r 0))) (c.args.map a.eval++(ls.map qE).toArray).toList:=by
     simp only[Array.toList_append,yY];exact cS.append (qO1 C aa al) (qSC au)
    obtain⟨aw,ab⟩:=qUv hO hG S.heap ah hd hv;have ai:=qOt (w:=w) an ag ar aw;unfold Oper.wp;rw[ai,Oper.upon_enter];refine Calls.mono ab λe w' ⟨cv,dL,I',e1,e2,e3,e4⟩=>?_
    subst e1;exact hK dL I' _ _ (S.put e3 e4.env e4.imm A e2) e4
def qGD{ops:Array Oper}{o:Oper}{M:dX}(h:nW P G nt heap ops o=some M):(∀ d,o.dst=some d->d<nt)/\M.dst=o.dst/\M.op=(oy P G heap o.op).getD .bad /\
  ((o.guard=none/\M.guard=none)\/∃ j want t,o.guard=some (j,want)/\(ops[j]?).bind (·.dst)=some t/\M.guard=some (t,want)):=by
 unfold nW at h;cases U:o.guard with
 |none =>
  rw[U] at h;simp only[rL,eG] at h;split at h
  ·rename_i A;simp only[rM,rJ] at h;subst h;exact⟨λd hd=>by rw[hd] at A; simpa using A,rfl,rfl,.inl ⟨rfl,rfl⟩⟩
  ·cases h
 |some p =>
  obtain⟨j,want⟩:=p;rw[U] at h;dsimp only at h;cases ht:(ops[j]?).bind (·.dst) with
  |none=>rw[ht] at h; cases h
  |some t =>
   rw[ht] at h;simp only[rL,eG] at h;split at h
   ·rename_i A;simp only[rM,rJ] at h;subst h;exact⟨λd hd=>by rw[hd] at A; simpa using A,rfl,rfl,.inr ⟨j,want,t,rfl,ht,rfl⟩⟩
   ·cases h
def qCM(hO:gN P G O)(hG:nv G I){st:St}{a:Act}(S:nr nt ρ I st a w)(ae:nt<1000000){ops:Array Oper}{i:Nat}{o:Oper}(hi:ops[i]?=some o){ao:dX}(hc:nW P G nt heap ops o=some ao){M:St}{t:Touch}
  (hs:gX O ao st=some (M,t)) {K:Act->World->Prop} {Q:Exit->Act->World->Prop} (hK:Leaves P nt ρ I st w M K):wpOp P ops Q i K a w:=by
 obtain⟨aa,e1,e2,e3⟩:=qGD hc;obtain⟨dst,op,gd⟩:=ao;dsimp only at e1 e2 e3;subst e1;have ab:∀ (hs:pd O { dst:=o.dst,op:=op,guard:=gd } st=some (M,t)),o.wp P a w K Q:=by
  intro hs;cases ad:oy P G heap o.op with
  |none =>
   rw[ad] at e2;subst e2;simp[pd,cH] at hs
  |some af =>
   rw[ad] at e2;subst e2;exact qXo hO hG S ae ad aa hs hK
 unfold wpOp;simp only[hi]
 rcases e3 with ⟨g1,g2⟩|⟨j,want,tg,g1,g2,g3⟩
 ·subst g2;have hw:Region.wanted o (yielded ops a.tmps)=true:=by simp[Region.wanted,g1]
  simp only[hw,fx];exact .inl (ab hs)
 ·subst g3;have A:M={ st with tm:=fX st.tm o.dst .undef }->K (a.put o.dst undef) w:=by
   intro e;subst e;exact hK ρ I _ _ (S.put S.heap (Env.le_refl _) (eK.le_refl _) aa qIs) (Good.refl _ _ _ _)
  unfold gX at hs;dsimp only at hs;split at hs
  ·rename_i b hb;have hv:a.tmps.getD tg undef = .bool b:=Si (S.tm _ _ hb);have hy:yielded ops a.tmps j=some b:=by
    unfold yielded;rw[g2];have:a.tmps[tg]?=some (.bool b):=by
     rw[AA] at hv;cases hh:a.tmps[tg]? with
     |none=>rw[hh] at hv; cases hv
     |some x=>rw[hh] at hv; simp at hv; rw[hv]
    simp[this]
   cases U:(b==want) with
   |true =>
    rw[U] at hs;have hw:Region.wanted o (yielded ops a.tmps)=true:=by simp[Region.wanted,g1,hy]; simpa using U
    simp only[hw,fx];exact .inl (ab hs)
   |false =>
    rw[U] at hs;have hw:Region.wanted o (yielded ops a.tmps)=false:=by simp[Region.wanted,g1,hy]; simpa using U
    simp only[hw,gh,fC];simp only[iN,rJ,fB] at hs;exact A hs.1.symm
  ·rename_i hb;obtain⟨arr,hv,ag⟩:=S.tm _ _ hb;have hy:yielded ops a.tmps j=none:=by
    unfold yielded;rw[g2];rw[AA] at hv;cases hh:a.tmps[tg]? with
    |none=>simp[hh]
    |some x=>rw[hh] at hv; simp at hv; simp[hh,hv]
   have hw:Region.wanted o (yielded ops a.tmps)=false:=by simp[Region.wanted,g1,hy]
   simp only[hw,gh,fC];simp only[rJ,fB] at hs;exact A hs.1.symm
  ·cases hs
end
end Go.AI
namespace Go.AI
variable [Sym]
inductive Var where
 |slot (n:Nat)
 |own (d:Nat)
 |im (i:Nat)
 |len
def db(h h':bm):Var->Prop
 |.slot _=>True
 |.own d=>h.cW.get d=h'.cW.get d
 |.im i=>h.bY[i]?=h'.bY[i]?
 |.len=>h.bY.length=h'.bY.length
def same(s s':St):Var->Prop
 |.slot n=>s.tm.get n=s'.tm.get n
 |x=>db s.h s'.h x
def Site.var:Site->Var
 |.own d=>.own d
 |.im i=>.im i
def hW(t:Touch):Var->Prop
 |.slot _=>False
 |.own d=>Site.own d∈t.wr
 |.im i=>Site.im i∈t.wr
 |.len=>t.oU=true
def hR(t:Touch):Var->Prop
 |.slot _=>False
 |.own d=>Site.own d∈t.rd\/Site.own d∈t.wr
 |.im i=>Site.im i∈t.rd\/Site.im i∈t.wr
 |.len=>t.oU=true
def yA(o:dX)(t:Touch):Var->Prop
 |.slot n=>o.dst=some n
 |x=>hW t x
def OM(o:dX)(t:Touch):Var->Prop
 |.slot n=>n∈o.looks
 |x=>hR t x
def db.refl(h:bm):∀ x,db h h x:=λx=>by cases x <;> simp[db]
def db.trans{h h' A:bm}{x:Var}(a:db h h' x)(b:db h' A x):db h A x:=by cases x <;> simp only[db] at * <;> first|exact a.trans b|trivial
def db.symm{h h':bm}{x:Var}(a:db h h' x):db h' h x:=by cases x <;> simp only[db] at * <;> first|exact a.symm|trivial
def same.trans{h h' A:St}{x:Var}(a:same h h' x)(b:same h' A x):same h A x:=by cases x <;> simp only[same,db] at * <;> exact a.trans b
def same.symm{h h':St}{x:Var}(a:same h h' x):same h' h x:=by cases x <;> simp only[same,db] at * <;> exact a.symm
def same.refl(h:St):∀ x,same h h x:=λx=>by cases x <;> simp[same,db]
def FR{h h':bm}{r:Ref}(hs:db h h' r.site.var):h.get r=h'.get r:=by
 cases r with
 |im i=>simp only[Ref.site,Site.var,db] at hs; unfold bm.get; simp only[hs]
 |own d g=>simp only[Ref.site,Site.var,db] at hs; unfold bm.get; simp only[hs]
def qKh{h h':bm}{d:Nat}(hs:db h h' (.own d)):h.gen d=h'.gen d:=by
 simp only[db] at hs; unfold bm.gen; simp only[hs]
def jN(h:bm):Ref->Prop
 |.own d _=>(h.cW.get d).isSome=true
 |.im i=>i<h.bY.length
def jN.og{h:bm}{r:Ref}{o:bG}(A:h.get r=some o):jN h r:=by
 cases r with
 |own d g=>have:=(bm.je A).2; simp[jN,this]
 |im i =>
  unfold bm.get at A;dsimp only at A;simp only[jN];cases hi:h.bY[i]? with
  |none=>rw[hi] at A; cases A
  |some x=>exact(cQ.1 hi).1
def jN.put{h:bm}{r r':Ref}(A:jN h r)(o:bG):jN (h.put r' o) r:=by
 cases r' with
 |im j=>cases r with
  |im i=>simpa [jN,bm.put] using A
  |own d g=>exact A
 |own e M=>cases r with
  |im i=>exact A
  |own d g =>
   simp only[jN,bm.put] at *;by_cases hd:e=d
   ·subst hd; exact TM.qF _ _ _ A
   ·rw[TM.ez _ _ _ _ hd]; exact A
def Vm{h:bm}{r:Ref}{o:bG}{x:Var}(hx:x≠r.site.var):db h (h.put r o) x:=by
 cases r with
 |im j=>cases x with
  |im i =>
   simp only[Ref.site,Site.var,ne_eq,Var.im.injEq] at hx;simp only[db,bm.put];rw[Lu (λe=>hx e.symm)]
  |own d=>rfl
  |slot n=>trivial
  |len=>simp[db,bm.put]
 |own e g=>cases x with
  |im i=>rfl
  |own d =>
   simp only[Ref.site,Site.var,ne_eq,Var.own.injEq] at hx;simp only[db,bm.put];rw[TM.ez _ _ _ _ (λe=>hx e.symm)]
  |slot n=>trivial
  |len=>rfl
def Vq{α:Type}(a:α){t:TM α}{n:Nat}(h:(t.get n).isSome=true):(TM.set a t n).get n=some a:=by
 have:=TM.qF a t n h;cases A:(TM.set a t n).get n with
 |none=>rw[A] at this; cases this
 |some x=>rw[TM.jq _ _ _ _ A]
def qJ1{h h':bm}{r:Ref}(M:jN h r)(A:jN h' r)(o:bG){x:Var}(hs:db h h' x):db (h.put r o) (h'.put r o) x:=by
 by_cases hx:x=r.site.var
 ·subst hx;cases r with
  |im i =>
   simp only[jN] at M A;simp only[Ref.site,Site.var,db,bm.put,BO M,BO A]
  |own d g =>
   simp only[jN] at M A;simp only[Ref.site,Site.var,db,bm.put];rw[Vq _ M,Vq _ A]
 ·exact((Vm hx).symm.trans hs).trans (Vm hx)
def qO9:∀ (kC:List (Ref×bG)) {h h':bm},(∀ p∈kC,jN h p.1)->(∀ p∈kC,jN h' p.1)->∀ x,db h h' x->db (kC.foldl (λh p=>h.put p.1 p.2) h) (kC.foldl (λh p=>h.put p.1 p.2) h') x:=by
 intro kC
 induction kC with
 |nil=>intro h h' _ _ x hs; exact hs
 |cons p kC U =>
  intro h h' h1 M x hs;exact U (λq A=>(h1 q (by simp[A])).put _) (λq A=>(M q (by simp[A])).put _) x (qJ1 (h1 p bR) (M p bR) _ hs)
def qNk:∀ (kC:List (Ref×bG)) {h:bm} {x:Var},(∀ p∈kC,x≠p.1.site.var)->db h (kC.foldl (λh p=>h.put p.1 p.2) h) x:=by
 intro kC
 induction kC with
 |nil=>intro h x _; exact db.refl h x
 |cons p kC A=>intro h x hx; exact(Vm (hx p bR)).trans (A λq M=>hx q (by simp[M]))
def qGu:∀ (kC:List (Ref×bG)) {h:bm},(kC.foldl (λh p=>h.put p.1 p.2) h).bY.length=h.bY.length:=by
 intro kC
 induction kC with
 |nil=>intro h; rfl
 |cons p kC A=>intro h; exact A.trans (bm.mV _ _ _)
def qRp{h h':bm}{d:Nat}(hd:d+1<1048576)(p:Nat×bG){x:Var}(hs:db h h' x):db { h with cW:=h.cW.set p d } { h' with cW:=h'.cW.set p d } x:=by
 cases x with
 |own e =>
  simp only[db] at *;by_cases A:d=e
  ·subst A; rw[TM.iE _ _ _ hd,TM.iE _ _ _ hd]
  ·rw[TM.ez _ _ _ _ A,TM.ez _ _ _ _ A]; exact hs
 |im i=>exact hs
 |slot n=>trivial
 |len=>exact hs
def qP9{h:bm}{d:Nat}(p:Nat×bG){x:Var}(hx:x ≠ .own d):db h { h with cW:=h.cW.set p d } x:=by
 cases x with
 |own e =>
  simp only[db];rw[TM.ez _ _ _ _ (λe'=>hx (by rw[e']))]
 |im i=>rfl
 |slot n=>trivial
 |len=>rfl
def qJR{h h':bm}(hl:h.bY.length=h'.bY.length)(l:List bG){x:Var}(hs:db h h' x):db { h with bY:=h.bY++l } { h' with bY:=h'.bY++l } x:=by
 cases x with
 |own e=>exact hs
 |im i =>
  simp only[db] at *;by_cases hi:i<h.bY.length
  ·rw[j5 hi,j5 bn]; exact hs
  ·rw[kz bn,kz bn,hl]
 |slot n=>trivial
 |len=>simp only[db,bV] at *; omega
def qHX{h:bm}(l:List bG){x:Var}(hx:∀ j,j<l.length->x ≠ .im (h.bY.length+j))(hl:l≠[]->x ≠ .len):db h { h with bY:=h.bY++l } x:=by
 cases x with
 |own e=>rfl
 |im i =>
  simp only[db];by_cases hi:i<h.bY.length
  ·rw[j5 hi]
  ·by_cases hj:i - h.bY.length<l.length
   ·exact absurd (by congr 1; omega) (hx _ hj)
   ·rw[ky bn,ky cM]
 |slot n=>trivial
 |len =>
  cases l with
  |nil=>simp[db]
  |cons _ _=>exact absurd rfl (hl bR)
def Sx{α β:Type}{f g:α->Option β}:∀ {l:List α},(∀ a∈l,f a=g a)->l.mapM f=l.mapM g:=by
 intro l
 induction l with
 |nil=>intro _; rfl
 |cons a l A=>intro h; simp only[ek,h a bR,A λb hb=>h b (by simp[hb])]
def qP3{t:Touch}{r:Ref}(h:r.site∈t.wr):hW t r.site.var:=by cases r <;> exact h
def qPr{t:Touch}{r:Ref}(h:r.site∈t.rd):hR t r.site.var:=by cases r <;> exact .inl h
def qRP{dM:List Ref}{k:List bG->Option AF}{d:Nat}(hd:d+1<1048576){h h' h1:bm}{v:bt}{t:Touch}(hg:fN dM k d h=some (v,h1,t))(hs:∀ x,hR t x->db h h' x) :
  ∃ aa,fN dM k d h'=some (v,aa,t)/\(∀ x,db h h' x->db h1 aa x):=by
 obtain⟨os,res,e1,e2,e3,M⟩:=Vi hg;have ad:t.rd=dM.map Ref.site:=by
  cases hn:res.new with
  |none=>rw[hn] at M; rw[M.2.2]
  |some x=>rw[hn] at M; rw[M.2.2]
 have U:∀ r∈dM,db h h' r.site.var:=λr hr=>hs _ (qPr (by rw[ad]; exact pG hr))
 have hm:dM.mapM h'.get=some os:=by rw[<- e1]; exact(Sx λr hr=>FR (U r hr)).symm
 have live:∀ {hh:bm},dM.mapM hh.get=some os->∀ p∈res.kC,jN hh p.1:=by
  intro hh ae p hp;obtain⟨o,ho⟩:=(XD ae).1 p.1 (e3 p hp);exact jN.og ho
 have ab:(res.kC.all λp=>dM.contains p.1)=true:=lU.2 λp hp=>rQ.2 (e3 p hp)
 have hf:=qO9 res.kC (live e1) (live hm);unfold fN;rw[hm];simp only[e2,ab,E5,iN];cases hn:res.new with
 |none =>
  rw[hn] at M;obtain⟨rfl,rfl,rfl⟩:=M;exact⟨_,rfl,hf⟩
 |some o =>
  rw[hn] at M;obtain⟨rfl,rfl,rfl⟩:=M;cases hp:res.push with
  |false =>
   rw[hp] at hs;have A:h.gen d=h'.gen d:=qKh (hs (.own d) (.inr (by simp[place,Ref.site])));refine⟨_,by simp[place,Ref.site,A]; rfl,λx hx=>?_⟩;have:=qRp hd (h'.gen d+1,o) (hf x hx);rw[<- A] at this
   simpa [place,A] using this
  |true =>
   rw[hp] at hs;have hlen:h.bY.length=h'.bY.length:=hs .len rfl;refine⟨_,by simp[place,Ref.site,hlen]; rfl,λx hx=>?_⟩;exact qJR (by rw[qGu,qGu]; exact hlen) [o] (hf x hx)
def qSu{dM:List Ref}{k:List bG->Option AF}{d:Nat}{h h1:bm}{v:bt}{t:Touch}(U:fN dM k d h=some (v,h1,t)):∀ x,¬ hW t x->db h h1 x:=by
 intro x hx;obtain⟨os,res,e1,e2,e3,M⟩:=Vi U;have A:(∀ p∈res.kC,p.1.site∈t.wr)->db h (res.kC.foldl (λh p=>h.put p.1 p.2) h) x:=λhw=>qNk res.kC λp hp e=>hx (by subst e; exact qP3 (hw p hp))
 cases hn:res.new with
 |none =>
  rw[hn] at M;obtain⟨rfl,rfl,rfl⟩:=M;exact A λp hp=>pG (f:=λp=>p.1.site) hp
 |some o =>
  rw[hn] at M;obtain⟨rfl,rfl,rfl⟩:=M;have A:=A λp hp=>ia _ (pG (f:=λp=>p.1.site) hp)
  cases hp:res.push with
  |false =>
   rw[hp] at hx;exact A.trans (qP9 _ λe=>hx (by subst e; simp[hW,place,Ref.site]))
  |true =>
   rw[hp] at hx;refine A.trans (qHX [o] (λj hj e=>hx ?_) (λ_ e=>hx (by subst e; rfl)));subst e;simp only[gM] at hj;obtain rfl:j=0:=bn
   simp[hW,place,Ref.site,qGu]
end Go.AI
namespace Go.AI
variable [Sym]
def qLQ(h:bm):∀ (n:Nat) (todo seen:List Ref),∃ t,reach h n todo seen=seen++t:=by
 intro n
 induction n with
 |zero=>intro todo seen; exact⟨[],by simp[reach]⟩
 |succ n A =>
  intro todo seen;cases todo with
  |nil=>exact⟨[],by simp[reach]⟩
  |cons r todo =>
   unfold reach;cases hc:seen.contains r with
   |true=>exact A todo seen
   |false =>
    simp only[iN];cases M:h.get r with
    |none=>exact A todo seen
    |some o =>
     obtain⟨t,b⟩:=A (o.refs++todo) (seen++[r]);exact⟨r::t,b.trans bR⟩
def qNY{h h':bm}:∀ (n:Nat) (todo seen:List Ref),(∀ r∈todo,db h h' r.site.var)->(∀ r∈reach h n todo seen,∀ o,h.get r=some o->∀ s∈o.refs,db h h' s.site.var) ->
  reach h' n todo seen=reach h n todo seen:=by
 intro n
 induction n with
 |zero=>intro todo seen _ _; rfl
 |succ n M =>
  intro todo seen h1 A;cases todo with
  |nil=>rfl
  |cons r todo =>
   have hr:=FR (h1 r bR);unfold reach at A ⊢;cases hc:seen.contains r with
   |true =>
    simp only[hc,iv] at A ⊢;exact M todo seen (λs hs=>h1 s (by simp[hs])) A
   |false =>
    simp only[hc,iN] at A ⊢;rw[<- hr];cases U:h.get r with
    |none =>
     simp only[U] at A ⊢;exact M todo seen (λs hs=>h1 s (by simp[hs])) A
    |some o =>
     simp only[U] at A ⊢;refine M _ _ (λs hs=>?_) A
     rcases fb.1 hs with hs|hs
     ·obtain⟨t,ht⟩:=qLQ h n (o.refs++todo) (seen++[r]);exact A r (by rw[ht]; simp) o U s hs
     ·exact h1 s (by simp[hs])
def qOh{rs:List Ref}{m n n':Nat}(h1:rs.length<m->n=n'):back rs m (dC n)=back rs m (dC n'):=by
 funext r
 cases r with
 |own _ _=>rfl
 |im i =>
  simp only[back];cases hi:rs[i]? with
  |some s=>rfl
  |none =>
   have A:=EY.1 hi;cases hb:Nat.blt i m with
   |false=>rfl
   |true =>
    rw[rP] at hb;simp only[iv]
    congr 1
    simp only[dC]; rw[h1 bn]
def qML:∀ (rs:List Ref) (os:List bG) {h h':bm},(∀ r∈rs,jN h r)->(∀ r∈rs,jN h' r)->∀ x,db h h' x->db (fu h rs os) (fu h' rs os) x:=by
 intro rs
 induction rs with
 |nil=>intro os h h' _ _ x hs; exact hs
 |cons r rs U =>
  intro os h h' h1 M x hs;cases os with
  |nil=>exact hs
  |cons o os=>exact U os (λq A=>(h1 q (by simp[A])).put _) (λq A=>(M q (by simp[A])).put _) x (qJ1 (h1 r bR) (M r bR) _ hs)
def qKA:∀ (rs:List Ref) (os:List bG) {h:bm} {x:Var},(∀ r∈rs,x≠r.site.var)->db h (fu h rs os) x:=by
 intro rs
 induction rs with
 |nil=>intro os h x _; exact db.refl h x
 |cons r rs A =>
  intro os h x hx;cases os with
  |nil=>exact db.refl h x
  |cons o os=>exact(Vm (hx r bR)).trans (A os λq M=>hx q (by simp[M]))
def qEp:∀ (rs:List Ref) (os:List bG) {h:bm},(fu h rs os).bY.length=h.bY.length:=by
 intro rs
 induction rs with
 |nil=>intro os h; rfl
 |cons r rs A =>
  intro os h;cases os with
  |nil=>rfl
  |cons o os=>exact(A os).trans (bm.mV _ _ _)
def qHg{O:bD}{f:FuncId}{args:List bt}{d:Nat}{h h1:bm}{v:bt}{t:Touch}(hc:dE O f args d h=some (v,h1,t)) :
  ∃ rs A v0 cZ,reach h cw ((args.map bt.strip).flatMap bt.refs) []=rs/\rs.mapM h.get=some A/\O f ((args.map bt.strip).map (bt.eB (iU rs))) (A.map (bG.eB (iU rs)))=some (v0,cZ)/\rs.length<=cZ.length /\
   v=v0.eB (back rs cZ.length (dC h.bY.length))/\h1=hZ h rs (cZ.map (bG.eB (back rs cZ.length (dC h.bY.length)))) /\
   t={ rd:=((args.map bt.strip).flatMap bt.refs++A.flatMap bG.refs++rs).map Ref.site,wr:=rs.map Ref.site++(List.range (cZ.length - rs.length)).map λj=>.im (h.bY.length+j),oU:=Nat.blt 0 (cZ.length - rs.length) }:=by
 unfold dE at hc;dsimp only at hc;generalize aa:reach h cw ((args.map bt.strip).flatMap bt.refs) []=rs at hc;split at hc
 ·cases hc
 ·rename_i A M;split at hc
  ·cases hc
  ·rename_i v0 cZ U;split at hc
   ·cases hc
   ·rename_i hlen;simp only[rJ,fB] at hc;obtain⟨c1,c2,c3⟩:=hc;refine⟨rs,A,v0,cZ,rfl,M,U,bn,c1.symm,by rw[<- c2]; rfl,?_⟩;rw[<- c3];simp only[j0,dj]
def qOY{O:bD}{f:FuncId}{args:List bt}{d:Nat}(hd:d+1<1048576){h h' h1:bm}{v:bt}{t:Touch}(hc:dE O f args d h=some (v,h1,t))(hs:∀ x,hR t x->db h h' x) :
  ∃ ab,dE O f args d h'=some (v,ab,t)/\(∀ x,db h h' x->db h1 ab x):=by
 obtain⟨rs,A,v0,cZ,e1,e2,e3,e4,e5,e6,e7⟩:=qHg hc;have aa:∀ r,r∈(args.map bt.strip).flatMap bt.refs++A.flatMap bG.refs++rs->db h h' r.site.var:=λr M=>hs _ (qPr (by rw[e7]; exact pG M))
 have U:reach h' cw ((args.map bt.strip).flatMap bt.refs) []=rs:=by
  rw[<- e1];refine qNY _ _ _ (λr M=>aa r (by simp[M])) (λr M o ho s ad=>?_);rw[e1] at M;refine aa s ?_;have:o∈A:=by
   have h2:=wc e2;obtain⟨i,hi⟩:=List.getElem?_of_mem M;obtain⟨o',h3,h4⟩:=h2.get i r hi;rw[ho] at h4; cases h4;exact mY h3
  exact vt _ (vr _ (pF.2 ⟨o,this,ad⟩))
 have hm:rs.mapM h'.get=some A:=by
  rw[<- e2]; exact(Sx λr M=>FR (aa r (by simp[M]))).symm
 have live:∀ {hh:bm},rs.mapM hh.get=some A->∀ r∈rs,jN hh r:=λae r M=>let ⟨o,ho⟩:=(XD ae).1 r M; jN.og ho
 have hlen:rs.length<cZ.length->h.bY.length=h'.bY.length:=λah=>hs .len (by rw[e7]; simp only[hR]; rw[rP]; omega)
 have hb:=qOh (n:=h.bY.length) (n':=h'.bY.length) hlen;refine⟨hZ h' rs (cZ.map (bG.eB (back rs cZ.length (dC h.bY.length)))),?_,λx hx=>?_⟩
 ·unfold dE;dsimp only;rw[U,hm];simp only[e3];rw[bA bn,<- hb,e5,e7];simp only[rJ,fB,true_and];refine⟨rfl,?_⟩;simp only[j0,dj];by_cases hl:rs.length<cZ.length
  ·rw[hlen hl]
  ·rw[show cZ.length - rs.length=0 by omega]; rfl
 ·rw[e6];have hp:=qML rs ((cZ.map (bG.eB (back rs cZ.length (dC h.bY.length)))).take rs.length) (live e2) (live hm) x hx;unfold hZ;generalize af:(cZ.map (bG.eB (back rs cZ.length (dC h.bY.length)))).drop rs.length=new;have ag:new.length=cZ.length - rs.length:=by rw[<- af]; simp
  cases new with
  |nil=>exact hp
  |cons o rest =>
   simp only[di] at ag;dsimp only;exact qJR (by rw[qEp,qEp]; exact hlen bn) (o::rest) hp
def qOe{O:bD}{f:FuncId}{args:List bt}{d:Nat}{h h1:bm}{v:bt}{t:Touch}(hc:dE O f args d h=some (v,h1,t)):∀ x,¬ hW t x->db h h1 x:=by
 intro x hx;obtain⟨rs,ab,v0,cZ,e1,e2,e3,e4,e5,e6,A⟩:=qHg hc
 have M:∀ r∈rs,x≠r.site.var:=λr hr e=>hx (by
  subst e;refine qP3 ?_;rw[A]
  exact vt _ (pG hr))
 have hp:=qKA (h:=h) rs ((cZ.map (bG.eB (back rs cZ.length (dC h.bY.length)))).take rs.length) M;rw[e6];unfold hZ;generalize U:(cZ.map (bG.eB (back rs cZ.length (dC h.bY.length)))).drop rs.length=new;have aa:new.length=cZ.length - rs.length:=by rw[<- U]; simp
 cases new with
 |nil=>exact hp
 |cons o rest =>
  simp only[di] at aa;dsimp only;refine hp.trans (qHX (o::rest) (λj hj e=>hx ?_) (λhr e=>hx ?_))
  ·subst e;rw[A];simp only[hW];simp only[di] at hj;refine vr _ (fk.2 ⟨j,sL.2 bn,?_⟩);rw[qEp]
  ·subst e;rw[A];simp only[hW];rw[rP];omega
end Go.AI
namespace Go.AI
variable [Sym]
def qN0{tm A:TM bt}{op:jE}(h:∀ x∈op.xs,x.ev tm=x.ev A):cH tm op=cH A op:=by
 have opt:∀ (l:Option X),(∀ x∈l.toList,x.ev tm=x.ev A)->qC tm l=qC A l:=by
  intro l hl;cases l with
  |none=>rfl
  |some x=>simp only[qC,hl x bR]
 cases op
 case build z ps =>
  simp only[cH];refine dh (λz=>Option.bind z _) (Sx λp hp=>?_);rw[h p.2.2 (pG (f:=λp:Nat×Nat×X=>p.2.2) hp)]
 case cm sz n z ps hp =>
  simp only[cH];refine dh (λz=>Option.bind z _) (Sx λp hp=>?_);rw[h p.2 (pG (f:=λp:Nat×X=>p.2) hp)]
 case qD f xs =>
  simp only[cH];rw[Sx (g:=λx:X=>(x.ev A).bind wb) λp hp=>by rw[h p hp]]
 case call f xs =>
  simp only[cH];rw[h f (by simp[jE.xs]),Sx (g:=λx:X=>x.ev A) λp hp=>h p (by simp[jE.xs,hp])]
 case slice sz str x lo hi mx =>
  simp only[cH];rw[h x (by simp[jE.xs]),opt lo λy M=>h y (by simp[jE.xs] at M ⊢; simp[M]),opt hi λy M=>h y (by simp[jE.xs] at M ⊢; simp[M]),opt mx λy M=>h y (by simp[jE.xs] at M ⊢; simp[M])]
 all_goals (first|rfl|(simp[jE.xs] at h; simp only[cH,h]; done)|(simp[jE.xs] at h; obtain⟨h1,U⟩:=h; simp only[cH,h1,U]; done)|(simp[jE.xs] at h; obtain⟨h1,U,h3⟩:=h; simp only[cH,h1,U,h3]; done))
def qVT{s s':St}{x:X}(h:∀ n,x.slot=some n->s.tm.get n=s'.tm.get n):x.ev s.tm=x.ev s'.tm:=by
 cases x with
 |t n=>exact h n rfl
 |k v=>rfl
def qNd{s s':St}{o:dX}(h:∀ n,n∈o.looks->s.tm.get n=s'.tm.get n):cH s.tm o.op=cH s'.tm o.op :=
 qN0 λx hx=>qVT λn hn=>h n (vt _ (List.mem_filterMap.2 ⟨x,hx,hn⟩))
def XE{O:bD}{o:dX}{s s1:St}{t:Touch}(h:pd O o s=some (s1,t)):∃ p v h1,cH s.tm o.op=some p/\p.exec O (o.dst.getD 1000000) s.h=some (v,h1,t)/\s1={ tm:=fX s.tm o.dst v,h:=h1 }:=by
 unfold pd at h;cases hp:cH s.tm o.op with
 |none=>rw[hp] at h; cases h
 |some p =>
  rw[hp] at h;dsimp only at h;cases hv:p.exec O (o.dst.getD 1000000) s.h with
  |none=>rw[hv] at h; cases h
  |some r =>
   obtain⟨v,h1,A⟩:=r;rw[hv] at h;simp only[rJ,fB] at h;obtain⟨rfl,rfl⟩:=h;exact⟨p,v,h1,rfl,hv,rfl⟩
def qKn{s s':St}{dst:Option Nat}(hd:∀ d,dst=some d->d+1<1048576){v:bt}{h h':bm}(M:∀ x,same s s' x->db h h' x) :
  (∀ x,same s s' x->same { tm:=fX s.tm dst v,h } { tm:=fX s'.tm dst v,h:=h' } x)/\(∀ d,dst=some d->same { tm:=fX s.tm dst v,h } { tm:=fX s'.tm dst v,h:=h' } (.slot d)):=by
 have A:∀ d,dst=some d->same { tm:=fX s.tm dst v,h } { tm:=fX s'.tm dst v,h:=h' } (.slot d):=by
  intro d e;subst e;simp only[same,fX];rw[TM.iE _ _ _ (hd d rfl),TM.iE _ _ _ (hd d rfl)]
 refine⟨λx hx=>?_,A⟩;cases x with
 |slot n =>
  by_cases hn:dst=some n
  ·exact A n hn
  ·cases dst with
   |none=>exact hx
   |some d =>
    simp only[same,fX] at hx ⊢;rw[TM.ez _ _ _ _ (λe=>hn (by rw[e])),TM.ez _ _ _ _ (λe=>hn (by rw[e]))];exact hx
 |own d=>exact M _ hx
 |im i=>exact M _ hx
 |len=>exact M _ hx
def qRD{o:dX}(hd:∀ d,o.dst=some d->d+1<1048576):o.dst.getD 1000000+1<1048576:=by
 cases h:o.dst with
 |none=>simp
 |some d=>exact hd d h
def qLT{O:bD}{o:dX}{s s' s1:St}{t:Touch}(hd:∀ d,o.dst=some d->d+1<1048576)(h:pd O o s=some (s1,t))(hs:∀ x,OM o t x->same s s' x) :
  ∃ U,pd O o s'=some (U,t)/\(∀ x,same s s' x->same s1 U x)/\(∀ d,o.dst=some d->same s1 U (.slot d)):=by
 obtain⟨p,v,h1,e1,e2,rfl⟩:=XE h;have hp:cH s'.tm o.op=some p:=by rw[<- e1]; exact(qNd λn hn=>hs (.slot n) hn).symm
 have A:∀ x,hR t x->db s.h s'.h x:=λx hx=>by
  cases x with
  |slot n=>trivial
  |own d=>exact hs (.own d) hx
  |im i=>exact hs (.im i) hx
  |len=>exact hs .len hx
 have key:∃ M,p.exec O (o.dst.getD 1000000) s'.h=some (v,M,t)/\(∀ x,db s.h s'.h x->db h1 M x):=by
  cases p with
  |go dM k=>exact qRP (qRD hd) e2 A
  |call f args=>exact qOY (qRD hd) e2 A
 obtain⟨M,k1,k2⟩:=key;have aa:=qKn (s:=s) (s':=s') (dst:=o.dst) (v:=v) (h:=h1) (h':=M) hd (λx hx=>k2 x (by cases x <;> first|trivial|exact hx));refine⟨{ tm:=fX s'.tm o.dst v,h:=M },?_,aa.1,aa.2⟩;unfold pd;rw[hp];simp only[k1]
def qK0{O:bD}{o:dX}{s s1:St}{t:Touch}(h:pd O o s=some (s1,t)):∀ x,¬ yA o t x->same s s1 x:=by
 obtain⟨p,v,h1,M,A,rfl⟩:=XE h;intro x hx;have key:∀ x,¬ hW t x->db s.h h1 x:=by
  cases p with
  |go dM k=>exact qSu A
  |call f args=>exact qOe (d:=o.dst.getD 1000000) A
 cases x with
 |slot n =>
  simp only[yA] at hx;cases hd:o.dst with
  |none=>simp[same,fX]
  |some d =>
   simp only[same,fX];rw[TM.ez _ _ _ _ (λe=>hx (by rw[hd,e]))]
 |own d=>exact key (.own d) hx
 |im i=>exact key (.im i) hx
 |len=>exact key .len hx
def qOK{O:bD}{o:dX}{s s' s1:St}{t:Touch}(hd:∀ d,o.dst=some d->d+1<1048576)(h:gX O o s=some (s1,t))(hs:∀ x,OM o t x->same s s' x) :
  ∃ A,gX O o s'=some (A,t)/\(∀ x,same s s' x->same s1 A x)/\(∀ d,o.dst=some d->same s1 A (.slot d)):=by
 unfold gX at h ⊢;cases hg:o.guard with
 |none=>rw[hg] at h; exact qLT hd h hs
 |some p =>
  obtain⟨tg,want⟩:=p;rw[hg] at h;dsimp only at h ⊢;have ht:s'.tm.get tg=s.tm.get tg:=(hs (.slot tg) (vr _ (by rw[hg]; simp))).symm
  try rw[ht]
  have skip:∀ (s1:St) t,some (({ s with tm:=fX s.tm o.dst .undef }:St),cj)=some (s1,t)->∃ A,some (({ s' with tm:=fX s'.tm o.dst .undef }:St),cj)=some (A,t)/\(∀ x,same s s' x->same s1 A x)/\(∀ d,o.dst=some d->same s1 A (.slot d)):=by
   intro s1 t e;simp only[rJ,fB] at e;obtain⟨rfl,rfl⟩:=e;have M:=qKn (s:=s) (s':=s') (dst:=o.dst) (v:=.undef) (h:=s.h) (h':=s'.h) hd (λx hx=>by cases x <;> first|trivial|exact hx);exact⟨_,rfl,M.1,M.2⟩
  split at h
  ·rename_i b hb
   try rw[hb]
   try dsimp only
   cases U:(b==want) with
   |true=>rw[U] at h; exact qLT hd h hs
   |false=>rw[U] at h; exact skip _ _ h
  ·rename_i hb
   try rw[hb]
   exact skip _ _ h
  ·cases h
def qEs{O:bD}{o:dX}{s s1:St}{t:Touch}(h:gX O o s=some (s1,t)):∀ x,¬ yA o t x->same s s1 x:=by
 have skip:∀ (s1:St) t,some (({ s with tm:=fX s.tm o.dst .undef }:St),cj)=some (s1,t)->∀ x,¬ yA o t x->same s s1 x:=by
  intro s1 t e x hx;simp only[rJ,fB] at e;obtain⟨rfl,rfl⟩:=e;cases x with
  |slot n =>
   simp only[yA] at hx;cases hd:o.dst with
   |none=>simp[same,fX]
   |some d =>
    simp only[same,fX];rw[TM.ez _ _ _ _ (λe=>hx (by rw[hd,e]))]
  |own d=>rfl
  |im i=>rfl
  |len=>rfl
 unfold gX at h;split at h
 ·exact qK0 h
 ·split at h
  ·rename_i b hb;cases A:(b==_) with
   |true=>rw[A] at h; exact qK0 h
   |false=>rw[A] at h; exact skip _ _ h
  ·exact skip _ _ h
  ·cases h
def qQb{tm:TM bt}{op:jE}(hw:op.weight=0){p:cA}(h:cH tm op=some p):∃ v,p = .pure v:=by
 cases op
 all_goals (first|(simp[jE.weight] at hw; done)|skip)
 all_goals
  unfold cH at h
  try dsimp only at h
  repeat' (first|(cases h; done)|(exact⟨_,(kr h).symm⟩)|(obtain⟨y,_,e⟩:=mZ.1 h; exact⟨_,e.symm⟩)|split at h)
 all_goals
  simp only[rL,rK,rM,rJ] at h
  first
   |(obtain⟨_,_,_,_,e⟩:=h; exact⟨_,e.symm⟩)
   |(obtain⟨_,_,e⟩:=h; exact⟨_,e.symm⟩)
def qOR{tm:TM bt}{op:jE}(hw:op.weight=1){p:cA}(h:cH tm op=some p):(∃ v,p = .pure v)\/(∃ r k,p = .read r k):=by
 cases op
 all_goals (first|(simp[jE.weight] at hw; done)|skip)
 all_goals
  unfold cH at h
  try dsimp only at h
  repeat' (first|(cases h; done)|(exact .inl ⟨_,(kr h).symm⟩)|(exact .inr ⟨_,_,(kr h).symm⟩)|(obtain⟨y,_,e⟩:=mZ.1 h; exact .inl ⟨_,e.symm⟩)|split at h)
def quiet(t:Touch):Prop:=t.wr=[]/\t.oU=false
def still(t:Touch):Prop:=t.rd=[]/\quiet t
def qIC{v v1:bt}{d:Nat}{h h1:bm}{t:Touch}{O:bD}(A:(cA.pure v).exec O d h=some (v1,h1,t)):still t:=by
 have A:fN [] (λ_=>some ⟨λ_=>v,[],none,false⟩) d h=some (v1,h1,t):=A;obtain⟨os,res,e1,M,e3,U⟩:=Vi A;cases M;obtain⟨_,_,rfl⟩:=U;exact⟨rfl,rfl,rfl⟩
def qN6{r:Ref}{k:bG->Option bt}{v1:bt}{d:Nat}{h h1:bm}{t:Touch}{O:bD}(A:(cA.read r k).exec O d h=some (v1,h1,t)):quiet t:=by
 have A:fN [r] (fun|[o]=>(k o).map λv=>⟨λ_=>v,[],none,false⟩|_=>none) d h=some (v1,h1,t):=A;obtain⟨os,res,e1,M,e3,U⟩:=Vi A;have:res.kC=[]/\res.new=none:=by
  split at M
  ·obtain⟨v,_,e⟩:=mZ.1 M;subst e;exact⟨rfl,rfl⟩
  ·cases M
 rw[this.2] at U;obtain⟨_,_,rfl⟩:=U;exact⟨by simp[this.1],rfl⟩
def qHd{O:bD}{o:dX}{s s1:St}{t:Touch}(hw:o.op.weight=0)(h:gX O o s=some (s1,t)):still t:=by
 have A:∀ s1 t,pd O o s=some (s1,t)->still t:=by
  intro s1 t h;obtain⟨p,v,h1,e1,e2,_⟩:=XE h;obtain⟨v0,rfl⟩:=qQb hw e1;exact qIC e2
 have M:still cj:=⟨rfl,rfl,rfl⟩;unfold gX at h;split at h
 ·exact A _ _ h
 ·split at h
  ·rename_i b hb;cases U:(b==_) with
   |true=>rw[U] at h; exact A _ _ h
   |false=>rw[U] at h; simp only[iN,rJ,fB] at h; rw[<- h.2]; exact M
  ·simp only[rJ,fB] at h; rw[<- h.2]; exact M
  ·cases h
def qHs{O:bD}{o:dX}{s s1:St}{t:Touch}(hw:o.op.weight=1)(h:gX O o s=some (s1,t)):quiet t:=by
 have A:∀ s1 t,pd O o s=some (s1,t)->quiet t:=by
  intro s1 t h;obtain⟨p,v,h1,e1,e2,_⟩:=XE h
  rcases qOR hw e1 with ⟨v0,rfl⟩|⟨r,k,rfl⟩
  ·exact(qIC e2).2
  ·exact qN6 e2
 have M:quiet cj:=⟨rfl,rfl⟩;unfold gX at h;split at h
 ·exact A _ _ h
 ·split at h
  ·rename_i b hb;cases U:(b==_) with
   |true=>rw[U] at h; exact A _ _ h
   |false=>rw[U] at h; simp only[iN,rJ,fB] at h; rw[<- h.2]; exact M
  ·simp only[rJ,fB] at h; rw[<- h.2]; exact M
  ·cases h
end Go.AI
namespace Go.AI
variable [Sym]
def qJj{O:bD}:∀ {L:List dX}{A M:St}{ts:List Touch},lA O L A=some (M,ts) ->
  ∃ s:Nat->St,s 0=A/\s L.length=M/\ts.length=L.length/\∀ (j:Nat) o,L[j]?=some o->∃ t,ts[j]?=some t/\gX O o (s j)=some (s (j+1),t):=by
 intro L
 induction L with
 |nil =>
  intro A M ts h;simp only[lA,rJ,fB] at h;obtain⟨rfl,rfl⟩:=h;exact⟨λ_=>A,rfl,rfl,rfl,λj o e=>by simp at e⟩
 |cons o L ih =>
  intro A M ts h;unfold lA at h;split at h
  ·cases h
  ·rename_i aa t hs;split at h
   ·cases h
   ·rename_i U ab hr;simp only[rJ,fB] at h;obtain⟨rfl,rfl⟩:=h;obtain⟨s,h0,h1,h2,h3⟩:=ih hr;refine⟨λn=>match n with|0=>A|n+1=>s n,rfl,h1,by simp[h2],λj o' e=>?_⟩;cases j with
    |zero=>simp at e; subst e; exact⟨t,rfl,by simp only; rw[h0]; exact hs⟩
    |succ j=>exact h3 j o' (by simpa using e)
def qI4{acc:List Nat}{i:Nat}:∀ {es:List Edge},(rowOf acc es).testBit i=true->∃ e∈es,Region.binds .any e=true/\(e.on=i\/(acc.getD e.on 0).testBit i=true):=by
 intro es
 induction es with
 |nil=>intro h; simp[rowOf] at h
 |cons e es A =>
  intro h;simp only[rowOf,Nat.testBit_or,qP] at h
  rcases h with h|h
  ·split at h
   ·rename_i hb;simp only[Nat.testBit_or,qP,Nat.testBit_two_pow,dF] at h;exact⟨e,bR,hb,h⟩
   ·simp at h
  ·obtain⟨e',h1,M⟩:=A h;exact⟨e',by simp[h1],M⟩
def qOT{D:Nat->Prop}:∀ (os:List Oper) (acc:List Nat) (all:List Oper),
  (∀ (j:Nat) o,all[j]?=some o->D j->∀ e∈o.after,Region.binds .any e=true->D e.on)->all.drop acc.length=os ->
  (∀ (j:Nat) o,j<acc.length->all[j]?=some o->(∀ e∈o.after,Region.binds .any e=true->D e.on)->∀ i,(acc.getD j 0).testBit i=true->D i) ->
  ∀ (j:Nat) o,all[j]?=some o->(∀ e∈o.after,Region.binds .any e=true->D e.on)->∀ i,((yP os acc).getD j 0).testBit i=true->D i:=by
 intro os
 induction os with
 |nil =>
  intro acc all aa A M j o ho hp i hi;refine M j o ?_ ho hp i hi;have h1:=List.drop_eq_nil_iff.1 A;have h2:=(cQ.1 ho).1;omega
 |cons o os ih =>
  intro acc all aa A M;have ad:all[acc.length]?=some o:=by
   have:=dh (λl:List Oper=>l[0]?) A
   simpa using this
  refine ih (acc++[rowOf acc o.after.toList]) all aa ?_ ?_
  ·have:=dh (List.drop 1) A
   simpa [pE] using this
  ·intro j o' hj ab hp i hi;by_cases ae:j<acc.length
   ·refine M j o' ae ab hp i ?_;rw[na,j5 ae,<- na] at hi;exact hi
   ·simp only[bV,gM] at hj;obtain rfl:j=acc.length:=bn
    rw[ad] at ab;cases ab;rw[na,kz (cB _)] at hi;simp only[rS,vk,oS] at hi;obtain⟨e,he,hb,h⟩:=qI4 hi;have af:e∈o.after:=by simpa using he
    rcases h with rfl|h
    ·exact hp e af hb
    ·have ag:e.on<acc.length:=by
      rcases vq e.on acc.length with h'|h'
      ·exact h'
      ·rw[na,ky h'] at h; simp at h
     have U:e.on<all.length:=by have:=(cQ.1 ad).1; omega
     exact M e.on all[e.on] ag (fQ U) (λe2 ah ai=>aa e.on _ (fQ U) (hp e af hb) e2 ah ai) i h
def qFN:∀ (os:List Oper) (i:Nat),backward os i=true->∀ (j:Nat) o,os[j]?=some o->∀ e∈o.after,Region.binds .any e=true->e.on<i+j:=by
 intro os
 induction os with
 |nil=>intro i _ j o ho; simp at ho
 |cons o os A =>
  intro i h j o' ho e he hb;simp only[backward,fj] at h;cases j with
  |zero =>
   simp at ho; subst ho;have:=lU.1 h.1 e (by simpa using he);simp only[hb,E5,lP,rP] at this;omega
  |succ j =>
   have:=A (i+1) h.2 j o' (by simpa using ho) e he hb;omega
def Clear(a b:dX)(s t:Touch):Prop:=∀ x,(yA a s x->¬ OM b t x)/\(yA b t x->¬ OM a s x)/\¬ (yA a s x/\yA b t x)
def FU{a b:List Site}(h:sB a b=true){x:Site}(A:x∈a):x∉b:=by
 intro hb;have:=lU.1 h x A;rw[rQ.2 hb] at this;cases this
def qLv{a b:dX}{s t:Touch}(h1:zk a b=true)(U:s.apart t=true):Clear a b s t:=by
 simp only[zk,fj,Az] at h1;simp only[Touch.apart,fj,Az] at U;obtain⟨⟨s1,s2⟩,s3⟩:=h1;obtain⟨⟨⟨d1,d2⟩,d3⟩,d4⟩:=U;intro x;cases x with
 |slot n =>
  refine⟨λhw A=>?_,λhw A=>?_,λhw=>?_⟩
  ·simp only[yA] at hw; simp only[OM] at A;rw[G9,hw] at s1;have:=rQ.2 A;dsimp only at s1;rw[this] at s1; cases s1
  ·simp only[yA] at hw; simp only[OM] at A;rw[G9,hw] at s2;have:=rQ.2 A;dsimp only at s2;rw[this] at s2; cases s2
  ·simp only[yA] at hw;rw[hw.1,hw.2] at s3;simp at s3
 |own d =>
  refine⟨λhw A=>?_,λhw A=>?_,λhw=>FU d1 hw.1 hw.2⟩
  ·exact A.elim (FU d2 hw) (FU d1 hw)
  ·exact A.elim (FU d3 hw) λh=>FU d1 h hw
 |im i =>
  refine⟨λhw A=>?_,λhw A=>?_,λhw=>FU d1 hw.1 hw.2⟩
  ·exact A.elim (FU d2 hw) (FU d1 hw)
  ·exact A.elim (FU d3 hw) λh=>FU d1 h hw
 |len =>
  have M:¬ (s.oU=true/\t.oU=true):=λhh=>by rw[hh.1,hh.2] at d4; cases d4
  exact⟨λhw A=>M ⟨hw,A⟩,λhw A=>M ⟨A,hw⟩,M⟩
def qLl{s t:Touch}(h:still s):s.apart t=true:=by
 obtain⟨h1,A,M⟩:=h;simp[Touch.apart,sB,h1,A,M]
def qJ5{s t:Touch}(h:still t):s.apart t=true:=by
 obtain⟨h1,A,M⟩:=h;simp[Touch.apart,sB,h1,A,M]
def qL2{s t:Touch}(h:quiet s)(k:quiet t):s.apart t=true:=by
 simp[Touch.apart,sB,h.1,h.2,k.1,k.2]
def qL5{O:bD}{a b:dX}{s t:Touch}{sa M sb U:St}(ha:gX O a sa=some (M,s))(hb:gX O b sb=some (U,t))(hh:yF a b=false):s.apart t=true:=by
 by_cases h1:a.op.weight=0
 ·exact qLl (qHd h1 ha)
 ·by_cases h2:b.op.weight=0
  ·exact qJ5 (qHd h2 hb)
  ·have h3:Nat.blt 0 a.op.weight=true:=by rw[rP]; omega
   have h4:Nat.blt 0 b.op.weight=true:=by rw[rP]; omega
   simp only[yF,h3,h4,gS] at hh;have h5:¬ (2<a.op.weight+b.op.weight):=λA=>by rw[<- rP] at A; rw[A] at hh; cases hh
   exact qL2 (qHs bn ha) (qHs bn hb)
def qFM{M:List Nat}{n i j:Nat}(A:i<j)(hj:j<n)(hb:(M.getD j 0).testBit i=false):(i,j)∈pO M n:=by
 unfold pO;exact pF.2 ⟨j,sL.2 hj,fk.2 ⟨i,List.mem_filter.2 ⟨sL.2 A,by rw[hb]; rfl⟩,rfl⟩⟩
def eC.congr{ρ:Env}{I:eK}{h h':bm}{w:World}(H:eC ρ I h w)(hs:∀ x,db h' h x):eC ρ I h' w where
 live r o A:=H.live r o (by rw[<- FR (hs _)]; exact A)
 inj r r' o o' l l' A M:=H.inj r r' o o' l l' (by rw[<- FR (hs _)]; exact A) (by rw[<- FR (hs _)]; exact M)
 gQ:=H.gQ
 sd:=H.sd
 apart r o l A:=H.apart r o l (by rw[<- FR (hs _)]; exact A)
 jW r o l A:=H.jW r o l (by rw[<- FR (hs _)]; exact A)
 fresh d g l e:=by rw[qKh (hs (.own d))]; exact H.fresh d g l e
 jf i l e:=by have:=hs .len; simp only[db] at this; rw[this]; exact H.jf i l e
def owned.congr{ρ:Env}{h h':bm}(hs:∀ x,db h' h x){b:Nat}(ho:owned ρ h' b):owned ρ h b:=by
 obtain⟨r,o,l,h1,A,M⟩:=ho;exact⟨r,o,l,by rw[<- FR (hs _)]; exact h1,A,M⟩
def qJN{s s':St}(h:∀ x,same s s' x):∀ x,db s.h s'.h x:=λx=>by
 cases x with
 |slot n=>trivial
 |own d=>exact h (.own d)
 |im i=>exact h (.im i)
 |len=>exact h .len
def nr.congr{nt:Nat}{ρ:Env}{I:eK}{st A:St}{a:Act}{w:World}(S:nr nt ρ I A a w)(h:∀ x,same st A x):nr nt ρ I st a w where
 heap:=S.heap.congr (qJN h)
 tm t v e:=S.tm t v (by have:=h (.slot t); simp only[same] at this; rw[<- this]; exact e)
 size:=S.size
 defers:=S.defers
def Good.congr{ρ:Env}{I:eK}{h0:bm}{w:World}{dL:Env}{I':eK}{h h':bm}{w':World}(g:Good ρ I h0 w dL I' h' w')(hs:∀ x,db h h' x):Good ρ I h0 w dL I' h w' :=
 { g with own:=λb hb=>g.own b (hb.congr hs) }
end Go.AI
namespace Go.AI
variable [Sym]
section
variable {P:Program} {G:Nat->Option (List bL)} {O:bD} {nt:Nat} {heap:Nat->Bool} {ops:Array Oper} {Q:Exit->Act->World->Prop}
def qWT(hO:gN P G O)(aa:nt<1000000):∀ (L:List dX) (i:Nat) (st:St) {M:St} {ts:List Touch} {ρ:Env} {I:eK} {a:Act} {w:World},nv G I ->
  (∀ (j:Nat) U,L[j]?=some U->∃ o,ops[i+j]?=some o/\nW P G nt heap ops o=some U)->lA O L st=some (M,ts)->nr nt ρ I st a w ->
  Leaves P nt ρ I st w M (Q .normal)->wpOps P ops Q (List.range' i L.length) a w:=by
 intro L
 induction L with
 |nil =>
  intro i st M ts ρ I a w hG hc A S hK;simp only[lA,rJ,fB] at A;obtain⟨rfl,rfl⟩:=A;exact hK ρ I a w S (Good.refl _ _ _ _)
 |cons U L ih =>
  intro i st M ts ρ I a w hG hc A S hK;unfold lA at A;split at A
  ·cases A
  ·rename_i ab t hs;split at A
   ·cases A
   ·rename_i ah ai ad;simp only[rJ,fB] at A;obtain⟨rfl,rfl⟩:=A;obtain⟨o,ho,ae⟩:=hc 0 U rfl;simp only[di,List.range'_succ];rw[wpOps_cons];refine qCM hO hG S aa (by simpa using ho) ae hs λdL I' a' w' S' g=>?_
    refine ih (i+1) ab (hG.mono g.imm) (λj af e=>?_) ad S' λag I2 a2 w2 S2 g2=>hK ag I2 a2 w2 S2 (g.trans g2)
    obtain⟨o',h1,h2⟩:=hc (j+1) af (by simpa using e);exact⟨o',by rw[show i+1+j=i+(j+1) by omega]; exact h1,h2⟩
def qPo{α:Type}{p q:α->Bool}:∀ {l:List α},(∀ a∈l,p a=true->q a=true)->(∃ a∈l,q a=true/\p a=false)->l.countP p<l.countP q:=by
 intro l
 induction l with
 |nil=>intro _ ⟨a,h,_⟩; simp at h
 |cons x l ih =>
  intro h1 ⟨a,A,M,U⟩;have hle:l.countP p<=l.countP q:=List.countP_mono_left λb hb=>h1 b (by simp[hb])
  simp only[List.countP_cons]
  rcases dK.1 A with rfl|A
  ·rw[bA (by simp[U]),bF M]; omega
  ·have:=ih (λb hb=>h1 b (by simp[hb])) ⟨a,A,M,U⟩;by_cases hp:p x=true
   ·rw[bF hp,bF (h1 x bR hp)]; omega
   ·rw[bA hp]; split <;> omega
def mb(listed:Array Bool)(j:Nat):Prop:=listed.getD j false=true
def Ve{listed:Array Bool}{i j:Nat}(hi:i<listed.size):mb (listed.setIfInBounds i true) j↔(j=i\/mb listed j):=by
 unfold mb;by_cases A:i=j
 ·subst A; simp[hi]
 ·rw[getD_set_ne false A];constructor
  ·exact .inr
  ·rintro (h|h)
   ·exact absurd h.symm A
   ·exact h
def qV9(hO:gN P G O)(aH:nt<1000000){L:List dX}{s:Nat->St}{ts:List Touch}
  (hc:∀ (j:Nat) o,ops[j]?=some o->∃ M,L[j]?=some M/\nW P G nt heap ops o=some M) (hlen:L.length=ops.size)
  (aA:∀ (j:Nat) M,L[j]?=some M->∃ t,ts[j]?=some t/\gX O M (s j)=some (s (j+1),t))
  (ab:∀ (i j:Nat) ai aj ti tj,i<j->L[i]?=some ai->L[j]?=some aj->ts[i]?=some ti->ts[j]?=some tj->((yP ops.toList []).getD j 0).testBit i=true\/Clear ai aj ti tj)
  (ag:∀ (j:Nat) o,ops[j]?=some o->∀ e∈o.after,Region.binds .any e=true->e.on<j)
  {ρ0:Env} {I0:eK} {w0:World} (hK:Leaves P nt ρ0 I0 (s 0) w0 (s L.length) (Q .normal)) :
  ∀ (fuel:Nat) (listed:Array Bool) (A:St) (ρ:Env) (I:eK) (a:Act) (w:World),listed.size=ops.size->(List.range ops.size).countP (λj => !listed.getD j false)<=fuel ->
   (∀ (j:Nat) o,ops[j]?=some o->mb listed j->∀ e∈o.after,Region.binds .any e=true->mb listed e.on) ->
   (∀ (x:Var) (k:Nat),k<=L.length->(∀ (j:Nat) M t,L[j]?=some M->ts[j]?=some t->yA M t x->(mb listed j↔j<k))->same (s k) A x) ->
   nr nt ρ I A a w->nv G I->Good ρ0 I0 (s 0).h w0 ρ I A.h w->wpAny P .any ops Q fuel listed a w:=by
 intro fuel;have getD_eq:∀ {listed:Array Bool}{j:Nat},listed.size=ops.size->j<ops.size->listed.getD j true=listed.getD j false:=by
  intro listed j h1 h2;have:j<listed.size:=bn
  simp[this]
 -- all aI done
 have fin:∀ (listed:Array Bool) (A:St) (ρ:Env) (I:eK) (a:Act) (w:World),(∀ j,j<ops.size->mb listed j) ->
   (∀ (x:Var) (k:Nat),k<=L.length->(∀ (j:Nat) M t,L[j]?=some M->ts[j]?=some t->yA M t x->(mb listed j↔j<k))->same (s k) A x) ->
   nr nt ρ I A a w->Good ρ0 I0 (s 0).h w0 ρ I A.h w->Q .normal a w:=by
  intro listed A ρ I a w ae hinv S g;have db:∀ x,same (s L.length) A x:=λx=>hinv x L.length (cB _) λj M t h1 _ _=>by
   have:=(cQ.1 h1).1;exact⟨λ_=>this,λ_=>ae j bn⟩
  exact hK ρ I a w (S.congr db) (g.congr (qJN db))
 have least:∀ (listed:Array Bool),listed.size=ops.size->Region.ready .any ops listed=[]->∀ j,j<ops.size->mb listed j:=by
  intro listed kJ hr j
  induction j using Nat.strongRecOn with
  |ind j ih =>
   intro hj;cases hd:listed.getD j false with
   |true=>exact hd
   |false =>
    exfalso;have hm:j∈Region.ready .any ops listed:=mem_ready.2 ⟨by rw[getD_eq kJ hj]; exact hd,ops[j],by simp[hj],λe he hb=>ih e.on (ag j ops[j] (by simp[hj]) e he hb) (by have:=ag j ops[j] (by simp[hj]) e he hb; omega)⟩;rw[hr] at hm;cases hm
 induction fuel with
 |zero =>
  intro listed A ρ I a w kJ aB al hinv S hG g;have ae:∀ j,j<ops.size->mb listed j:=by
   intro j hj;have h0:(List.range ops.size).countP (λj => !listed.getD j false)=0:=bn
   have:=List.countP_eq_zero.1 h0 j (sL.2 hj);unfold mb;cases hd:listed.getD j false with
   |true=>rfl
   |false=>rw[hd] at this; exact absurd rfl this
  refine⟨?_,fin listed A ρ I a w ae hinv S g⟩;cases hr:Region.ready .any ops listed with
  |nil=>rfl
  |cons j l =>
   have hm:j∈Region.ready .any ops listed:=by rw[hr]; simp
   obtain⟨h0,o,ho,_⟩:=mem_ready.1 hm;have hj:=(vd.1 ho).1;rw[getD_eq kJ hj] at h0;have:=ae j hj;unfold mb at this;rw[h0] at this; cases this
 |succ fuel ih =>
  intro listed A ρ I a w kJ aB al hinv S hG g;refine⟨λhr=>fin listed A ρ I a w (least listed kJ hr) hinv S g,λi hi=>?_⟩;obtain⟨h0,o,ho,aq⟩:=mem_ready.1 hi;have ar:=(vd.1 ho).1;rw[getD_eq kJ ar] at h0;have aw:¬ mb listed i:=λh=>by unfold mb at h; rw[h0] at h; cases h
  obtain⟨ai,ad,aC⟩:=hc i o ho;obtain⟨ti,ah,aJ⟩:=aA i ai ad;have aD:∀ d,ai.dst=some d->d+1<1048576:=by
   obtain⟨q1,q2,_,_⟩:=qGD aC;intro d hd;rw[q2] at hd;exact Fx (q1 d hd) bn
  -- aP is bound to aQ ahead of j is done,once aR own aI
  have au:∀ j o',ops[j]?=some o'->(∀ e∈o'.after,Region.binds .any e=true->mb listed e.on)->∀ l,((yP ops.toList []).getD j 0).testBit l=true->mb listed l:=by
   intro j o' hj hp l hl;refine qOT (D:=mb listed) ops.toList [] ops.toList (λj o h1 h2=>al j o (by simpa using h1) h2) bR (λj o h=>by simp at h) j o' (by simpa using hj) hp l hl
  have af:∀ j,j<ops.size->mb listed j->∀ l,((yP ops.toList []).getD j 0).testBit l=true->mb listed l:=λj hj hd =>
   au j ops[j] (by simp[hj]) (al j ops[j] (by simp[hj]) hd)
  have an:∀ {j:Nat}{M:dX},L[j]?=some M->j<ops.size:=λh=>by have:=(cQ.1 h).1; omega
  have agree:∀ x,OM ai ti x->same (s i) A x:=by
   intro x hx;refine hinv x i (by have:=(cQ.1 ad).1; omega) λj M t h1 h2 h3=>?_
   constructor
   ·intro hd
    rcases Nat.lt_trichotomy j i with h|h|h
    ·exact h
    ·subst h; exact absurd hd aw
    ·exfalso
     rcases ab i j ai M ti t h ad h1 ah h2 with hb|U
     ·exact aw (af j (an h1) hd i hb)
     ·exact(U x).2.1 h3 hx
   ·intro aK
    rcases ab j i M ai t ti aK h1 ad h2 ah with hb|U
    ·exact au i o ho aq j hb
    ·exact absurd hx ((U x).1 h3)
  obtain⟨aE,aF,ax,aL⟩:=qOK aD aJ agree;refine qCM hO hG S aH ho aC aF λdL I' a' w' S' g'=>?_
  have ak:i<listed.size:=bn
  refine ih (listed.setIfInBounds i true) aE dL I' a' w' (by simp[kJ]) ?_ ?_ ?_ S' (hG.mono g'.imm) (g.trans g')
  ·have:(List.range ops.size).countP (λj => !(listed.setIfInBounds i true).getD j false)<(List.range ops.size).countP (λj => !listed.getD j false):=by
    refine qPo (λj hj h=>?_) ⟨i,sL.2 ar,by rw[h0]; rfl,?_⟩
    ·by_cases aG:i=j
     ·subst aG; rw[h0]; rfl
     ·rw[getD_set_ne false aG] at h; exact h
    ·have:mb (listed.setIfInBounds i true) i:=(Ve ak).2 (.inl rfl);unfold mb at this;rw[this]; rfl
   omega
  ·intro j o' hj hd e he hb;rw[Ve ak] at hd ⊢;right
   rcases hd with rfl|hd
   ·rw[ho] at hj; cases hj; exact aq e he hb
   ·exact al j o' hj hd e he hb
  ·intro x k hk hw;by_cases aa:yA ai ti x
   ·have aS:i<k:=(hw i ai ti ad ah aa).1 ((Ve ak).2 (.inl rfl));have h1:same (s (i+1)) aE x:=by
     cases x with
     |slot n=>exact aL n aa
     |own d=>exact ax (.own d) (agree (.own d) (.inr aa))
     |im j=>exact ax (.im j) (agree (.im j) (.inr aa))
     |len=>exact ax .len (agree .len aa)
    have h2:∀ n,i+1+n<=k->same (s (i+1+n)) (s (i+1)) x:=by
     intro n
     induction n with
     |zero=>intro _; exact same.refl _ _
     |succ n aM =>
      intro hn;have ay:i+1+n<L.length:=bn
      obtain⟨t,ht,az⟩:=aA (i+1+n) L[i+1+n] (fQ ay);have aN:¬ yA L[i+1+n] t x:=by
       intro hW;have hd:=(hw (i+1+n) _ t (fQ ay) ht hW).2 bn;rw[Ve ak] at hd;have hd:mb listed (i+1+n):=hd.resolve_left bn
       rcases ab i (i+1+n) ai _ ti t bn ad (fQ ay) ah ht with hb|U
       ·exact aw (af (i+1+n) bn hd i hb)
       ·exact(U x).2.2 ⟨aa,hW⟩
      have:=qEs az x aN;exact this.symm.trans (aM bn)
    have:=h2 (k - (i+1)) bn;rw[show i+1+(k - (i+1))=k by omega] at this;exact this.trans h1
   ·have h1:same (s k) A x:=hinv x k hk λj M t e1 e2 e3=>by
     have:=hw j M t e1 e2 e3;rw[Ve ak] at this;have aO:j≠i:=λe=>by
      subst e;rw[ad] at e1; cases e1;rw[ah] at e2; cases e2;exact aa e3
     exact⟨λh=>this.1 (.inr h),λh=>(this.2 h).resolve_left aO⟩
    exact h1.trans (qEs aF x aa)
def qWD(hm:P.follows .mixedOrders=true)(hO:gN P G O)(ag:nt<1000000){id:Nat}{draw:Bool}{L:List dX}{gP:List (Nat×Nat)}(hc:iV P G nt heap ops draw=some (.yd L gP)){st ah:St}(U:rW O L gP st=some ah){ρ:Env}{I:eK}(hG:nv G I){a:Act}{w:World}
  (S:nr nt ρ I st a w) (hK:Leaves P nt ρ I st w ah (Q .normal)):(Code.region id ops draw).wp P Q a w:=by
 unfold iV at hc;simp only[rL,rK] at hc;obtain⟨l,hl,hc⟩:=hc;have A:=wc hl;have hlen:l.length=ops.size:=by have:=A.length; simpa using this.symm
 unfold rW at U;split at U
 ·cases U
 ·rename_i au ts aa;cases ad:da ts gP with
  |false=>rw[ad] at U; cases U
  |true =>
   rw[ad] at U;simp only[iv,rJ] at U;subst U;cases draw with
   |false =>
    simp only[gh,fC,rM,rJ,eo.yd.injEq] at hc;obtain⟨rfl,rfl⟩:=hc;refine wp_region ?_;have:=qWT (P:=P) (Q:=Q) (heap:=heap) (ops:=ops) hO ag l 0 st hG (λj ao e=>?_) aa S hK
    ·rw[hlen,<- List.range_eq_range'] at this; exact this
    ·have hj:=(cQ.1 e).1;have ho:ops.toList[j]?=some ops[j]:=by simp[show j<ops.size by omega]
     obtain⟨aw,h1,h2⟩:=A.get j _ ho;rw[e] at h1; cases h1;exact⟨ops[j],by simp[show j<ops.size by omega],h2⟩
   |true =>
    simp only[fx] at hc;split at hc
    ·rename_i M;simp only[rM,rJ,eo.yd.injEq] at hc;obtain⟨rfl,rfl⟩:=hc;simp only[fj] at M;refine wp_region_any hm ?_;obtain⟨s,s0,s1,s2,s3⟩:=qJj aa;subst s0 s1;have S':nr nt ρ I (s 0) a { w with drawn:=w.drawn+1 }:=⟨S.heap.same rfl,S.tm,S.size,S.defers⟩;have g0:Good ρ I (s 0).h w ρ I (s 0).h { w with drawn:=w.drawn+1 }:=⟨Env.le_refl _,eK.le_refl _,⟨rfl,rfl,rfl,cB _,λ_ _ _=>rfl⟩,λ_ h=>.inl h,λ_ _ _ h=>.inl h,λ_ _ h=>.inl h⟩;refine qV9 hO ag (L:=l) (s:=s) (ts:=ts) (heap:=heap) (λj o ho=>?_) hlen s3 (λi j ai aj ti tj an h1 h2 h3 h4=>?_) (λj o ho e he hb=>?_) (ρ0:=ρ) (I0:=I) (w0:=w) hK ops.size _ (s 0) ρ I a _ bR (by have:=List.countP_le_length (p:=λj => !(Array.replicate ops.size false).getD j false) (l:=List.range ops.size); simpa using this) (λj o ho hd=>?_) (λx k hk hw=>?_) S' hG g0
     ·obtain⟨ao,h1,h2⟩:=A.get j o (by simpa using ho);exact⟨ao,h1,h2⟩
     ·cases ak:((yP ops.toList []).getD j 0).testBit i with
      |true=>exact .inl rfl
      |false =>
       right;have hj:j<ops.size:=by have:=(cQ.1 h2).1; omega
       have ab:=qFM an hj ak;have hs:=lU.1 M.2 _ ab;have g1:l.getD i J8=ai:=by rw[na,h1]; rfl
       have g2:l.getD j J8=aj:=by rw[na,h2]; rfl
       simp only[g1,g2] at hs;refine qLv hs ?_;cases hh:yF ai aj with
       |true =>
        have ae:(i,j)∈(pO (yP ops.toList []) ops.size).filter λp=>yF (l.getD p.1 J8) (l.getD p.2 J8):=List.mem_filter.2 ⟨ab,by simp only[g1,g2]; exact hh⟩
        have:=lU.1 ad _ ae;simp only[h3,h4] at this;exact this
       |false =>
        obtain⟨t1,e1,q1⟩:=s3 i ai h1;obtain⟨t2,e2,q2⟩:=s3 j aj h2;rw[h3] at e1; cases e1;rw[h4] at e2; cases e2;exact qL5 q1 q2 hh
     ·have:=qFN ops.toList 0 M.1 j o (by simpa using ho) e he hb;omega
     ·exfalso;unfold mb at hd;have hj:=(vd.1 ho).1;simp[hj] at hd
     ·have h0:∀ n,n<=k->same (s n) (s 0) x:=by
       intro n
       induction n with
       |zero=>intro _; exact same.refl _ _
       |succ n aq =>
        intro hn;have al:n<l.length:=bn
        obtain⟨t,ht,af⟩:=s3 n l[n] (fQ al);have ar:¬ yA l[n] t x:=λhW=>by
         have hd:=(hw n _ t (fQ al) ht hW).2 bn;unfold mb at hd;simp[show n<ops.size by omega] at hd
        exact(qEs af x ar).symm.trans (aq bn)
      exact h0 k (cB _)
    ·cases hc
end
end Go.AI
namespace Go.AI
variable [Sym]
def lV.uc:lV->Exit
 |.norm=>.normal
 |.exit id=>.exit id
 |.ret=>.ret
section
variable {P:Program} {G:Nat->Option (List bL)} {O:bD} {nt:Nat} {heap:Nat->Bool}
def Hl{ops:Array Oper}{draw:Bool}{x:eo}(h:iV P G nt heap ops draw=some x):∃ L gP,x = .yd L gP:=by
 unfold iV at h;simp only[rL,rK] at h;obtain⟨l,_,h⟩:=h;split at h
 ·split at h
  ·simp only[rM,rJ] at h; exact⟨_,_,h.symm⟩
  ·cases h
 ·simp only[rM,rJ] at h; exact⟨_,_,h.symm⟩
end
end Go.AI
namespace Go.AI
variable [Sym]
def qNo{ρ:Env}{I:eK}{h:bm}{w:World}(H:eC ρ I h w){r:Ref}{cs:List Cell}{imm:Nat}{l:Loc}(hr:h.get r=some (.cells cs imm))(hl:ρ r=some l) :
  ∃ I',I.le I'/\(∀ k,l.base<=k->k<l.base+cs.length->I'.cell l.fg k=w.cell? ⟨l.fg,k,none⟩)/\eC ρ I' (h.put r (.cells cs (max imm cs.length))) w/\Good ρ I h w ρ I' (h.put r (.cells cs (max imm cs.length))) w:=by
 obtain⟨l',e,aa⟩:=H.live _ _ hr;rw[hl] at e; cases e;have ag:=aa;obtain⟨arr,elem,lo,hi,h1,h2,h3,h4,h5⟩:=aa;have hc:∀ k,w.cell? ⟨l.fg,k,none⟩=arr[k]?:=λk=>by simp[World.cell?,h1]
 have A:∀ k v,I.cell l.fg k=some v->w.cell? ⟨l.fg,k,none⟩=some v:=λk v e=>H.gQ _ _ _ e
 let I':eK:={ cell:=λb k=>if b=l.fg/\l.base<=k/\k<l.base+cs.length then w.cell? ⟨l.fg,k,none⟩ else I.cell b k,map:=I.map }
 have ab:∀ k,l.base<=k->k<l.base+cs.length->I'.cell l.fg k=w.cell? ⟨l.fg,k,none⟩:=λk a b=>by
  show(if l.fg=l.fg/\_ then _ else _)=_;rw[bF ⟨rfl,a,b⟩]
 have M:∀ b k,¬ (b=l.fg/\l.base<=k/\k<l.base+cs.length)->I'.cell b k=I.cell b k:=λb k hn=>by
  show(if b=l.fg/\_ then _ else _)=_;rw[bA hn]
 have hle:I.le I':=by
  refine⟨λb k v e=>?_,λb v e=>e⟩;by_cases hb:b=l.fg/\l.base<=k/\k<l.base+cs.length
  ·obtain⟨rfl,a,b⟩:=hb;rw[ab k a b];exact A k v e
  ·rw[M b k hb]; exact e
 have ae:∀ b k v,I'.cell b k=some v->b≠l.fg->I.cell b k=some v:=λb k v e hb=>by rw[M b k (λhh=>hb hh.1)] at e; exact e
 refine⟨I',hle,ab,?_,?_⟩
 ·refine eC.one H r (.cells cs (max imm cs.length)) l (λ_ _=>rfl) hl (λ_ _=>rfl) (Env.le_refl _) (λr' o=>bm.pQ h r _ r' o) (λr' o l' af ad U=>?_) hle ae (λk v e=>?_) rfl (H.jW r _ l hr hl) ?_ (λd=>bm.ry hr _ d) (by rw[bm.mV]; exact cB _) (λd g e=>?_) (λi e=>?_)
  ·rcases bm.pQ h r _ r' o ad with ⟨a,_⟩|⟨_,b⟩
   ·exact absurd a af
   ·exact H.inj r' r o _ l' l b hr U hl af
  ·by_cases hk:l.base<=k/\k<l.base+cs.length
   ·rw[ab k hk.1 hk.2] at e;exact⟨by simp only[iz]; omega,e⟩
   ·rw[M _ k (λhh=>hk hh.2)] at e;have:=H.apart r _ l hr hl l.fg k v e rfl;refine⟨?_,A k v e⟩;simp only[iz] at this ⊢;omega
  ·exact⟨arr,elem,lo,hi,h1,h2,h3,λk c hk=>let ⟨v,a,b⟩:=h4 k c hk; ⟨v,a,b.mono (Env.le_refl _) hle⟩,λo a b=>h5 o bn b⟩
  ·subst e; exact qa (H.fresh d g l hl) (bm.ry hr _ d)
  ·subst e; rw[bm.mV]; exact H.jf i l hl
 ·refine⟨Env.le_refl _,hle,⟨rfl,rfl,rfl,cB _,λ_ _ _=>rfl⟩,λb ho=>?_,λb k v e=>?_,λb v e=>.inl e⟩
  ·obtain⟨r',o,l',ad,U,e⟩:=ho
   rcases bm.pQ h r _ r' o ad with ⟨rfl,rfl⟩|⟨_,b'⟩
   ·exact .inl ⟨r',_,l',hr,U,e⟩
   ·exact .inl ⟨r',o,l',b',U,e⟩
  ·by_cases hb:b=l.fg
   ·exact .inr (.inl ⟨r,_,l,hr,hl,hb.symm⟩)
   ·exact .inl (ae b k v e hb)
def vw(ρ:Env)(h:bm)(I:eK)(w:World)(J:eK)(r:Ref):Prop :=
 (∀ cs imm,h.get r=some (.cells cs imm)->∀ l,ρ r=some l->∀ k,l.base<=k->k<l.base+cs.length->J.cell l.fg k=w.cell? ⟨l.fg,k,none⟩) /\
 True
def qPc{ρ:Env}{w:World}:∀ (rs:List Ref) (I:eK) (h:bm),eC ρ I h w->∃ J,I.le J/\eC ρ J (settle h rs) w/\Good ρ I h w ρ J (settle h rs) w /\
  (∀ r∈rs,vw ρ h I w J r):=by
 intro rs
 induction rs with
 |nil=>intro I h H; exact⟨I,eK.le_refl _,H,Good.refl _ _ _ _,λr A=>by simp at A⟩
 |cons r rs ih =>
  intro I h H;cases A:h.get r with
  |none =>
   have:settle h (r::rs)=settle h rs:=by simp[settle,A]
   rw[this];obtain⟨J,a,b,c,d⟩:=ih I h H;refine⟨J,a,b,c,λs hs=>?_⟩
   rcases dK.1 hs with rfl|hs
   ·exact⟨λcs imm e=>(by rw[A] at e; cases e),bB⟩
   ·exact d s hs
  |some o =>
   cases o with
   |cells cs imm =>
    have:settle h (r::rs)=settle (h.put r (.cells cs (max imm cs.length))) rs:=by simp[settle,A]
    rw[this];obtain⟨l,hl,_⟩:=H.live _ _ A;obtain⟨I',a1,a2,a3,a4⟩:=qNo H A hl;obtain⟨J,b1,b2,b3,b4⟩:=ih I' _ a3;have aa:∀ k,l.base<=k->k<l.base+cs.length->J.cell l.fg k=w.cell? ⟨l.fg,k,none⟩:=λk x y=>by
     have e1:=a2 k x y;cases hv:w.cell? ⟨l.fg,k,none⟩ with
     |some v=>rw[hv] at e1; exact b1.1 _ _ _ e1
     |none =>
      cases hj:J.cell l.fg k with
      |none=>rfl
      |some v=>rw[b2.gQ _ _ _ hj] at hv; cases hv
    refine⟨J,eK.le_trans a1 b1,b2,a4.trans b3,λs hs=>?_⟩;by_cases M:s=r
    ·subst M;refine⟨λab U e l' ad k x y=>?_,bB⟩;rw[A] at e; cases e;rw[hl] at ad; cases ad;exact aa k x y
    ·have ag:s∈rs:=(dK.1 hs).resolve_left M;have ae:∀ o,h.get s=some o->(h.put r (.cells cs (max imm cs.length))).get s=some o:=λo ho=>by
      rw[<- FR (Vm (h:=h) (r:=r) (o:=.cells cs (max imm cs.length)) (x:=s.site.var) ?_)]; exact ho;intro e
      -- one slot,one block ah af
      cases s with
      |im i=>cases r with
       |im j=>simp only[Ref.site,Site.var,Var.im.injEq] at e; exact M (by rw[e])
       |own _ _=>simp[Ref.site,Site.var] at e
      |own d g=>cases r with
       |im j=>simp[Ref.site,Site.var] at e
       |own d' g' =>
        simp only[Ref.site,Site.var,Var.own.injEq] at e;subst e;have q1:=(bm.je ho).1;have q2:=(bm.je A).1;exact M (by rw[<- q1,<- q2])
     have:=b4 s ag;exact⟨λab U e=>this.1 ab U (ae _ e),bB⟩
   |gO s0 p0 =>
    have:settle h (r::rs)=settle h rs:=by simp[settle,A]
    rw[this];obtain⟨J,a,b,c,d⟩:=ih I h H;refine⟨J,a,b,c,λs hs=>?_⟩
    rcases dK.1 hs with rfl|hs
    ·exact⟨λcs imm e=>(by rw[A] at e; cases e),bB⟩
    ·exact d s hs
   |dead=>exact absurd rfl (bm.lk A)
end Go.AI
namespace Go.AI
variable [Sym]
def cS.comp{α β A:Type}{R:α->β->Prop}{S:α->A->Prop}{T:β->A->Prop}(h:∀ a b c,R a b->S a c->T b c):∀ {l:List α}{m:List β}{n:List A},cS R l m->cS S l n->cS T m n
 |[],[],[],_,_=>trivial
 |_::_,_::_,_::_,a,b=>⟨h _ _ _ a.1 b.1,cS.comp h a.2 b.2⟩
def cS.mem{α β:Type}{R:α->β->Prop}:∀ {l:List α}{m:List β},cS R l m->cS (λa b=>a∈l/\b∈m/\R a b) l m
 |[],[],_=>trivial
 |a::l,b::m,h=>⟨⟨bR,bR,h.1⟩,(cS.mem h.2).mono λx y z=>⟨by simp[z.1],by simp[z.2.1],z.2.2⟩⟩
section
variable {ρ:Env} {I J:eK} {h:bm} {w:World}
def qJc(H:eC ρ I h w)(ad:I.le J):∀ (n:Nat) (c:Cell) (p:bL) (rs:List Ref),freeze h n c=some (p,rs)->(∀ r∈rs,vw ρ h I w J r)->∀ v,cD ρ J c v->eW J p v:=by
 intro n
 induction n with
 |zero=>intro c p rs e; simp[freeze] at e
 |succ n ih =>
  intro c p rs e U v hv;have A:∀ {cs:List Cell}{ys:List (bL×List Ref)}{eM:List Value},cs.mapM (freeze h n)=some ys->(∀ y∈ys,∀ r∈y.2,vw ρ h I w J r)->cS (cD ρ J) cs eM->cS (eW J) (ys.map (·.1)) eM:=by
   intro cs ys eM h1 h2 h3;have:=cS.comp (T:=λ(y:bL×List Ref) v=>eW J y.1 v) (λc y v a b=>ih c y.1 y.2 (by rw[a.2.2]) (h2 y a.2.1) v b) (wc h1).mem h3;exact this.ur (f:=λy:bL×List Ref=>y.1) λ_ _ x=>x
  unfold freeze at e;split at e
  ·cases e; cases hv with|p _ _ hp=>exact hp
  ·cases e;cases hv with|gm _ _ _ b o cap l hp=>exact hp
  ·rename_i r off len cap sz;cases hg:h.get r with
   |none=>rw[hg] at e; cases e
   |some o =>
    rw[hg] at e;cases o with
    |cells cs imm =>
     simp only[rL,rK,rM,rJ,fB] at e;obtain⟨vs,h1,rows,h2,rfl,rfl⟩:=e;cases hv with|cf _ _ _ _ _ cc l hl a1 a2 a3 =>
     obtain⟨l',e',M⟩:=H.live _ _ hg;rw[hl] at e'; cases e';obtain⟨eM,v1,v2⟩:=((M.mX.drop off).take (len*sz)).eM;have aa:=A h1 (λy hy r' ab=>U r' (ia _ (pF.2 ⟨y,hy,ab⟩))) (v1.mono λ_ _ x=>x.mono (Env.le_refl _) ad);have af:cS (cD ρ J) (vs.map λx=>Cell.p x.1) eM:=by
      have:=aa.ur (f:=Cell.p) (R':=cD ρ J) λp v x=>.p p v x
      rwa [fU] at this
     have hF:=(U r bR).1 cs imm hg l hl;refine X0 (eK.le_refl J) h2 af (λj u hj=>?_) a1 (λht=>?_)
     ·have ag:=(cQ.1 hj).1;have ae:=v1.length;simp only[ji,j0] at ae;rw[hF _ bn bn];exact v2 j u hj
     ·exact a3 len (by simpa using ht)
    |gO s p=>cases e
    |dead=>cases e
  ·rename_i r off;cases hg:h.get r with
   |none=>rw[hg] at e; cases e
   |some o =>
    rw[hg] at e;cases o with
    |cells cs imm =>
     simp only[rL,rK,rM,rJ,fB] at e;obtain⟨vs,h1,rfl,rfl⟩:=e;cases hv with|ptr _ _ l hl =>
     obtain⟨l',e',M⟩:=H.live _ _ hg;rw[hl] at e'; cases e';obtain⟨eM,v1,v2⟩:=M.mX.eM;have aa:=A h1 (λy hy r' ab=>U r' (ia _ (pF.2 ⟨y,hy,ab⟩))) (v1.mono λ_ _ x=>x.mono (Env.le_refl _) ad);have hF:=(U r bR).1 cs imm hg l hl;refine .dc _ off l.fg l.base (λk=>eM.getD k undef) (λk u hk=>?_) (λk u hk=>?_)
     ·obtain⟨v,e1,_⟩:=aa.get k u hk;have ah:=(cQ.1 e1).1;have ae:=v1.length;rw[hF _ bn bn,v2 k v e1];simp[e1]
     ·obtain⟨v,e1,e2⟩:=aa.get k u hk;simp only[na,e1,oS];exact e2
    |gO s p=>cases e
    |dead=>cases e
  ·cases e
def qHM(H:eC ρ I h w)(A:I.le J){c c':cN}{rs:List Ref}(e:fJ h c=some (c',rs))(M:∀ r∈rs,vw ρ h I w J r){v:Value}(hv:dV ρ J c v):dV ρ J c' v:=by
 cases c with
 |c x =>
  simp only[fJ,mZ,fB] at e;obtain⟨y,h1,rfl,rfl⟩:=e;exact cD.p _ _ (qJc H A _ x y.1 y.2 (by rw[h1]) M v hv)
 |agg cs =>
  simp only[fJ,mZ,fB] at e;obtain⟨ys,h1,rfl,rfl⟩:=e;obtain⟨arr,U,e2⟩:=hv;refine⟨arr,U,?_⟩;have:=cS.comp (T:=λ(y:bL×List Ref) v=>cD ρ J (.p y.1) v) (λc y v a b=>cD.p _ _ (qJc H A _ c y.1 y.2 (by rw[a.2.2]) (λr hr=>M r (pF.2 ⟨y,a.2.1,hr⟩)) v b)) (wc h1).mem e2;exact this.ur (f:=λy:bL×List Ref=>Cell.p y.1) λ_ _ x=>x
def qOI(H:eC ρ I h w)(A:I.le J){c c':bt}{rs:List Ref}(e:iF h c=some (c',rs))(M:∀ r∈rs,vw ρ h I w J r){v:Value}(hv:fq ρ J c v):fq ρ J c' v:=by
 cases c with
 |v x =>
  simp only[iF,mZ,fB] at e;obtain⟨y,h1,rfl,rfl⟩:=e;exact qHM H A (c:=x) (c':=y.1) (rs:=y.2) (by rw[h1]) M hv
 |dq xs =>
  simp only[iF,mZ,fB] at e;obtain⟨ys,h1,rfl,rfl⟩:=e;obtain⟨arr,U,e2⟩:=hv;refine⟨arr,U,?_⟩;have:=cS.comp (T:=λ(y:cN×List Ref) v=>dV ρ J y.1 v) (λc y v a b=>qHM H A (c:=c) (c':=y.1) (rs:=y.2) (by rw[a.2.2]) (λr hr=>M r (pF.2 ⟨y,a.2.1,hr⟩)) b) (wc h1).mem e2;exact this.ur (f:=λy:cN×List Ref=>y.1) λ_ _ x=>x
end
end Go.AI
namespace Go.AI
variable [Sym]
section
variable {P:Program} {G:Nat->Option (List bL)} {ρ:Env} {I:eK} {w:World} {nt:Nat}
def uo(tmps:Array Value):ResultVar->Sem Value
 |.tmp t=>pure (tmps.getD t undef)
 |.cell a t=>do loadVar t (<- asAddr (tmps.getD a undef))
def qVs{st:St}{a:Act}(S:nr nt ρ I st a w){r:ResultVar}{ar:pK}(M:mW P r=some ar){x:cN}(hx:ki st ar=some x) :
  ∃ cv,(uo a.tmps r).run P w = .ok cv w/\dV ρ I x cv:=by
 cases r with
 |tmp t =>
  simp only[mW,rJ] at M;subst M;unfold ki at hx;split at hx
  ·rename_i e; cases e;split at hx
   ·rename_i y U;cases hx;exact⟨_,rfl,S.tm _ _ U⟩
   ·cases hx
  ·rename_i e; cases e
 |cell ad t =>
  simp only[mW,rL,rK,rM,rJ] at M;obtain⟨g,h1,n,h2,rfl⟩:=M;unfold ki at hx;split at hx
  ·rename_i e; cases e
  ·rename_i e;cases e;split at hx
   ·rename_i rr off U;split at hx
    ·rename_i cs imm hg;split at hx
     ·rename_i y aa;cases hx;have hv:=qz (S.tm _ _ U);generalize ab:a.tmps.getD ad undef=v at hv;cases hv with|ptr _ _ l hl =>
      obtain⟨l',e',A⟩:=S.heap.live _ _ hg;rw[hl] at e'; cases e';obtain⟨cv,r1,r2⟩:=qGr (P:=P) (A.mX) h1 h2 aa;exact⟨cv,by unfold uo; dsimp only; rw[ab]; simp only[asAddr]; exact r1,r2⟩
     ·cases hx
    ·cases hx
   ·cases hx
def qRX{st:St}{a:Act}(S:nr nt ρ I st a w):∀ {l:List ResultVar}{U:List pK}{vs:List cN},l.mapM (mW P)=some U->U.mapM (ki st)=some vs ->
  ∃ A,(l.mapM (uo a.tmps)).run P w = .ok A w/\cS (dV ρ I) vs A:=by
 intro l
 induction l with
 |nil =>
  intro U vs h1 M;simp at h1; subst h1;simp at M; subst M;exact⟨[],rfl,bB⟩
 |cons r l ih =>
  intro U vs h1 M;simp only[ek,rL,rK,rM,rJ] at h1;obtain⟨x,x1,xs,x2,rfl⟩:=h1;simp only[ek,rL,rK,rM,rJ] at M;obtain⟨y,y1,ys,y2,rfl⟩:=M;obtain⟨cv,c1,c2⟩:=qVs S x1 y1;obtain⟨A,d1,d2⟩:=ih x2 y2;refine⟨cv::A,?_,c2,d2⟩;rw[ek];rw[Sem.run_bind,c1,Result.andThen_ok,Sem.run_bind,d1,Result.andThen_ok];rfl
def qNg{st:St}{a:Act}(S:nr nt ρ I st a w){fn:Func}{M:List pK}{vs:List cN}(h1:fn.results.toList.mapM (mW P)=some M)(U:M.mapM (ki st)=some vs) :
  ∃ cv,(results fn a.tmps).run P w = .ok cv w/\fq ρ I (oneOf vs) cv:=by
 obtain⟨A,d1,d2⟩:=qRX S h1 U;have hlen:=d2.length;refine⟨if h:A.toArray.size=1 then A.toArray[0] else .tuple A.toArray,?_,?_⟩
 ·have he:results fn a.tmps=(do let vs <- fn.results.mapM (uo a.tmps); pure (if h:vs.size=1 then vs[0] else .tuple vs)):=rfl;rw[he,Array.mapM_eq_mapM_toList,Sem.run_bind];have:(List.toArray <$> fn.results.toList.mapM (uo a.tmps):Sem (Array Value)).run P w = .ok A.toArray w:=by
   rw[map_eq_pure_bind,Sem.run_bind,d1];rfl
  rw[this,Result.andThen_ok];rfl
 ·cases vs with
  |nil=>cases A with
   |nil=>exact⟨#[],rfl,bB⟩
   |cons _ _=>exact d2.elim
  |cons x vs=>cases A with
   |nil=>exact d2.elim
   |cons c A=>cases vs with
    |nil=>cases A with
     |nil=>exact d2.1
     |cons _ _=>exact d2.2.elim
    |cons y vs=>cases A with
     |nil=>exact d2.2.elim
     |cons c2 A=>exact⟨(c::c2::A).toArray,bR,d2⟩
def qI9{heap:Nat->Bool}{gU:Bool}{fn:Func}{F:nd}(h:lS P G heap gU fn=some F):∃ c rs,fn.body=some c/\fn.results.toList.mapM (mW P)=some rs/\fn.name ≠ "runtime.NumGoroutine" /\ fn.ntmps<1000000/\fn.params.size+fn.nfree<=fn.ntmps /\
  F={ np:=fn.params.size+fn.nfree,res:=rs,gU,body:=comp P G fn.ntmps heap c }:=by
 unfold lS at h;simp only[rL,rK] at h;obtain⟨c,h1,rs,A,h⟩:=h;split at h
 ·cases h
 ·rename_i hn;split at h
  ·cases h
  ·rename_i hs;simp only[rM,rJ] at h;exact⟨c,rs,h1,A,by simpa using hn,bn,bn,h.symm⟩
def qQu{F:nd}{fn:Func}{a:Act}{st:St}(S:nr nt ρ I st a w)(ae:fn.results.toList.mapM (mW P)=some F.res){A:List bG}{v:bt}{cZ:List bG}(U:finish F st A.length=some (v,cZ))
  {ρ0:Env} {I0:eK} {w0:World} (g:Good ρ0 I0 { bY:=A,cW:=.nil } w0 ρ I st.h w) (ai:∀ i l,ρ0 (.im i)=some l->i<A.length) (af:∀ d n,ρ0 (.own d n)=none) :
  ∃ cv dL I',(results fn a.tmps).run P w = .ok cv w/\fq dL I' v cv/\eC dL I' { bY:=cZ,cW:=.nil } w/\Good ρ0 I0 { bY:=A,cW:=.nil } w0 dL I' { bY:=cZ,cW:=.nil } w/\∀ d n,dL (.own d n)=none:=by
 unfold finish at U;cases ad:F.res.mapM (ki st) with
 |none=>rw[ad] at U; cases U
 |some vs =>
  rw[ad] at U;dsimp only at U;obtain⟨cv,hr,hv⟩:=qNg S ae ad;generalize an:oneOf vs=v0 at U hv;cases M:(if F.gU then iF st.h v0 else some (v0,[])) with
  |none=>rw[M] at U; cases U
  |some p =>
   obtain⟨v1,fr⟩:=p;rw[M] at U;simp only[rJ,fB] at U;obtain⟨f1,f2⟩:=U;obtain⟨J,j1,j2,j3,j4⟩:=qPc fr I st.h S.heap;have aj:fq ρ J v1 cv:=by
    cases ab:F.gU with
    |true =>
     rw[ab] at M;exact qOI S.heap j1 (by simpa using M) j4 (hv.mono (Env.le_refl _) j1)
    |false =>
     rw[ab] at M;simp only[gh,fC,rJ,fB] at M;obtain⟨rfl,rfl⟩:=M;exact hv.mono (Env.le_refl _) j1
   generalize hh:settle st.h fr=h1 at f1 f2 j2 j3;generalize ak:reach h1 cw ((bY A.length).flatMap (λr=>match h1.get r with|some o=>o.refs|none=>[])++v1.refs) (bY A.length)=rs at f1 f2;have ag:(bY A.length).Nodup:=by
    unfold bY;exact List.Pairwise.map Ref.im (λa b al e=>al (by cases e; rfl)) Ay
   obtain⟨ah,t,ht⟩:=qGc h1 cw ((bY A.length).flatMap (λr=>match h1.get r with|some o=>o.refs|none=>[])++v1.refs) (bY A.length) ag;rw[ak] at ah ht;have aa:({ bY:=cZ,cW:=.nil }:bm)=lH h1 rs:=by rw[<- f2]; rfl
   have g2:=g.trans j3;refine⟨cv,jM ρ rs,J,hr,?_,?_,?_,λd n=>rfl⟩
   ·rw[<- f1]; exact Zz Z4 aj
   ·rw[aa]; exact j2.lH ah
   ·rw[aa];refine⟨λr l e=>?_,g2.imm,g2.dY,λb hb=>g2.own b (Vo hb),g2.Cm,g2.Cl⟩;cases r with
    |own d n=>rw[af] at e; cases e
    |im i =>
     have hi:=ai i l e;have:rs[i]?=some (.im i):=by
      rw[ht,j5 (by simp[bY]; exact hi)];simp[bY,hi]
     simp only[jM,this,eG];exact g2.env _ _ e
end
end Go.AI
namespace Go.AI
def TM.Lx{α:Type}(Q:Nat->α->Prop):TM α->(Nat->Nat)->Prop
 |.nil,_=>True
 |.node l v r,A=>(match v with|some a=>Q (A 0) a|none=>True)/\TM.Lx Q l (λn=>A (2*n+1))/\TM.Lx Q r (λn=>A (2*n+2))
def TM.Lx.get{α:Type}{Q:Nat->α->Prop}:∀ {t:TM α}{M:Nat->Nat},TM.Lx Q t M->∀ {n:Nat}{a:α},t.get n=some a->Q (M n) a:=by
 intro t
 induction t with
 |nil=>intro M _ n a h; simp[TM.get_nil] at h
 |node l v r U aa =>
  intro M h n a A;obtain⟨h1,h2,h3⟩:=h;rw[TM.dZ] at A;by_cases h0:n=0
  ·subst h0;rw[bF rfl] at A;subst A;exact h1
  ·rw[bA h0] at A;by_cases ho:n % 2=1
   ·rw[bF ho] at A;have:=U h2 A
    rwa [show 2*(n / 2)+1=n by omega] at this
   ·rw[bA ho] at A;have:=aa h3 A
    rwa [show 2*(n / 2 - 1)+2=n by omega] at this
variable [Sym]
end Go.AI
namespace Go.AI
variable [Sym]
open Go.RowKit Go.ChangeShapes Go.WideShapes
def qm:Env:=λ_=>none
def zz:bm:={ bY:=[],cW:=.nil }
def Sk(r:Ref):zz.get r=none:=by cases r <;> rfl
def qNu{I:eK}{w:World}(h1:∀ b o v,I.cell b o=some v->w.cell? ⟨b,o,none⟩=some v)(A:∀ b arr c,I.map b=some (arr,c)->w.heap[b]?=some (.map arr c)):eC qm I zz w where
 live r o e:=by rw[Sk] at e; cases e
 inj r r' o o' l l' e:=by rw[Sk] at e; cases e
 gQ:=h1
 sd:=A
 apart r o l e:=by rw[Sk] at e; cases e
 jW r o l e:=by rw[Sk] at e; cases e
 fresh d g l e:=by cases e
 jf i l e:=by cases e
def qTK{P:Program}{G:Nat->Option (List bL)}{O:bD}(hO:gN P G O){f:FuncId}{args:List bt}{v:bt}{M:List bG}(h:O f args []=some (v,M)){I:eK}(hG:nv G I){w:World}
  (h1:∀ b o v,I.cell b o=some v->w.cell? ⟨b,o,none⟩=some v) (h2:∀ b arr c,I.map b=some (arr,c)->w.heap[b]?=some (.map arr c)) {A:Array Value} (ha:cS (fq qm I) args A.toList) :
  Calls P f A w λe w'=>∃ cv dL I',e = .returned cv/\fq dL I' v cv/\Below w.heap.size w w':=by
 refine Calls.mono ((hO _ _ _ _ _ h).2 qm I w A hG (qNu h1 h2) ha (λ_ _=>rfl)) λe w' ⟨cv,dL,I',e1,e2,e3,U,_⟩=>⟨cv,dL,I',e1,e2,U.dY.os,U.dY.tape,U.dY.output,U.dY.size,λk hk=>U.dY.block k hk λ⟨r,o,l,hr,_⟩=>by rw[show(({ bY:=[],cW:=.nil }:bm))=zz from rfl,Sk] at hr; cases hr⟩
def qPX{ρ:Env}{I:eK}(k:IntKind)(n:Int):fq ρ I (.pv (.int k n)) (.int k n):=cD.p _ _ (.int k n)
variable {H:Type} {enc:TypeId×Value->H} {P:Program}
end Go.AI
