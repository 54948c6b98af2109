/- Own work. Condition: what each theorem names. -/
import Derived.Test.YtnlmlcfipbnpgaaGreatDoorAa
import Derived.Laws.AppendOwn
import Derived.Lib.ConvBytes
set_option linter.all false
open Option renaming some.injEq->rJ,bind_eq_some_iff->rK,bind_eq_bind->rL,pure_def->rM
namespace Go.AI
variable [Sym]
section
variable {P:Program} {G:Nat->Option (List bL)} {ρ:Env} {I:eK} {h:bm} {w:World} {tm:TM bt} {a:Act}
variable {heap:Nat->Bool} {d:Nat} {v:bt} {h':bm} {t:Touch} {o:Oper}
def qTQ{sz:Nat}:∀ {rows:List (List bL)},(∀ (i:Nat) r,rows[i]?=some r->r.length=sz)->∀ (k:Nat) v,rows.flatten[k]?=some v ->
  ∃ (i:Nat) (r:List bL) (j:Nat),rows[i]?=some r/\r[j]?=some v/\k=i*sz+j:=by
 intro rows
 induction rows with
 |nil=>intro _ k v e; simp at e
 |cons r rows A =>
  intro hs k v e;have hr:=hs 0 r rfl;rw[vb] at e;by_cases M:k<r.length
  ·rw[j5 M] at e;exact⟨0,r,k,rfl,e,bn⟩
  ·rw[kz bn] at e;obtain⟨i,r',j,h1,U,h3⟩:=A (λi r' e'=>hs (i+1) r' (by simpa using e')) _ _ e;exact⟨i+1,r',j,by simpa using h1,U,by rw[mH]; omega⟩
def qL9{sz:Nat}:∀ {rows:List (List bL)},(∀ (i:Nat) r,rows[i]?=some r->r.length=sz)->rows.flatten.length=rows.length*sz:=by
 intro rows
 induction rows with
 |nil=>intro _; simp
 |cons r rows A =>
  intro hs;have M:=hs 0 r rfl;rw[vb,bV,A (λi r' e'=>hs (i+1) r' (by simpa using e')),M,di,mH];omega
def Ye{sz:Nat}{tight:Bool}{rows:List (List bL)}{v:Value}(hp:eW I (.slice sz tight rows) v)(H:eC ρ I h w) :
  ∃ M b o cap,v = .slice (some M) rows.length cap/\rows.length<=cap/\(tight=true->cap=rows.length)/\jw ρ I w b o (bp rows.flatten)/\(bp rows.flatten).length=rows.length*sz/\(rows=[]\/M=⟨b,o,none⟩):=by
 cases hp with|emp _ _ M cap ht=>(exact⟨M,0,0,cap,rfl,eV _,ht,λk c A=>by simp[bp] at A,by simp[bp],.inl rfl⟩)|slice _ _ _ b o cap cv ht hc hs hI hv =>
 refine⟨_,b,o,cap,rfl,hc,ht,λk c A=>?_,by unfold bp; rw[dj,qL9 hs],.inr rfl⟩;unfold bp at A;rw[dP] at A;cases U:rows.flatten[k]? with
 |none=>rw[U] at A; cases A
 |some u =>
  rw[U] at A; simp at A; subst A;obtain⟨i,r,j,h1,h2,h3⟩:=qTQ hs k u U;exact⟨cv i j,by rw[h3,<- n5]; exact H.gQ _ _ _ (hI i r j u h1 h2),.p _ _ (hv i r j u h1 h2)⟩
def qPv{src dst e:TypeId}{x:Operand}(C:iZ P G ρ I h w tm a)(ho:o.op = .convert src dst x)(hs:P.underlying src=some (.slice e))(he:P.underlying e=some (.int .u8))(hd:P.underlying dst=some .string)
  {x':X} (hx:cG G x=some x') {p:cA} (hp:cH tm (.toStr x')=some p) (hg:p.iL d h=some (v,h',t)):fy ρ I h w ((execOp a.eval o).run P w) v h':=by
 have hex:∀ U w',a.eval x=U->(∃ b n c,U = .slice b n c)->(execOp a.eval o).run P w'=((Conv.bytesToString U).run P w').andThen λv w'=>.ok (.value v) w':=by
  intro U w' e1 ⟨b,n,c,e2⟩;unfold execOp; rw[ho];simp[e1,e2,convert,run_underlying hs,run_underlying hd,run_underlying he]
 have M:∀ (rows:List (List bL)) s U,a.eval x=U->eW I (.slice 1 false rows) U\/eW I (.slice 1 true rows) U->fP rows=some s->p = .pure (.pv (.str s))->fy ρ I h w ((execOp a.eval o).run P w) v h':=by
  intro rows s U e1 aa hb ab;subst ab;have ae:∃ ad b o cap,U = .slice (some ad) rows.length cap/\jw ρ I w b o (bp rows.flatten)/\(bp rows.flatten).length=rows.length*1/\(rows=[]\/ad=⟨b,o,none⟩):=by
   rcases aa with aa|aa <;> (obtain⟨ad,b,o,cap,c1,_,_,c2,c3,c4⟩:=Ye aa C.heap; exact⟨ad,b,o,cap,c1,c2,c3,c4⟩)
  obtain⟨ad,b,off,cap,c1,c2,c3,c4⟩:=ae;obtain⟨ag,_⟩:=qGT hb;obtain⟨vs,d1,d2⟩:=c2.eM;obtain⟨ns,f1,f2⟩:=qFp d1 ag;subst f1;have hlen:ns.length=rows.length:=by have:=d1.length; simp[c3] at this; omega
  refine q9 C hg (cv:=.string ⟨(ns.map λn=>UInt8.ofNat n.toNat).toArray⟩) ?_ (cD.p _ _ (.str _ _ (by simp[f2])));rw[hex U w e1 ⟨_,_,_,c1⟩,c1,qF7 hlen d2 (by rcases c4 with c4|c4; { left; simp[c4] }; { exact .inr c4 })]; rfl
 simp only[cH] at hp;split at hp
 ·rename_i h1;simp only[rJ] at hp;subst hp;have A:=qz (C.ev hx h1);generalize hv:a.eval x=U at A;cases A with|p _ _ af =>
  cases af;refine q9 C hg (cv:=.string .empty) ?_ (cD.p _ _ (.str _ _ rfl));rw[hex _ w hv ⟨_,_,_,rfl⟩]; rfl
 ·rename_i tight rows h1;obtain⟨s,hb,ab⟩:=Su (f:=λs=>.pv (.str s)) hp;have A:=qz (C.ev hx h1);generalize hv:a.eval x=U at A;cases A with|p _ _ af =>
  exact M rows s U hv (by cases tight <;> simp[af]) hb ab
 ·rename_i rows r h1;obtain⟨s,hb,ab⟩:=Su (f:=λs=>.pv (.str s)) hp;have A:=qz (C.ev hx h1);generalize hv:a.eval x=U at A;cases A with|gm _ _ _ b ob cap l aa e1 e2 e3 e4 =>
  exact M rows s _ hv (.inl aa) hb ab
 ·rename_i r off len cap h1;simp only[rJ] at hp;subst hp;obtain⟨rfl,ob,h2,h3⟩:=qDK hg;split at h3
  ·rename_i cs imm;split at h3
   ·rename_i ai;cases hb:bytesOf ((cs.drop off).take len) with
    |none=>rw[hb] at h3; cases h3
    |some s =>
     rw[hb] at h3; simp at h3; subst h3;have A:=qz (C.ev hx h1);generalize hv:a.eval x=U at A;cases A with|cf _ _ _ _ _ cc l hl a1 a2 a3 =>
     obtain⟨l',e',ah⟩:=C.heap.live r _ h2;rw[hl] at e'; cases e';obtain⟨vs,d1,d2⟩:=((ah.mX.drop off).take len).eM;obtain⟨ns,f1,f2⟩:=qFp d1 hb;subst f1;have hlen:ns.length=len:=by have:=d1.length; simp at this; omega
     refine fy.pure C.heap (cv:=.string ⟨(ns.map λn=>UInt8.ofNat n.toNat).toArray⟩) ?_ (cD.p _ _ (.str _ _ (by simp[f2])));rw[hex _ w hv ⟨_,_,_,rfl⟩,qDR hlen d2]; rfl
   ·cases h3
  ·cases h3
 ·cases hp
def qUN(z:List Cell)(hz:0<z.length):∀ (n k:Nat),k<n*z.length->(rep n z)[k]?=z[k % z.length]?:=by
 intro n
 induction n with
 |zero=>intro k A; omega
 |succ n M =>
  intro k A;show(z++rep n z)[k]?=_;by_cases h1:k<z.length
  ·rw[j5 h1,E9 h1]
  ·rw[kz bn,M _ (by rw[mH] at A; omega),Nat.mod_eq_sub_mod (show z.length<=k by omega)]
def qE8(z:List Cell)(n:Nat):(rep n z).length=n*z.length:=by
 induction n with
 |zero=>simp[rep]
 |succ n A=>show(z++rep n z).length=_; rw[bV,A,mH]; omega
def qNR{z:List Cell}{zv:Array Value}(hz:cS (cD ρ I) z zv.toList)(h0:0<z.length)(n m:Nat)(hm:m=n*z.length):cS (cD ρ I) (rep n z) ((Array.range m).map (zv[· % zv.size]!)).toList:=by
 have hl:zv.size=z.length:=by have:=hz.length; simp at this; omega
 refine cS.og (by simp[qE8,hm]) λi a b A hb=>?_
 have hi:i<n*z.length:=by have:=(cQ.1 A).1; rwa [qE8] at this
 rw[qUN z h0 n i hi] at A;obtain⟨u,h1,U⟩:=hz.get _ _ A;have M:b=zv[i % zv.size]! := by
  simp only[yY,Array.toList_range,dP,wu (hm▸hi)] at hb
  simpa using hb.symm
 rw[M,hl];have:zv[i % z.length]! = u:=by
  rw[getElem!_def];have:zv[i % z.length]?=some u:=by simpa using h1
  rw[this]
 rw[this];exact U
def qNt{e:TypeId}{n:Nat}(hn:iw P e=some n):∃ i,P.info? e=some i/\i.size=n:=by
 unfold iw at hn;cases hi:P.info? e with
 |none=>rw[hi] at hn; cases hn
 |some i=>rw[hi] at hn; exact⟨i,rfl,by simpa using hn⟩
def qR2{e:TypeId}{n:Nat}{i:TypeInfo}(hi:P.info? e=some i)(hn:pA P e=some n):i.bytes=n:=by
 unfold pA at hn; rw[hi] at hn; simpa using hn
def qE1(n:Nat)(h:n<=2 ^ 62):IntKind.i64.wrap (n:Int)=n:=by
 have h1:(n:Int) % (2 ^ 64:Int)=n:=Int.emod_eq_of_lt bn bn;show(let m:=(n:Int) % (2 ^ 64:Int); if true&&decide (m>=(2 ^ (64 - 1):Int)) then m - (2 ^ 64:Int) else m)=_;simp only[h1];rw[bA];simp;omega
end
end Go.AI
namespace Go.AI
variable [Sym]
section
variable {P:Program} {G:Nat->Option (List bL)} {ρ:Env} {I:eK} {h:bm} {w:World} {tm:TM bt} {a:Act}
variable {heap:Nat->Bool} {d:Nat} {v:bt} {h':bm} {t:Touch} {o:Oper}
def lv:Option Nat->Option Value->Prop
 |none,none=>True
 |some n,some x=>∃ k,x = .int k (n:Int)
 |_,_=>False
def qDh(C:iZ P G ρ I h w tm a){x:Option Operand}{M:Option X}(hx:r9 G x=some M){n:Option Nat}(hn:qC tm M=some n):lv n (x.map a.eval):=by
 cases x with
 |none=>simp[r9] at hx; subst hx; simp[qC] at hn; subst hn; trivial
 |some x =>
  cases hc:cG G x with
  |none=>simp[r9,hc] at hx
  |some y =>
   simp[r9,hc] at hx; subst hx;unfold qC at hn;simp only at hn;cases A:y.ev tm with
   |none=>rw[A] at hn; cases hn
   |some u =>
    rw[A] at hn;simp only at hn;cases hu:tM u with
    |none=>rw[hu] at hn; cases hn
    |some m =>
     rw[hu] at hn; simp at hn; subst hn;exact JH hu (C.ev hc A)
def qE4{isSlice:Bool}{len cap:Nat}{lo hi mx:Option Nat}{U M A:Option Value}(h1:lv lo U)(h2:lv hi M)(h3:lv mx A)
  (hm:mx.getD cap<=cap) (hh:hi.getD len<=mx.getD cap) (hl:lo.getD 0<=hi.getD len) (aa:mx.isSome=true->hi.isSome=true) :
  (Instr.sliceBounds isSlice len cap U M A).run P w = .ok (lo.getD 0,hi.getD len,mx.getD cap) w:=by
 cases lo with
 |none=>cases U with
  |some _=>exact h1.elim
  |none =>
   cases hi with
   |none=>cases M with
    |some _=>exact h2.elim
    |none=>cases mx with
     |none=>cases A with
      |some _=>exact h3.elim
      |none=>simp[Instr.sliceBounds]
     |some m=>simp at aa
   |some hn=>cases M with
    |none=>exact h2.elim
    |some x =>
     obtain⟨kh,rfl⟩:=h2;cases mx with
     |none=>cases A with
      |some _=>exact h3.elim
      |none=>simp at hh; simp[Instr.sliceBounds,run_sliceBound,hh]
     |some m=>cases A with
      |none=>exact h3.elim
      |some y=>obtain⟨km,rfl⟩:=h3; simp at hh hm; simp[Instr.sliceBounds,run_sliceBound,hh,hm]
 |some ln=>cases U with
  |none=>exact h1.elim
  |some z =>
   obtain⟨kl,rfl⟩:=h1;cases hi with
   |none=>cases M with
    |some _=>exact h2.elim
    |none=>cases mx with
     |none=>cases A with
      |some _=>exact h3.elim
      |none=>simp at hl; simp[Instr.sliceBounds,run_sliceBound,hl]
     |some m=>simp at aa
   |some hn=>cases M with
    |none=>exact h2.elim
    |some x =>
     obtain⟨kh,rfl⟩:=h2;cases mx with
     |none=>cases A with
      |some _=>exact h3.elim
      |none=>simp at hh hl; simp[Instr.sliceBounds,run_sliceBound,hh,hl]
     |some m=>cases A with
      |none=>exact h3.elim
      |some y=>obtain⟨km,rfl⟩:=h3; simp at hh hm hl; simp[Instr.sliceBounds,run_sliceBound,hh,hm,hl]
def qKO{sz:Nat}{tight tight':Bool}{rows:List (List bL)}{ad:Addr}{cap:Nat}(hp:eW I (.slice sz tight rows) (.slice (some ad) rows.length cap))(l U A:Nat)(hl:l<=U)(hn:U<=rows.length)
  (hc:U - l<=A) (ht:tight'=true->A=U - l):eW I (.slice sz tight' ((rows.take U).drop l)) (.slice (some (ad.add (l*sz))) (U - l) A):=by
 cases hp with|emp _ _ _ _ aa=>(simp only[fm,E8] at hn; subst hn; obtain rfl:l=0:=bn; simp; exact .emp _ _ _ _ (by simpa using ht))|slice _ _ _ b o _ cv aa ab hs hI hv =>
 have hlen:((rows.take U).drop l).length=U - l:=cM
 have M:∀ (i:Nat) r,((rows.take U).drop l)[i]?=some r->rows[l+i]?=some r:=by
  intro i r e;rw[n6,nZ] at e;split at e
  ·exact e
  ·cases e
 have key:=eW.slice (I:=I) sz tight' ((rows.take U).drop l) b (o+l*sz) A (λi k=>cv (l+i) k) (λe=>by rw[hlen]; exact ht e) (by rw[hlen]; exact hc) (λi r e=>hs _ r (M i r e))
  (λi r k v e1 e2=>by rw[show o+l*sz+i*sz+k=o+(l+i)*sz+k by rw[mH]; omega]; exact hI _ r k v (M i r e1) e2) (λi r k v e1 e2=>hv _ r k v (M i r e1) e2)
 rw[hlen] at key;rw[Ce];exact key
def qIx{sz:Nat}(b o cap:Nat):eW I (.slice sz false []) (.slice (some ⟨b,o,none⟩) 0 cap) :=
 eW.slice (I:=I) sz false [] b o cap (λ_ _=>.nilIface) cb (eV _) (λi r e=>by simp at e) (λi r k v e=>by simp at e) (λi r k v e=>by simp at e)
def qDq{sz:Nat}{tight:Bool}{rows:List (List bL)}{v:Value}(hp:eW I (.slice sz tight rows) v):∃ A cap,v = .slice (some A) rows.length cap/\rows.length<=cap/\(tight=true->cap=rows.length):=by
 cases hp with|emp _ _ A cap ht=>(exact⟨A,cap,rfl,eV _,ht⟩)|slice _ _ _ b o cap cv ht hc hs hI hv=>exact⟨_,cap,rfl,hc,ht⟩
def qSl{sz:Nat}{tight:Bool}{rows:List (List bL)}{b o n cap:Nat}(hp:eW I (.slice sz tight rows) (.slice (some ⟨b,o,none⟩) n cap)):n=rows.length/\∃ cv:Nat->Nat->Value,(tight=true->cap=rows.length)/\rows.length<=cap/\(∀ (i:Nat) r,rows[i]?=some r->r.length=sz) /\
  (∀ (i:Nat) r (k:Nat) v,rows[i]?=some r->r[k]?=some v->I.cell b (o+i*sz+k)=some (cv i k))/\(∀ (i:Nat) r (k:Nat) v,rows[i]?=some r->r[k]?=some v->eW I v (cv i k)):=by
 cases hp with
 |emp _ _ _ _ ht=>exact⟨rfl,λ_ _=>.nilIface,ht,eV _,λi r e=>by simp at e,λi r k v e=>by simp at e,λi r k v e=>by simp at e⟩
 |slice _ _ _ _ _ _ cv ht hc hs hI hv=>exact⟨rfl,cv,ht,hc,hs,hI,hv⟩
def Vp{ty e:TypeId}(hu:P.underlying ty=some (.slice e)){sz:Nat}(hn:iw P e=some sz){ad:Option Addr}{len cap:Nat}{lo hi mx:Option Nat}{A M U:Option Value}(h1:lv lo A)(h2:lv hi M)(h3:lv mx U)
  (hm:mx.getD cap<=cap) (hh:hi.getD len<=mx.getD cap) (hl:lo.getD 0<=hi.getD len) (aa:mx.isSome=true->hi.isSome=true) :
  (Instr.sliceAt ty (.slice ad len cap) A M U).run P w =
   .ok (.slice (if mx.getD cap=lo.getD 0 then ad else ad.map (·.add (lo.getD 0*sz))) (hi.getD len - lo.getD 0) (mx.getD cap - lo.getD 0)) w:=by
 simp[Instr.sliceAt,Instr.slice,run_underlying hu,qE4 h1 h2 h3 hm hh hl aa,FW hn]
def qNv{sz:Nat}{tight:Bool}{M A:Addr}{n cap:Nat}{rows:List (List bL)}(h:eW I (.slice sz tight rows) (.slice (some M) n cap))(U:rows=[]):eW I (.slice sz tight rows) (.slice (some A) n cap):=by
 subst U;cases h with|emp _ _ _ _ ht=>(exact .emp _ _ _ _ ht)|slice _ _ _ _ _ _ cv k1 k2 k3 k4 k5 =>
 exact .emp _ _ _ _ k1
def qLV{t:Bool}{A n l cap:Nat}{mx:Option Nat}(h1:t=true->mx.getD cap=A)(h:jm t A mx=true):mx.getD cap - l=A - l:=by
 cases mx with
 |none=>have:=h1 h; omega
 |some m=>simp[jm] at h; simp; omega
def qII{ty e:TypeId}(hu:P.underlying ty=some (.slice e)){sz:Nat}(hn:iw P e=some sz){tight t2:Bool}{rows:List (List bL)}{xv:Value}(hp:eW I (.slice sz tight rows) xv){lo hi mx:Option Nat}{A M U:Option Value}
  (h1:lv lo A) (h2:lv hi M) (h3:lv mx U) (aa:mx.isSome=true->hi.isSome=true)
  (hc:lo.getD 0<=hi.getD rows.length/\hi.getD rows.length<=mx.getD rows.length/\mx.getD rows.length<=rows.length) (ab:t2=true->tight=true/\hi.getD rows.length=rows.length) :
  ∃ cv,(Instr.sliceAt ty xv A M U).run P w = .ok cv w/\eW I (.slice sz (jm t2 (hi.getD rows.length) mx) ((rows.take (hi.getD rows.length)).drop (lo.getD 0))) cv:=by
 obtain⟨ad,cap,rfl,ae,ht⟩:=qDq hp;have hm:mx.getD cap<=cap:=by cases mx <;> simp at hc ⊢; omega
 have hh:hi.getD rows.length<=mx.getD cap:=by cases mx <;> simp at hc ⊢ <;> omega
 refine⟨_,Vp hu hn h1 h2 h3 hm hh hc.1 aa,?_⟩;have key:=qKO hp (lo.getD 0) (hi.getD rows.length) (mx.getD cap - lo.getD 0) hc.1 bn bn (tight':=jm t2 (hi.getD rows.length) mx)
  (λe=>by
   cases mx with
   |none=>obtain⟨x1,x2⟩:=ab e; have:=ht x1; simp only[yX]; omega
   |some m=>exact qLV (t:=t2) (n:=0) (λ_=>by simp[jm] at e; simp[e]) e)
 by_cases hz:mx.getD cap=lo.getD 0
 ·rw[bF hz];exact qNv key (Fa cM)
 ·rw[bA hz]; simpa only[iO] using key
def qQ5{ty e:TypeId}(hu:P.underlying ty=some (.slice e)){sz:Nat}(hn:iw P e=some sz){rows:List (List bL)}{r:Ref}{xv:Value}(hx:cD ρ I (.gm sz rows r) xv){lo hi:Option Nat}{M U:Option Value}
  (h1:lv lo M) (h2:lv hi U) (hh:hi.getD rows.length=rows.length) (hl:lo.getD 0<rows.length) :
  ∃ cv,(Instr.sliceAt ty xv M U none).run P w = .ok cv w/\cD ρ I (.gm sz (rows.drop (lo.getD 0)) r) cv:=by
 cases hx with|gm _ _ _ b o cap l hp he hb ho ht =>
 obtain⟨_,_,heq,aa,_⟩:=qDq hp;have A:rows.length<=cap:=by cases heq; exact aa
 refine⟨_,Vp hu hn h1 h2 (show lv none none from trivial) bR cM bn bR,?_⟩;simp only[yX];rw[hh,bA bn];have hd:(rows.take rows.length).drop (lo.getD 0)=rows.drop (lo.getD 0):=by rw[tb]
 have key:=qKO hp (lo.getD 0) rows.length (cap - lo.getD 0) bn (cB _) bn (tight':=false) cb;rw[hd,Ce] at key;have ab:(rows.drop (lo.getD 0)).length=rows.length - lo.getD 0:=bR
 rw[<- ab] at key ⊢;have ad:(rows.drop (lo.getD 0)).length*sz=rows.length*sz - lo.getD 0*sz:=by rw[ab,E7]
 have ae:lo.getD 0*sz<=rows.length*sz:=nc _ bn;have af:(cap - lo.getD 0)*sz=cap*sz - lo.getD 0*sz:=E7 _ _ _;have ag:rows.length*sz<=cap*sz:=nc _ A
 simpa only[iO,Ce] using cD.gm sz (rows.drop (lo.getD 0)) r b (o+lo.getD 0*sz) (cap - lo.getD 0) l key he hb bn bn
def qIA{ty e:TypeId}(hu:P.underlying ty=some (.slice e)){sz:Nat}(hn:iw P e=some sz){off len:Nat}{cap:Option Nat}{r:Ref}{xv:Value}(hx:cD ρ I (.cf r off len cap sz) xv){lo hi mx:Option Nat}{M U aa:Option Value}
  (h1:lv lo M) (h2:lv hi U) (h3:lv mx aa) (ab:mx.isSome=true->hi.isSome=true) (hc:lo.getD 0<=hi.getD len/\hi.getD len<=mx.getD (cap.getD len)/\mx.getD (cap.getD len)<=cap.getD len) (hz:lo.getD 0=0\/lo.getD 0<mx.getD (cap.getD len)) (c2:Option Nat)
  (ad:∀ c cc,c2=some c->(∀ c,cap=some c->cc=c)->c=mx.getD cc - lo.getD 0) :
  ∃ cv,(Instr.sliceAt ty xv M U aa).run P w = .ok cv w/\cD ρ I (.cf r (off+lo.getD 0*sz) (hi.getD len - lo.getD 0) c2 sz) cv:=by
 cases hx with|cf _ _ _ _ _ cc l hl a1 a2 a3 =>
 have af:cap.getD len<=cc:=by
  cases cap with
  |none=>exact a1
  |some c=>have:=a3 c rfl; simp; omega
 have hm:mx.getD cc<=cc:=by cases mx <;> simp at hc ⊢; omega
 have hh:hi.getD len<=mx.getD cc:=by cases mx <;> simp at hc ⊢ <;> omega
 refine⟨_,Vp hu hn h1 h2 h3 hm hh hc.1 ab,?_⟩;have ag:(mx.getD cc - lo.getD 0)*sz=mx.getD cc*sz - lo.getD 0*sz:=E7 _ _ _;have ah:lo.getD 0*sz<=mx.getD cc*sz:=nc _ bn;have ai:mx.getD cc*sz<=cc*sz:=nc _ hm;have key:=cD.cf (ρ:=ρ) (I:=I) r (off+lo.getD 0*sz) (hi.getD len - lo.getD 0) c2 sz (mx.getD cc - lo.getD 0) l hl bn bn (λc e=>(ad c cc e a3).symm);by_cases A:mx.getD cc=lo.getD 0
 ·have ae:lo.getD 0=0:=by
   rcases hz with hz|hz
   ·exact hz
   ·cases mx <;> simp at hz A <;> omega
  rw[bF A];rw[ae] at key ⊢
  simpa using key
 ·rw[bA A]
  simpa only[iO,Ce,n5] using key
def qMB{ty e:TypeId}(hu:P.underlying ty=some (.slice e)){sz:Nat}(hn:iw P e=some sz){off len:Nat}{cap:Option Nat}{r:Ref}{U:Value}(hx:cD ρ I (.cf r off len cap sz) U){lo hi:Option Nat}{A M:Option Value}
  (h1:lv lo A) (h2:lv hi M) (hh:hi.getD len=lo.getD 0) (hle:hi.getD len<=len):∃ cv,(Instr.sliceAt ty U A M none).run P w = .ok cv w/\eW I (.slice sz false []) cv:=by
 cases hx with|cf _ _ _ _ _ cc l hl a1 a2 a3 =>
 refine⟨_,Vp hu hn h1 h2 (show lv none none from trivial) bR cM bn bR,?_⟩;have e1:hi.getD len - lo.getD 0=0:=bn
 rw[e1];split
 ·exact qIx _ _ _
 ·simp only[iO,Ce]; exact qIx _ _ _
def qOA{ty e:TypeId}(hu:P.underlying ty=some (.slice e)){sz:Nat}(hn:iw P e=some sz){x c:Cell}{xv:Value}(hx:cD ρ I x xv){lo hi mx:Option Nat}{aa ab U:Option Value}(h1:lv lo aa)(h2:lv hi ab)(h3:lv mx U)
  (hv:fW sz false x lo hi mx=some c):∃ cv,(Instr.sliceAt ty xv aa ab U).run P w = .ok cv w/\cD ρ I c cv:=by
 unfold fW at hv;simp only at hv;split at hv
 ·cases hv
 rename_i ad;have A:mx.isSome=true->hi.isSome=true:=by
  intro h0; cases hi with
  |none=>simp[h0] at ad
  |some _=>rfl
 have M:mx.isNone=true->mx=none/\U=none:=by
  intro h0;cases mx with
  |none=>cases U with
   |none=>exact⟨rfl,rfl⟩
   |some _=>exact h3.elim
  |some _=>cases h0
 simp only[gh,fC] at hv;split at hv
 ·split at hv
  ·rename_i hc;cases hv;cases hx with|p _ _ hp =>
   cases hp;have af:mx.getD 0<=0:=bn
   refine⟨.slice none 0 0,?_,.p _ _ .bq⟩;rw[Vp hu hn h1 h2 h3 af bn bn A];simp[hc.1,hc.2.1,hc.2.2]
  ·cases hv
 ·rename_i aj tight rows;split at hv
  ·rename_i hc;obtain⟨rfl,hc⟩:=hc;cases hv;cases hx with|p _ _ hp =>
   obtain⟨cv,r1,r2⟩:=qII (P:=P) (w:=w) hu hn hp h1 h2 h3 A hc (t2:=tight&&hi.getD rows.length==rows.length) (λe=>by simpa using e);exact⟨cv,r1,.p _ _ r2⟩
  ·cases hv
 ·split at hv
  ·rename_i hc;obtain⟨rfl,hc⟩:=hc;split at hv
   ·rename_i ag;cases hv;obtain⟨ah,ai,ak⟩:=ag;obtain⟨rfl,rfl⟩:=M ah;exact qQ5 hu hn hx h1 h2 ai bn
   ·cases hv;cases hx with|gm _ _ _ b o cap l hp he hb ho ht =>
    obtain⟨cv,r1,r2⟩:=qII (P:=P) (w:=w) hu hn hp h1 h2 h3 A hc (t2:=false) cb;exact⟨cv,r1,.p _ _ r2⟩
  ·cases hv
 ·split at hv
  ·rename_i kJ;subst kJ;split at hv
   ·rename_i hc;cases hv;obtain⟨rfl,rfl⟩:=M hc.2.2.1;obtain⟨cv,r1,r2⟩:=qMB (P:=P) (w:=w) hu hn hx h1 h2 hc.1 hc.2.1;exact⟨cv,r1,.p _ _ r2⟩
   ·split at hv
    ·split at hv
     ·rename_i hc;cases hv
      exact qIA hu hn hx h1 h2 h3 A ⟨hc.1,hc.2.1,cB _⟩ hc.2.2 _ (λc cc e ae=>by
       rename_i cap _ _ _;cases cap with
       |none=>cases e
       |some c'=>simp at e; have:=ae c' rfl; simp; omega)
     ·cases hv
    ·rename_i m;split at hv
     ·rename_i hc;cases hv;exact qIA hu hn hx h1 h2 h3 A ⟨hc.1,hc.2.1,hc.2.2.1⟩ (.inr hc.2.2.2) _ (λc cc e ae=>by cases e; rfl)
     ·cases hv
  ·cases hv
 ·cases hv
def qP2{ty:TypeId}(hu:P.underlying ty=some .string){x c:Cell}{xv:Value}(hx:cD ρ I x xv){lo hi mx:Option Nat}{M U A:Option Value}(h1:lv lo M)(h2:lv hi U)(h3:lv mx A)
  (hv:fW 0 true x lo hi mx=some c):∃ cv,(Instr.sliceAt ty xv M U A).run P w = .ok cv w/\cD ρ I c cv:=by
 unfold fW at hv;simp only at hv;split at hv
 ·cases hv
 rename_i ad;simp only[fx] at hv;split at hv
 ·split at hv
  ·rename_i s hc;cases hv;obtain⟨aa,hl,hh⟩:=hc;have ab:mx=none/\A=none:=by
    cases mx with
    |none=>cases A with
     |none=>exact⟨rfl,rfl⟩
     |some _=>exact h3.elim
    |some _=>cases aa
   obtain⟨rfl,rfl⟩:=ab;cases hx with|p _ _ hp =>
   cases hp with|str _ b e =>
   have hlen:s.length=b.size:=by rw[<- e]; simp
   have hb:=qE4 (P:=P) (w:=w) (isSlice:=false) (len:=b.size) (cap:=b.size) h1 h2 (show lv none none from trivial) bR (by simp only[yX]; rw[<- hlen]; exact hh) (by rw[<- hlen]; exact hl) bR;refine⟨.string (b.extract (lo.getD 0) (hi.getD b.size)),?_,.p _ _ (.str _ _ ?_)⟩
   ·simp only[yX] at hb;simp[Instr.sliceAt,Instr.slice,run_underlying hu,hb]
   ·rw[hlen,<- e,ByteArray.data_extract];simp[Lr,rR]
  ·cases hv
 ·cases hv
def qJK{ty:TypeId}{x:Operand}{lo hi mx:Option Operand}(C:iZ P G ρ I h w tm a)(ho:o.op = .slice ty x lo hi mx){sz:Nat}{str:Bool}
  (hk:(str=true/\sz=0/\P.underlying ty=some .string)\/(str=false/\∃ e,P.underlying ty=some (.slice e)/\iw P e=some sz)) {x':X} {M U aa:Option X} (hx:cG G x=some x') (h1:r9 G lo=some M) (h2:r9 G hi=some U) (h3:r9 G mx=some aa)
  {p:cA} (hp:cH tm (.slice sz str x' M U aa)=some p) (hg:p.iL d h=some (v,h',t)):fy ρ I h w ((execOp a.eval o).run P w) v h':=by
 simp only[cH] at hp;split at hp
 ·rename_i c l hh m e1 e2 e3 e4;obtain⟨cc,hc,rfl⟩:=Su (f:=λc=>.v (.c c)) hp;have r1:=qDh C h1 e2;have r2:=qDh C h2 e3;have r3:=qDh C h3 e4;have A:=qz (C.ev hx e1);have main:∃ cv,(Instr.sliceAt ty (a.eval x) (lo.map a.eval) (hi.map a.eval) (mx.map a.eval)).run P w = .ok cv w/\cD ρ I cc cv:=by
   rcases hk with ⟨rfl,rfl,hu⟩|⟨rfl,e,hu,hn⟩
   ·exact qP2 hu A r1 r2 r3 hc
   ·exact qOA hu hn A r1 r2 r3 hc
  obtain⟨cv,s1,s2⟩:=main;refine q9 C hg (cv:=cv) ?_ s2;unfold execOp; rw[ho];simp[s1]
 ·cases hp
end
end Go.AI
namespace Go.AI
variable [Sym]
section
variable {P:Program} {G:Nat->Option (List bL)} {ρ:Env} {I:eK} {h:bm} {w:World} {tm:TM bt} {a:Act}
variable {heap:Nat->Bool} {d:Nat} {v:bt} {h':bm} {t:Touch} {o:Oper}
end
end Go.AI
namespace Go.AI
variable [Sym]
section
variable {P:Program} {G:Nat->Option (List bL)} {ρ:Env} {I:eK} {h:bm} {w:World} {tm:TM bt} {a:Act}
variable {heap:Nat->Bool} {d:Nat} {v:bt} {h':bm} {t:Touch} {o:Oper}
def qF5{r:Ref}{x obj:bG}{l:Loc}{c:Obj}(H:eC ρ I h w)(hr:h.get r=some x)(U:ρ r=some l)(hx:∃ M,w.heap[l.fg]?=some M/\(∀ a b c,M ≠ .cells a b c))
  (A:∀ w':World,w'.heap[l.fg]?=some c->iH ρ I w' l obj) :
  let w':World:={ w with heap:=w.heap.setIfInBounds l.fg c }
  eC ρ I (h.put r obj) w'/\Good ρ I h w ρ I (h.put r obj) w':=by
 intro w';obtain⟨M,h0,h1⟩:=hx;have aa:l.fg<w.heap.size:=(vd.1 h0).1;have hc:w'.heap[l.fg]?=some c:=by show(w.heap.setIfInBounds l.fg c)[l.fg]?=_; rw[Array.getElem?_setIfInBounds_self_of_lt aa]
 refine UR H hr U (λb hb=>?_) (by show _<=(w.heap.setIfInBounds l.fg c).size; simp) ⟨rfl,rfl,rfl⟩ (λk v e=>?_) (A _ hc)
 ·show(w.heap.setIfInBounds l.fg c)[b]?=_; rw[BN (oC hb)]
 ·have:=H.gQ _ _ _ e;exfalso;simp only[World.cell?,h0] at this;cases M <;> simp_all
def qOb{ty:TypeId}{x:Operand}(C:iZ P G ρ I h w tm a)(hd:d+1<1048576)(ho:o.op = .range ty x)(hu:P.underlying ty=some .string){A:X}(hx:cG G x=some A){p:cA}(hp:cH tm (.ng A)=some p)(M:p.iL d h=some (v,h',t)) :
  fy ρ I h w ((execOp a.eval o).run P w) v h':=by
 simp only[cH] at hp;split at hp
 ·rename_i s h1;simp only[rJ] at hp;subst hp;obtain⟨rfl,rfl⟩:=Vn M;obtain⟨b,e,hs⟩:=Yr (C.ev hx h1);have U:(execOp a.eval o).run P w = .ok (.value (.pointer (some ⟨w.heap.size,0,none⟩))) (w.alloc (.stringIter b 0)):=by
   unfold execOp; rw[ho]; simp[Instr.range,run_underlying hu,e]
  obtain⟨dL,e1,e2,e3⟩:=XK (w':=w.alloc (.stringIter b 0)) C.heap (nu.refl h) hd (.gO s 0) false ⟨w.heap.size,0,0⟩ rfl (λb hb=>by show(w.heap.push _)[b]?=_; rw[wv,bA hb]) bR ⟨rfl,rfl,rfl⟩ (eK.le_refl _) (λ_ _ _ e _=>e)
   (λk v e=>absurd (Se (C.heap.gQ _ _ _ e)) bR) rfl (λdL hle=>⟨b,by show(w.heap.push _)[_]?=_; simp,hs,rfl⟩)
  exact⟨_,dL,I,.inl ⟨_,U,cD.ptr _ 0 _ e1⟩,e2,e3⟩
 ·cases hp
def qPM{x:Operand}(C:iZ P G ρ I h w tm a)(ho:o.op = .next x true){x':X}(hx:cG G x=some x'){p:cA}(hp:cH tm (.mD x')=some p)(hg:p.iL d h=some (v,h',t)) :
  fy ρ I h w ((execOp a.eval o).run P w) v h':=by
 simp only[cH] at hp;split at hp
 ·rename_i r h1;simp only[rJ] at hp;subst hp;obtain⟨ob,ag,q1,M,rfl⟩:=qE2 hg;obtain⟨l,hl,hv⟩:=Sd (C.ev hx h1);split at M
  ·rename_i s pos;obtain⟨l',e',ad⟩:=C.heap.live r _ q1;rw[hl] at e'; cases e';obtain⟨b,hb,hs,A⟩:=ad;have ae:s.length=b.size:=by rw[<- hs]; simp
   have U:mj s pos=Utf8.decode b pos:=by unfold mj; rw[<- hs]
   rw[A] at hv;split at M
   ·rename_i ah;simp only[rJ,fB] at M;obtain⟨rfl,rfl⟩:=M;obtain⟨s1,s2⟩:=qF5 (c:=.stringIter b (pos+(Utf8.decode b pos).2)) (obj:=.gO s (pos+(mj s pos).2)) C.heap q1 hl ⟨_,hb,bR⟩ (λw' af=>⟨b,by rw[af,U],hs,A⟩);refine⟨_,ρ,I,.inl ⟨.tuple #[.bool true,.int .i64 pos,.int .i32 (Utf8.decode b pos).1],?_,_,rfl,cD.p _ _ (.bool _),cD.p _ _ (.int _ _),?_,bB⟩,s1,s2⟩
    ·have aa:pos<b.size:=bn
     unfold execOp; rw[ho];simp[Instr.next,hv,getObj,Sem.run,hb,aa,setObj,goInt]
    ·rw[U]; exact cD.p _ _ (.int _ _)
   ·rename_i ai;simp only[rJ,fB] at M;obtain⟨rfl,rfl⟩:=M
    obtain⟨s1,s2⟩:=UR (w':=w) (obj:=.gO s pos) C.heap q1 hl (λ_ _=>rfl) (cB _) ⟨rfl,rfl,rfl⟩ (λk v e=>by
     have:=C.heap.gQ _ _ _ e
     simp[World.cell?,hb] at this) ⟨b,hb,hs,A⟩
    refine⟨_,ρ,I,.inl ⟨.tuple #[.bool false],?_,_,rfl,cD.p _ _ (.bool _),bB⟩,s1,s2⟩;have ab:¬ pos<b.size:=bn
    unfold execOp; rw[ho];simp[Instr.next,hv,getObj,Sem.run,hb,ab]
  ·cases M
 ·cases hp
end
end Go.AI
namespace Go.AI
variable [Sym]
section
variable {P:Program} {G:Nat->Option (List bL)} {ρ:Env} {I:eK} {h:bm} {w:World} {tm:TM bt} {a:Act}
variable {heap:Nat->Bool} {d:Nat} {v:bt} {h':bm} {t:Touch} {o:Oper}
def qTS(off:Nat):∀ (l:List Value) (i:Nat) (cs:Array Value),off+i+l.length<=cs.size ->
  ((l.zipIdx i).foldl (λcs p=>cs.setIfInBounds (off+p.2) p.1) cs).size=cs.size /\
  ∀ k,((l.zipIdx i).foldl (λcs p=>cs.setIfInBounds (off+p.2) p.1) cs)[k]?=if off+i<=k/\k<off+i+l.length then l[k - (off+i)]? else cs[k]?:=by
 intro l
 induction l with
 |nil=>intro i cs _; exact⟨rfl,λk=>by rw[bA (by simp only[fm]; omega)]; rfl⟩
 |cons x l M =>
  intro i cs hs;simp only[di] at hs;simp only[List.zipIdx_cons,List.foldl_cons];obtain⟨h1,U⟩:=M (i+1) (cs.setIfInBounds (off+i) x) cM;refine⟨by rw[h1]; simp,λk=>?_⟩;rw[U k];simp only[di];by_cases hk:k=off+i
  ·subst hk;rw[bA bn,bF bn];simp[show off+i<cs.size by omega]
  ·by_cases A:off+(i+1)<=k/\k<off+(i+1)+l.length
   ·rw[bF A,bF bn,show k - (off+i)=(k - (off+(i+1)))+1 by omega];simp
   ·rw[bA A,bA bn,BN bn]
def qGm{place:Nat->Option (Nat×Nat)}:∀ {ps:List (Nat×Nat×cN)}{parts:List (Nat×Value)}{cells cs:List Cell}{arr:Array Value},
  cS (cD ρ I) cells arr.toList->cS (λp q=>place q.1=some (p.1,p.2.1)/\dV ρ I p.2.2 q.2) ps parts->iu cells ps=some cs->∃ gK,Instr.fill place arr parts=some gK/\cS (cD ρ I) cs gK.toList:=by
 intro ps
 induction ps with
 |nil =>
  intro parts cells cs arr hc hp A;cases parts with
  |nil=>simp[iu] at A; subst A; exact⟨arr,rfl,hc⟩
  |cons _ _=>exact hp.elim
 |cons p ps ih =>
  intro parts cells cs arr hc hp A;cases parts with
  |nil=>exact hp.elim
  |cons q parts =>
   obtain⟨off,size,x⟩:=p;obtain⟨i,xv⟩:=q;obtain⟨⟨ad,hx⟩,M⟩:=hp;unfold iu at A;split at A
   ·rename_i ae;have af:=hx.cells.length;have aa:=hc.length;simp only[wq] at af aa;obtain⟨s1,s2⟩:=qTS off xv.cells.toList 0 arr cM;have ab:cS (cD ρ I) (eY cells off x.cells) ((xv.cells.toList.zipIdx 0).foldl (λcs p=>cs.setIfInBounds (off+p.2) p.1) arr).toList:=by
     refine cS.og (by rw[qDP _ _ _ bn]; simp only[wq,s1]; exact aa) λk c u e1 U=>?_
     rw[qHb _ _ _ bn] at e1;rw[Lq,s2 k] at U;simp only[wq,gH] at U;by_cases hk:off<=k/\k<off+x.cells.length
     ·rw[bF hk] at e1;rw[bF bn] at U;obtain⟨u',f1,f2⟩:=hx.cells.get _ _ e1;rw[f1] at U; cases U; exact f2
     ·rw[bA hk] at e1;rw[bA bn] at U;obtain⟨u',f1,f2⟩:=hc.get _ _ e1;rw[Lq,U] at f1; cases f1; exact f2
    obtain⟨gK,g1,g2⟩:=ih ab M A;refine⟨gK,?_,g2⟩;unfold Instr.fill;rw[ad];dsimp only;rw[bA cM];rw[<- g1]
    congr 1
    rw[<- Array.foldl_toList,Array.toList_zipIdx]
   ·cases A
def qJE{α:Type}(C:iZ P G ρ I h w tm a){f:α->Option (Nat×Nat×X)}{place:Nat->Option (Nat×Nat)}{parts:List α}{idx':α->Nat}{opd:α->Operand}
  (hf:∀ p off sz x,f p=some (off,sz,x)->place (idx' p)=some (off,sz)/\cG G (opd p)=some x) {ps:List (Nat×Nat×X)} (A:parts.mapM f=some ps) {qs:List (Nat×Nat×cN)}
  (M:ps.mapM (λp=>match p.2.2.ev tm with|some (.v v)=>some (p.1,p.2.1,v)|_=>none)=some qs) :
  cS (λp (q:Nat×Value)=>place q.1=some (p.1,p.2.1)/\dV ρ I p.2.2 q.2) qs (parts.map λp=>(idx' p,a.eval (opd p))):=by
 have h1:=wc A;have U:=wc M;clear A M
 induction parts generalizing ps qs with
 |nil=>cases ps with
  |nil=>cases qs with
   |nil=>trivial
   |cons _ _=>exact U.elim
  |cons _ _=>exact h1.elim
 |cons p parts ih =>
  cases ps with
  |nil=>exact h1.elim
  |cons q ps=>cases qs with
   |nil=>exact U.elim
   |cons r qs =>
    obtain⟨off,sz,x⟩:=q;obtain⟨a1,a2⟩:=hf p off sz x h1.1;refine⟨?_,ih h1.2 U.2⟩;have h3:=U.1;simp only at h3;split at h3
    ·rename_i v hv;cases h3;exact⟨a1,C.ev a2 hv⟩
    ·cases h3
def qHF{ty:TypeId}{parts:Array (Nat×Operand)}{fields:Array Field}{places:List (Nat×Nat)}(C:iZ P G ρ I h w tm a)(ho:o.op = .build ty parts){z:cN}(hz:eQ P ty=some z)(hu:P.underlying ty=some (.struct fields))
  (A:fields.toList.mapM (λf=>(P.info? f.type).map λi=>(f.offset,i.size))=some places) {ps:List (Nat×Nat×X)}
  (M:parts.toList.mapM (λp=>(do let q <- places[p.1]?; pure (q.1,q.2,<- cG G p.2):Option (Nat×Nat×X)))=some ps) {p:cA} (hp:cH tm (.build z.cells ps)=some p) (hg:p.iL d h=some (v,h',t)):fy ρ I h w ((execOp a.eval o).run P w) v h':=by
 obtain⟨inf,zv,z1,z2,z3⟩:=kM hz;have U:dV ρ I z zv:=OD z3;simp only[cH,rL,rK] at hp;obtain⟨qs,aa,cs,ab,e⟩:=hp;simp only[rM,rJ] at e;subst e;have ad:=qJE C (f:=λp=>(do let q <- places[p.1]?; pure (q.1,q.2,<- cG G p.2):Option (Nat×Nat×X))) (place:=(places.toArray[·]?)) (idx':=λp:Nat×Operand=>p.1) (opd:=λp=>p.2)
  (λp off sz x e=>by
   simp only[rL,rK,rM,rJ,fB] at e;obtain⟨q,e1,y,e2,e3,e4,e5⟩:=e;subst e3 e4 e5
   exact⟨by simpa using e1,e2⟩) M aa
 obtain⟨gK,f1,f2⟩:=qGm U.cells ad ab;have hb:P.built ty ((parts.map λ(i,x)=>(i,a.eval x)).toList)=some gK:=by
  unfold Program.built;simp only[z1,hu,z2,A];rw[<- f1]
  congr 1
  simp
 refine q9 C hg (cv:=.agg gK) ?_ ⟨gK,rfl,f2⟩;unfold execOp; rw[ho];simp[run_build w ty _ gK hb]
def qH6{ty e:TypeId}{n sz:Nat}{parts:Array (Nat×Operand)}(C:iZ P G ρ I h w tm a)(ho:o.op = .build ty parts){z:cN}(hz:eQ P ty=some z)(hu:P.underlying ty=some (.array n e))
  (hn:iw P e=some sz) {ps:List (Nat×Nat×X)}
  (A:parts.toList.mapM (λp=>(do pure (p.1*sz,sz,<- cG G p.2):Option (Nat×Nat×X)))=some ps) {p:cA} (hp:cH tm (.build z.cells ps)=some p) (hg:p.iL d h=some (v,h',t)):fy ρ I h w ((execOp a.eval o).run P w) v h':=by
 obtain⟨inf,zv,z1,z2,z3⟩:=kM hz;obtain⟨ie,e1,M⟩:=qNt hn;have U:dV ρ I z zv:=OD z3;simp only[cH,rL,rK] at hp;obtain⟨qs,aa,cs,ab,e⟩:=hp;simp only[rM,rJ] at e;subst e;have ad:=qJE C (f:=λp=>(do pure (p.1*sz,sz,<- cG G p.2):Option (Nat×Nat×X))) (place:=λi=>some (i*sz,sz)) (idx':=λp:Nat×Operand=>p.1) (opd:=λp=>p.2)
  (λp off s x e=>by
   simp only[rL,rK,rM,rJ,fB] at e;obtain⟨y,M,e3,e4,e5⟩:=e;subst e3 e4 e5
   exact⟨rfl,M⟩) A aa
 obtain⟨gK,f1,f2⟩:=qGm (place:=λi=>some (i*sz,sz)) U.cells ad ab;have hb:P.built ty ((parts.map λ(i,x)=>(i,a.eval x)).toList)=some gK:=by
  unfold Program.built;simp only[z1,hu,z2,e1,M];rw[<- f1]
  congr 1
  simp
 refine q9 C hg (cv:=.agg gK) ?_ ⟨gK,rfl,f2⟩;unfold execOp; rw[ho];simp[run_build w ty _ gK hb]
def qS0:∀ {cs:List Cell}{r:List bL},tY cs=some r->r.length=cs.length/\∀ (k:Nat) v,r[k]?=some v->cs[k]?=some (.p v):=by
 intro cs r hr;have h1:=wc (f:=W0) hr;refine⟨h1.length.symm,λk v e=>?_⟩;have M:k<cs.length:=by have:=(cQ.1 e).1; have:=h1.length; omega
 obtain⟨y,U,A⟩:=h1.get k cs[k] (fQ M);rw[e] at U; cases U;rw[fQ M];unfold W0 at A;split at A
 ·rename_i u hu; rw[hu]; cases A; rfl
 ·cases A
def Yi{sz:Nat}:∀ (n:Nat) {cs:List Cell} {rows:List (List bL)},chunk sz n cs=some rows ->
  rows.length=n/\(∀ (i:Nat) r,rows[i]?=some r->r.length=sz)/\∀ (i:Nat) r (k:Nat) v,rows[i]?=some r->r[k]?=some v->cs[i*sz+k]?=some (.p v):=by
 intro n
 induction n with
 |zero=>intro cs rows hc; simp[chunk] at hc; subst hc; exact⟨rfl,λi r e=>by simp at e,λi r k v e=>by simp at e⟩
 |succ n ih =>
  intro cs rows hc;simp only[chunk,rL,rK] at hc;obtain⟨row,gY,hc⟩:=hc;split at hc
  ·rename_i hlen;obtain⟨rest,A,e⟩:=yZ.1 hc;simp only[rM,rJ] at e;subst e;obtain⟨a1,a2,a3⟩:=ih A;obtain⟨b1,b2⟩:=qS0 gY;refine⟨by simp[a1],λi r e=>?_,λi r k v M U=>?_⟩
   ·cases i with
    |zero=>simp at e; subst e; exact hlen
    |succ i=>exact a2 i r (by simpa using e)
   ·cases i with
    |zero =>
     simp at M; subst M;have:=b2 k v U;rw[nZ] at this;split at this
     ·simpa using this
     ·cases this
    |succ i =>
     have:=a3 i r k v (by simpa using M) U;rw[n6] at this;rw[show(i+1)*sz+k=sz+(i*sz+k) by rw[mH]; omega];exact this
  ·cases hc
def X0{J:eK}(hJ:I.le J){sz n:Nat}{cs:List Cell}{rows:List (List bL)}(hc:chunk sz n cs=some rows){eM:List Value}(hv:cS (cD ρ I) cs eM){b o cap:Nat}(hb:∀ (j:Nat) v,eM[j]?=some v->J.cell b (o+j)=some v)
  {tight:Bool} (A:n<=cap) (ht:tight=true->cap=n):eW J (.slice sz tight rows) (.slice (some ⟨b,o,none⟩) n cap):=by
 obtain⟨h1,h2,h3⟩:=Yi n hc;have key:=eW.slice (I:=J) sz tight rows b o cap (λi k=>eM.getD (i*sz+k) .nilIface) (λe=>by rw[h1]; exact ht e) (by rw[h1]; exact A) h2
  (λi r k v M U=>by
   obtain⟨u,f1,f2⟩:=hv.get _ _ (h3 i r k v M U);rw[show o+i*sz+k=o+(i*sz+k) by omega,hb _ _ f1]
   simp[f1])
  (λi r k v M U=>by
   obtain⟨u,f1,f2⟩:=hv.get _ _ (h3 i r k v M U);cases f2 with|p _ _ hp =>
   simp only[na,f1,oS]
   exact hp.mono hJ)
 rw[h1] at key;exact key
def mF(I:eK)(b lo hi:Nat)(f:Nat->Option Value):eK:={ cell:=λb' k=>if b'=b/\lo<=k/\k<hi then f k else I.cell b' k,map:=I.map }
def XY{b lo hi:Nat}{f:Nat->Option Value}(hn:∀ k,lo<=k->k<hi->I.cell b k=none):I.le (mF I b lo hi f):=by
 refine⟨λb' o v e=>?_,λb e x=>x⟩;show(if b'=b/\lo<=o/\o<hi then f o else I.cell b' o)=some v;by_cases hc:b'=b/\lo<=o/\o<hi
 ·obtain⟨rfl,h1,A⟩:=hc;rw[hn o h1 A] at e; cases e
 ·rw[bA hc]; exact e
def JP{b lo hi k:Nat}{f:Nat->Option Value}(h1:lo<=k)(A:k<hi):(mF I b lo hi f).cell b k=f k:=by
 show(if b=b/\lo<=k/\k<hi then f k else _)=_;rw[bF ⟨rfl,h1,A⟩]
def JV{b lo hi b' k:Nat}{f:Nat->Option Value}(h:¬ (b'=b/\lo<=k/\k<hi)):(mF I b lo hi f).cell b' k=I.cell b' k:=by
 show(if b'=b/\lo<=k/\k<hi then f k else _)=_;rw[bA h]
def qQq(H:eC ρ I h w){w':World}(hw:∀ b,b≠w.heap.size->w'.heap[b]?=w.heap[b]?)(kJ:w.heap.size<=w'.heap.size)(M:w'.os=w.os/\w'.tape=w.tape/\w'.output=w.output){I':eK}
  (hI:I.le I') (U:∀ b k v,I'.cell b k=some v->b≠w.heap.size->I.cell b k=some v) (ad:∀ k v,I'.cell w.heap.size k=some v->w'.cell? ⟨w.heap.size,k,none⟩=some v) (aa:I'.map=I.map) :
  eC ρ I' h w'/\Good ρ I h w ρ I' h w':=by
 have ab:∀ r o l,h.get r=some o->ρ r=some l->l.fg≠w.heap.size:=λr o l A hl e=>by have:=H.lt A hl; omega
 constructor
 ·refine⟨λr o A=>?_,H.inj,λb k v e=>?_,λb arr c e=>?_,λr o l A hl b k v e hb=>?_,λr o l A hl=>by rw[aa]; exact H.jW r o l A hl,H.fresh,H.jf⟩
  ·obtain⟨l,e,ho⟩:=H.live r o A;exact⟨l,e,(ho.mono (Env.le_refl _) hI).rl (hw _ (ab r o l A e))⟩
  ·by_cases hb:b=w.heap.size
   ·subst hb; exact ad k v e
   ·exact(qDO (hw b hb)).trans (H.gQ _ _ _ (U b k v e hb))
  ·rw[aa] at e;have:=H.sd b arr c e;have hb:b≠w.heap.size:=by have:=(vd.1 this).1; omega
   rw[hw b hb]; exact this
  ·exact H.apart r o l A hl b k v (U b k v e (by rw[hb]; exact ab r o l A hl)) hb
 ·exact⟨Env.le_refl _,hI,⟨M.1,M.2.1,M.2.2,kJ,λb hb _=>hw b bn⟩,λb hb=>.inl hb,λb k v e=>if hb:b=w.heap.size then .inr (.inr bn) else .inl (U b k v e hb),λb v e=>.inl (by rw[aa] at e; exact e)⟩
def qN7{ty e:TypeId}{n sz:Nat}{parts:Array (Nat×Operand)}(C:iZ P G ρ I h w tm a)(hd:d+1<1048576)(ho:o.op = .buildSlice ty n parts)(hu:P.underlying ty=some (.slice e))(hn:iw P e=some sz)(ao:sz≠0)(an:n*sz<=100000){z:cN}(hz:eQ P e=some z)(ae:z.cells.length=sz)
  {ps:List (Nat×X)} (af:parts.toList.mapM (λp=>(do pure (p.1,<- cG G p.2):Option (Nat×X)))=some ps) {ab:Bool} {p:cA} (hp:cH tm (.cm sz n z.cells ps ab)=some p) (hg:p.iL d h=some (v,h',t)):fy ρ I h w ((execOp a.eval o).run P w) v h':=by
 obtain⟨inf,zv,z1,z2,z3⟩:=kM hz;have ai:dV ρ I z zv:=OD z3;simp only[cH,rL,rK] at hp;obtain⟨qs,ag,cs,ad,hp⟩:=hp;have aj:cS (λp (q:Nat×Value)=>(some (q.1*sz,sz):Option (Nat×Nat))=some (p.1,p.2.1)/\dV ρ I p.2.2 q.2) qs (parts.toList.map λp=>(p.1,a.eval p.2)):=by
  have h1:=wc af;have h2:=wc ag;clear af ag ad hp;generalize parts.toList=pl at h1
  induction pl generalizing ps qs with
  |nil=>cases ps with
   |nil=>cases qs with
    |nil=>trivial
    |cons _ _=>exact h2.elim
   |cons _ _=>exact h1.elim
  |cons p pl ih =>
   cases ps with
   |nil=>exact h1.elim
   |cons q ps=>cases qs with
    |nil=>exact h2.elim
    |cons r qs =>
     refine⟨?_,ih _ h2.2 h1.2⟩;have h3:=h1.1;simp only[rL,rK,rM,rJ] at h3;obtain⟨x,e1,e2⟩:=h3;subst e2;have h4:=h2.1;simp only at h4;split at h4
     ·rename_i u ak;cases h4;exact⟨rfl,C.ev e1 ak⟩
     ·cases h4
 have ah:=qNR ai.cells bn n (n*sz) (by rw[ae]);obtain⟨gK,f1,f2⟩:=qGm (place:=λi=>some (i*sz,sz)) ah aj ad;have hlen:gK.size=n*sz:=by
  have e1:=f2.length;have e2:∀ (qs:List (Nat×Nat×cN)) (c c':List Cell),iu c qs=some c'->c'.length=c.length:=by
   intro qs
   induction qs with
   |nil=>intro c c' e; simp[iu] at e; rw[e]
   |cons q qs ih =>
    intro c c' e;unfold iu at e;split at e
    ·rename_i hc; rw[ih _ _ e,qDP _ _ _ bn]
    ·cases e
  have e3:=e2 _ _ _ ad;rw[qE8,ae] at e3;simp at e1; omega
 have hr:(execOp a.eval o).run P w = .ok (.value (.slice (some ⟨w.heap.size,0,none⟩) n n)) (w.alloc (.cells gK e)):=by
  have hb:¬ (n*sz>2 ^ 24):=bn
  have M:Instr.fill (λi=>some (i*sz,sz)) ((Array.range (n*sz)).map (zv.cells[· % zv.cells.size]!)) (parts.map λ(i,x)=>(i,a.eval x)).toList=some gK:=by
   rw[<- f1]; congr 1; simp
  unfold execOp; rw[ho];by_cases h0:n*sz=0
  ·have A:Instr.fill (λi=>some (i*sz,sz)) ((Array.range (n*sz)).map ((#[]:Array Value)[· % 0]!)) (parts.map λ(i,x)=>(i,a.eval x)).toList=some gK:=by
    rw[<- M]; congr 1; rw[h0]; apply Array.ext <;> simp
   simp only[yY] at A;simp[Instr.buildSlice,run_underlying hu,FW hn,h0,newRow] at A ⊢;rw[A]; simp
  ·simp only[yY] at M;simp[Instr.buildSlice,run_underlying hu,FW hn,h0,newRow,qBu z1 z2];rw[bA bn,M];simp
 split at hp
 ·rename_i rows U;simp only[rM,rJ] at hp;subst hp;obtain⟨rfl,rfl⟩:=qFY hg;have al:chunk sz n cs=some rows:=by
   cases ab <;> simp at U
   exact U
  have aa:∀ k,I.cell w.heap.size k=none:=λk=>by
   cases e:I.cell w.heap.size k with
   |none=>rfl
   |some v=>exact absurd (Se (C.heap.gQ _ _ _ e)) bR
  have hle:I.le (mF I w.heap.size 0 gK.size (gK[·]?)):=XY λk _ _=>aa k
  obtain⟨s1,s2⟩:=qQq (w':=w.alloc (.cells gK e)) C.heap (λb hb=>by show(w.heap.push _)[b]?=_; rw[wv,bA hb]) bR ⟨rfl,rfl,rfl⟩ hle
   (λb k v e' hb=>by rw[JV bn] at e'; exact e')
   (λk v e'=>by
    have hc:(w.alloc (.cells gK e)).heap[w.heap.size]?=some (.cells gK e):=by show(w.heap.push _)[_]?=_; simp
    by_cases hk:k<gK.size
    ·rw[JP (eV _) hk] at e';simp only[World.cell?,hc]; simpa using e'
    ·rw[JV bn,aa k] at e'; cases e') rfl
  refine⟨_,ρ,_,.inl ⟨_,hr,cD.p _ _ ?_⟩,s1,s2⟩
  exact X0 hle al f2 (λj u e'=>by
   have hj:j<gK.size:=by have:=(cQ.1 e').1; simpa using this
   rw[nY,JP (eV _) hj]
   simpa using e') (cB _) (λ_=>rfl)
 ·simp only[rM,rJ] at hp;subst hp;obtain⟨rfl,rfl⟩:=Vn hg;obtain⟨dL,e1,e2,e3⟩:=X7 (push:=ab) hd C.heap (w':=w.alloc (.cells gK e)) rfl ⟨rfl,rfl,rfl⟩ (JU f2).1 (JU f2).2;refine⟨_,dL,I,.inl ⟨_,hr,?_⟩,e2,e3⟩;exact cD.cf (ρ:=dL) (I:=I) _ 0 n (some n) sz n _ e1 (cB _) (by simp only; omega) (λc e=>by cases e; rfl)
def qME{ty e:TypeId}{l c:Operand}{sz by':Nat}{z:cN}(C:iZ P G ρ I h w tm a)(hd:d+1<1048576)(ho:o.op = .makeSlice ty l c)(hu:P.underlying ty=some (.slice e))(hn:iw P e=some sz)(au:sz≠0)(FY:pA P e=some by')
  (hz:eQ P e=some z) (af:z.cells.length=sz) {l' c':X} (hl:cG G l=some l') (hc:cG G c=some c') {pu:Bool} {p:cA} (hp:cH tm (.mU sz by' z.cells l' c' pu)=some p) (hg:p.iL d h=some (v,h',t)) :
  fy ρ I h w ((execOp a.eval o).run P w) v h':=by
 simp only[cH] at hp;split at hp
 ·rename_i U M h1 h2;split at hp
  ·rename_i ab;obtain⟨u1,a1,a2⟩:=Ob h1;obtain⟨u2,b1,b2⟩:=Ob h2;obtain⟨k1,e1⟩:=JH a2 (C.ev hl a1);obtain⟨k2,e2⟩:=JH b2 (C.ev hc b1);obtain⟨i,zv,z1,z2,z3⟩:=kM hz;have ag:=qR2 z1 FY;have ah:i.size=sz:=by unfold iw at hn; rw[z1] at hn; simpa using hn
   have ai:dV ρ I z zv:=OD z3;have aa:=qNR ai.cells bn M (M*sz) (by rw[af]);have w1:IntKind.i64.wrap (U:Int)=U:=qE1 _ bn;have w2:IntKind.i64.wrap (M:Int)=M:=qE1 _ bn;have hr:(execOp a.eval o).run P w = .ok (.value (.slice (some ⟨w.heap.size,0,none⟩) U M)) (w.alloc (.cells ((Array.range (M*sz)).map (zv.cells[· % zv.cells.size]!)) e)):=by
    have ae:¬ ((by':Int)*(M:Int)>2 ^ 48):=by
     have:((M*by':Nat):Int)<=2 ^ 40:=by exact_mod_cast ab.2.1
     rw[Int.natCast_mul] at this;rw[Int.mul_comm];omega
    have aj:¬ ((M:Int)<0):=bn
    have ak:¬ ((U:Int)<0):=bn
    have al:¬ ((U:Int)>(M:Int)):=bn
    have aw:((M:Int).toNat)=M:=bn
    unfold execOp; rw[ho];by_cases h0:M*sz=0
    ·have:M=0:=by rcases Nat.mul_eq_zero.1 h0 with h|h <;> omega
     subst this;have an:U=0:=bn
     subst an;have w0:IntKind.i64.wrap (0:Int)=0:=qE1 0 bn;simp only[Int.natCast_zero] at e1 e2;simp[Instr.makeSlice,run_underlying hu,e1,e2,asInt,asIntOf,typeInfo,z1,w0,sizeOf,newRow]
     congr 2
     apply Array.ext <;> simp
    ·simp[Instr.makeSlice,run_underlying hu,e1,e2,asInt,asIntOf,typeInfo,z1,w1,w2,sizeOf,ah,ag,newRow,aj,ak,al,zeroValue,z2,h0];intro hb;exact absurd hb (by have:=ae; omega)
   split at hp
   ·rename_i rows A;simp only[rJ] at hp;subst hp;obtain⟨rfl,rfl⟩:=qFY hg;have ao:pu=true/\U=M:=by
     cases pu
     ·cases A
     ·cases hb:Nat.beq U M
      ·rw[hb] at A; cases A
      ·exact⟨rfl,Fk hb⟩
    obtain⟨rfl,rfl⟩:=ao;have aq:chunk sz U (rep U z.cells)=some rows:=by
     have hb:Nat.beq U U=true:=Nat.beq_refl U;rw[hb] at A;exact A
    have ad:∀ k,I.cell w.heap.size k=none:=λk=>by
     cases e:I.cell w.heap.size k with
     |none=>rfl
     |some v=>exact absurd (Se (C.heap.gQ _ _ _ e)) bR
    generalize ar:(Array.range (U*sz)).map (zv.cells[· % zv.cells.size]!)=arr at hr aa;have hle:I.le (mF I w.heap.size 0 arr.size (arr[·]?)):=XY λk _ _=>ad k
    obtain⟨s1,s2⟩:=qQq (w':=w.alloc (.cells arr e)) C.heap (λb hb=>by show(w.heap.push _)[b]?=_; rw[wv,bA hb]) bR ⟨rfl,rfl,rfl⟩ hle
     (λb k v e' hb=>by rw[JV bn] at e'; exact e')
     (λk v e'=>by
      have hc:(w.alloc (.cells arr e)).heap[w.heap.size]?=some (.cells arr e):=by show(w.heap.push _)[_]?=_; simp
      by_cases hk:k<arr.size
      ·rw[JP (eV _) hk] at e';simp only[World.cell?,hc]; simpa using e'
      ·rw[JV bn,ad k] at e'; cases e') rfl
    refine⟨_,ρ,_,.inl ⟨_,hr,cD.p _ _ ?_⟩,s1,s2⟩
    exact X0 hle aq aa (λj u e'=>by
     have hj:j<arr.size:=by have:=(cQ.1 e').1; simpa using this
     rw[nY,JP (eV _) hj]
     simpa using e') (cB _) (λ_=>rfl)
   ·simp only[rJ] at hp;subst hp;obtain⟨rfl,rfl⟩:=Vn hg;obtain⟨dL,f1,f2,f3⟩:=X7 (push:=false) hd C.heap (w':=w.alloc (.cells ((Array.range (M*sz)).map (zv.cells[· % zv.cells.size]!)) e)) rfl ⟨rfl,rfl,rfl⟩ (JU aa).1 (JU aa).2;refine⟨_,dL,I,.inl ⟨_,hr,?_⟩,f2,f3⟩;have:=cD.cf (ρ:=dL) (I:=I) (place h h.bY.length (h.gen d) d (.cells (rep M z.cells) 0) false).1 0 U (some M) sz M _ f1 ab.1 bR (λc e=>by cases e; rfl);exact this
  ·cases hp
 ·cases hp
end
end Go.AI
namespace Go.AI
variable [Sym]
section
variable {P:Program} {G:Nat->Option (List bL)} {ρ:Env} {I:eK} {h:bm} {w:World} {tm:TM bt} {a:Act}
variable {heap:Nat->Bool} {d:Nat} {v:bt} {h':bm} {t:Touch} {o:Oper}
def XS{b off sz n len cap:Nat}{eM:List Value}(hl:eM.length=n*sz)(hc:∀ (j:Nat) v,eM[j]?=some v->w.cell? ⟨b,off+j,none⟩=some v){w':World}(hw:w'.heap=w.heap) :
  (Builtin.firstCells sz n (.slice (some ⟨b,off,none⟩) len cap)).run P w' = .ok eM.toArray w':=by
 unfold Builtin.firstCells;rw[<- hl];exact qDN eM λj v e=>by have:=hc j v e; simp only[World.cell?,hw] at this ⊢; exact this
def qFJ{A:Addr}{b off sz n len cap:Nat}{eM:List Value}(hl:eM.length=n*sz)(hc:∀ (j:Nat) v,eM[j]?=some v->w.cell? ⟨b,off+j,none⟩=some v)(he:n=0\/A=⟨b,off,none⟩){w':World}(hw:w'.heap=w.heap) :
  (Builtin.firstCells sz n (.slice (some A) len cap)).run P w' = .ok eM.toArray w':=by
 rcases he with rfl|rfl
 ·obtain rfl:eM=[]:=Fa (by simpa using hl);unfold Builtin.firstCells;rw[s9];exact qEV A
 ·exact XS hl hc hw
structure Src (P:Program) (w:World) (sz:Nat) (yv:Value) (n:Nat) (eM:List Value):Prop where
 len:eM.length=n*sz
 lenOf:∀ w',(Builtin.lenOf yv).run P w' = .ok n w'
 first:∀ m,m<=n->∀ w':World,w'.heap=w.heap->(Builtin.firstCells sz m yv).run P w' = .ok (eM.take (m*sz)).toArray w'
def qQv{b off sz n cap:Nat}{eM:List Value}(hl:eM.length=n*sz)(hc:∀ (j:Nat) v,eM[j]?=some v->w.cell? ⟨b,off+j,none⟩=some v):Src P w sz (.slice (some ⟨b,off,none⟩) n cap) n eM where
 len:=hl
 lenOf w':=rfl
 first m hm w' hw:=by
  have hlen:(eM.take (m*sz)).length=m*sz:=by
   rw[ji,hl];have:=nc sz hm;omega
  exact XS hlen (λj v e=>by
   rw[nZ] at e;split at e
   ·exact hc j v e
   ·cases e) hw
def qOu{A:Addr}{b off sz n cap:Nat}{eM:List Value}(hl:eM.length=n*sz)(hc:∀ (j:Nat) v,eM[j]?=some v->w.cell? ⟨b,off+j,none⟩=some v)(he:n=0\/A=⟨b,off,none⟩):Src P w sz (.slice (some A) n cap) n eM where
 len:=hl
 lenOf w':=rfl
 first m hm w' hw:=by
  have hlen:(eM.take (m*sz)).length=m*sz:=by
   rw[ji,hl];have:=nc sz hm;omega
  exact qFJ hlen (λj v e=>by
   rw[nZ] at e;split at e
   ·exact hc j v e
   ·cases e) (he.imp (λe=>bn) id) hw
def qFP(b:ByteArray):cS (cD ρ I) (byteCells b.data.toList) (b.data.map λx=>Value.int .u8 (x.toNat:Int)).toList:=by
 refine cS.og (by simp[byteCells]) λi c v A M=>?_
 simp only[byteCells,dP] at A;simp only[yY,dP] at M;cases hx:b.data.toList[i]? with
 |none=>rw[hx] at A; cases A
 |some x=>rw[hx] at A M; simp at A M; subst A M; exact .p _ _ (.int _ _)
def qO5{sz:Nat}{y:bt}{yv:Value}(hy:fq ρ I y yv)(H:eC ρ I h w){ob:Option bG}(ab:(∃ r x,jb y=some r/\h.get r=some x/\ob=some x)\/(jb y=none/\ob=none)){cs:List Cell}{n:Nat}(hs:gf sz y ob=some (cs,n)) :
  ∃ eM,cS (cD ρ I) cs eM/\Src P w sz yv n eM:=by
 have A:∀ {tight:Bool}{rows:List (List bL)}{b o cap:Nat},eW I (.slice sz tight rows) yv->cs=bp rows.flatten->n=rows.length->∃ eM,cS (cD ρ I) cs eM/\Src P w sz yv n eM:=by
  intro tight rows b o cap hp U e2;subst U e2;obtain⟨ad,b,off,cap,rfl,h1,h2,h3,h4,h5⟩:=Ye hp H;obtain⟨eM,v1,v2⟩:=h3.eM;exact⟨eM,v1,qOu (by rw[<- v1.length,h4]) v2 (h5.imp (λe=>by rw[e]; rfl) id)⟩
 unfold gf at hs;split at hs
 ·cases hs;cases (qz hy) with|p _ _ hp =>
  cases hp;refine⟨[],bB,bR,λw'=>rfl,λm hm w' hw=>?_⟩;have:m=0:=bn
  subst this;simp[Builtin.firstCells]
 ·split at hs
  ·rename_i s kJ;subst kJ;cases hs;obtain⟨b,rfl,hb⟩:=Yr hy;subst hb;refine⟨_,qFP b,bR,λw'=>by simp[Builtin.lenOf],λm hm w' hw=>?_⟩;simp only[Builtin.firstCells,BJ];show Result.ok _ _=_
   congr 1
   apply vc;simp[Lr]
  ·cases hs
 ·split at hs
  ·rename_i tight rows kJ;subst kJ;simp only[rJ,fB] at hs;cases (qz hy) with|p _ _ hp =>
   exact A (b:=0) (o:=0) (cap:=0) hp hs.1.symm hs.2.symm
  ·cases hs
 ·split at hs
  ·rename_i rows r kJ;subst kJ;simp only[rJ,fB] at hs;have M:=qz hy;generalize yv=z at M A ⊢;cases M with|gm _ _ _ b o cap l hp =>
   exact A (b:=0) (o:=0) (cap:=0) hp hs.1.symm hs.2.symm
  ·cases hs
 ·split at hs
  ·rename_i r off len cap ae ag imm hc;obtain⟨rfl,af⟩:=hc;simp only[rJ,fB] at hs;obtain⟨rfl,rfl⟩:=hs;have M:=qz hy;generalize yv=z at M ⊢;cases M with|cf _ _ _ _ _ cc l hl a1 a2 a3 =>
   rcases ab with ⟨r',x,U,e2,e3⟩|⟨U,_⟩
   ·simp[jb] at U;subst U;cases e3;obtain⟨l',e',aa⟩:=H.live _ _ e2;rw[hl] at e'; cases e';obtain⟨eM,v1,v2⟩:=((aa.mX.drop off).take (len*ae)).eM;exact⟨eM,v1,qQv (by rw[<- v1.length]; simp; omega) v2⟩
   ·simp[jb] at U
  ·cases hs
 ·cases hs
def qJ9{sz:Nat}{z:cN}{zv:Value}(z3:qJ zv=some z)(A:z.cells.length=sz):zv.cells.size=sz:=by
 have:=(OD (ρ:=λ_=>none) (I:=⟨λ_ _=>none,λ_=>none⟩) z3).cells.length;simp at this; omega
def qEm{ty u rt e:TypeId}{sz by':Nat}{i:TypeInfo}{zv:Value}(hu:P.underlying ty=some (.slice e))(wi:(∃ e',P.underlying u=some (.slice e'))\/P.underlying u=some .string)(hi:P.info? e=some i)(kJ:i.size=sz)(FY:i.bytes=by')(hz:i.zero=some zv)
  (Yw:zv.cells.size=sz) {base:Option Addr} {sLen sCap n:Nat} {yv:Value} {olds news:List Value} (A:Src P w sz yv n news) (hold:∀ w':World,w'.heap=w.heap->(Builtin.firstCells sz sLen (.slice base sLen sCap)).run P w' = .ok olds.toArray w')
  (af:olds.length=sLen*sz) (U:sCap<sLen+n) (ai:(sLen+n)*by'<=2 ^ 47) (VV:0<by') :
  ∃ rest:Array Value,∃ M,sLen+n<=M/\(olds.toArray++news.toArray++rest).size=M*sz /\
   (Builtin.append_ #[ty,u] rt #[.slice base sLen sCap,yv]).run P w = .ok (.slice (some ⟨w.heap.size,0,none⟩) (sLen+n) M) (w.drew.alloc (.cells (olds.toArray++news.toArray++rest) e)):=by
 refine⟨Builtin.zeroCells zv.cells (grownCap w (sLen+n) sCap e - (sLen+n)),grownCap w (sLen+n) sCap e,grownCap_ge _ _ _ _,?_,?_⟩
 ·have ak:=grownCap_ge w (sLen+n) sCap e;simp only[Array.size_append,List.size_toArray,size_zeroCells,Yw,af,A.len,<- mH]
  congr 1; omega
 ·have hle:sLen+n<=2 ^ 47:=by
   have:=Nat.le_mul_of_pos_right (sLen+n) VV;omega
  have aj:¬ (IntKind.i64.max<((sLen:Int)+(n:Int))):=by
   have:IntKind.i64.max=9223372036854775807:=bu
   rw[this]; omega
  have ag:Builtin.nextslicecap (sLen+n) sCap*by'<=281474976710656:=growslice_fits U bn;have aa:¬ (281474976710656<Builtin.nextslicecap (sLen+n) sCap*by'):=bn
  have hn:¬ (sLen+n<=sCap):=bn
  have ab:¬ (by'=0):=bn
  have ad:=A.first n (cB _) w.drew rfl;rw[<- A.len,tb] at ad;have ah:=hold w.drew rfl;subst kJ FY
  rcases wi with ⟨e',ae⟩|ae
  all_goals
   simp[Builtin.append_,run_underlying hu,run_underlying ae,sizeOf,typeInfo,zeroValue,hi,hz,A.lenOf,hn,aa,ab,Question.forced,ad,ah,newRow,grownCap]
   try (congr 2; apply vc; simp[eH])
def qDQ{ty u rt e:TypeId}{sz:Nat}(hu:P.underlying ty=some (.slice e))(wi:(∃ e',P.underlying u=some (.slice e'))\/P.underlying u=some .string)(kJ:iw P e=some sz)
  {b off sLen sCap n:Nat} {yv:Value} {news:List Value} (A:Src P w sz yv n news) (M:sLen+n<=sCap) {w':World} (ab:(storeCells ⟨b,off+sLen*sz,none⟩ news).run P w = .ok () w') :
   (Builtin.append_ #[ty,u] rt #[.slice (some ⟨b,off,none⟩) sLen sCap,yv]).run P w = .ok (.slice (some ⟨b,off,none⟩) (sLen+n) sCap) w':=by
 have U:=A.first n (cB _) w rfl;rw[<- A.len,tb] at U
 rcases wi with ⟨e',aa⟩|aa
 all_goals simp[Builtin.append_,run_underlying hu,run_underlying aa,FW kJ,A.lenOf,M,U,Ce,ab]
def qHL{ty u rt e:TypeId}{sz:Nat}(hu:P.underlying ty=some (.slice e))(wi:(∃ e',P.underlying u=some (.slice e'))\/P.underlying u=some .string)(kJ:iw P e=some sz)
  {base:Option Addr} {sLen sCap:Nat} {yv:Value} {news:List Value} (A:Src P w sz yv 0 news) (M:sLen<=sCap) :
   (Builtin.append_ #[ty,u] rt #[.slice base sLen sCap,yv]).run P w = .ok (.slice base sLen sCap) w:=by
 have hl:news=[]:=by have:=A.len; rw[s9] at this; exact ku.1 this
 have aa:=A.first 0 (cB _) w rfl;subst hl
 rcases wi with ⟨e',U⟩|U
 all_goals (cases base <;> simp[Builtin.append_,run_underlying hu,run_underlying U,FW kJ,A.lenOf,M,aa,storeCells])
def Vi{dM:List Ref}{k:List bG->Option AF}(A:fN dM k d h=some (v,h',t)):∃ os res,dM.mapM h.get=some os/\k os=some res/\(∀ p∈res.kC,p.1∈dM) /\
  (match res.new with
  |none=>v=res.out (.own d 0)/\h'=res.kC.foldl (λh p=>h.put p.1 p.2) h/\t={ rd:=dM.map Ref.site,wr:=res.kC.map (·.1.site),oU:=false }
  |some x=>v=res.out (place (res.kC.foldl (λh p=>h.put p.1 p.2) h) h.bY.length (h.gen d) d x res.push).1/\h'=(place (res.kC.foldl (λh p=>h.put p.1 p.2) h) h.bY.length (h.gen d) d x res.push).2 /\
   t={ rd:=dM.map Ref.site,wr:=(place (res.kC.foldl (λh p=>h.put p.1 p.2) h) h.bY.length (h.gen d) d x res.push).1.site::res.kC.map (·.1.site),oU:=res.push }):=by
 unfold fN at A;split at A
 ·cases A
 ·rename_i os aa;split at A
  ·cases A
  ·rename_i res U;dsimp only at A;cases M:res.kC.all λp=>dM.contains p.1 with
   |false=>rw[M] at A; cases A
   |true =>
    rw[M] at A;simp only[E5,iN] at A;refine⟨os,res,aa,U,λp hp=>?_,?_⟩
    ·have:=lU.1 M p hp;exact rQ.1 this
    ·split at A
     ·rename_i hn;simp only[hn,rJ,fB] at A ⊢;exact⟨A.1.symm,A.2.1.symm,A.2.2.symm⟩
     ·rename_i x hn;rw[hn];cases hp:res.push <;> simp only[hp,iv,iN,rJ,fB] at A <;> exact⟨A.1.symm,A.2.1.symm,A.2.2.symm⟩
def qLG{dM:List Ref}{k:List bG->Option AF}(M:fN dM k d h=some (v,h',t)):∃ os res,dM.mapM h.get=some os/\k os=some res /\
  (match res.new with
  |none=>v=res.out (.own d 0)/\h'=res.kC.foldl (λh p=>h.put p.1 p.2) h
  |some x=>v=res.out (place (res.kC.foldl (λh p=>h.put p.1 p.2) h) h.bY.length (h.gen d) d x res.push).1/\h'=(place (res.kC.foldl (λh p=>h.put p.1 p.2) h) h.bY.length (h.gen d) d x res.push).2):=by
 obtain⟨os,res,h1,U,h3,A⟩:=Vi M;refine⟨os,res,h1,U,?_⟩;cases hn:res.new with
 |none=>rw[hn] at A; exact⟨A.1,A.2.1⟩
 |some x=>rw[hn] at A; exact⟨A.1,A.2.1⟩
def YQ(h:bm)(r:Option Ref)(o:Option bG):Prop:=(∃ r' x,r=some r'/\h.get r'=some x/\o=some x)\/(r=none/\o=none)
def qIp{r s:Option Ref}{os:List bG}{M U:Option bG}(h1:(kX r s).mapM h.get=some os)(A:dw r s os=some (M,U)):YQ h r M/\YQ h s U:=by
 have h1:=wc h1;cases r <;> cases s <;> simp only[kX] at h1
 ·cases os <;> simp[dw] at A
  ·obtain⟨rfl,rfl⟩:=A; exact⟨.inr ⟨rfl,rfl⟩,.inr ⟨rfl,rfl⟩⟩
 ·cases os with
  |nil=>exact h1.elim
  |cons o os=>cases os with
   |nil=>simp[dw] at A; obtain⟨rfl,rfl⟩:=A; exact⟨.inr ⟨rfl,rfl⟩,.inl ⟨_,_,rfl,h1.1,rfl⟩⟩
   |cons _ _=>exact h1.2.elim
 ·cases os with
  |nil=>exact h1.elim
  |cons o os=>cases os with
   |nil=>simp[dw] at A; obtain⟨rfl,rfl⟩:=A; exact⟨.inl ⟨_,_,rfl,h1.1,rfl⟩,.inr ⟨rfl,rfl⟩⟩
   |cons _ _=>exact h1.2.elim
 ·cases os with
  |nil=>exact h1.elim
  |cons o os=>cases os with
   |nil=>exact h1.2.elim
   |cons o2 os=>cases os with
    |nil=>simp[dw] at A; obtain⟨rfl,rfl⟩:=A; exact⟨.inl ⟨_,_,rfl,h1.1,rfl⟩,.inl ⟨_,_,rfl,h1.2.1,rfl⟩⟩
    |cons _ _=>exact h1.2.2.elim
def YQ.some{r:Ref}{o:Option bG}(A:YQ h (.some r) o):∃ x,h.get r = .some x/\o = .some x:=by
 rcases A with ⟨r',x,e,M,U⟩|⟨e,_⟩
 ·cases e; exact⟨x,M,U⟩
 ·cases e
def qON{h1:bm}{gone:Option Ref}(hl:nu h h1 gone)(hd:d+1<1048576)(H:eC ρ I h w){cs:List Cell}{imm:Nat}{push:Bool}{arr:Array Value}{elem:TypeId}{w':World}(hw:w'.heap=w.heap.push (.cells arr elem (0,0)))
  (A:w'.os=w.os/\w'.tape=w.tape/\w'.output=w.output) (hlen:cs.length<=arr.size) (M:∀ (k:Nat) c,cs[k]?=some c->∃ v,arr[k]?=some v/\cD ρ I c v) :
  let p:=place h1 h.bY.length (h.gen d) d (.cells cs imm) push
  ∃ dL,dL p.1=some ⟨w.heap.size,0,arr.size⟩/\eC dL I p.2 w'/\Good ρ I h w dL I p.2 w':=by
 refine XK H hl hd (.cells cs imm) push ⟨w.heap.size,0,arr.size⟩ rfl (λb hb=>?_) (by rw[hw]; simp) A (eK.le_refl _) (λ_ _ _ e _=>e) (λk v e=>?_) rfl (λdL hle=>?_)
 ·rw[hw,wv,bA hb]
 ·exact absurd (Se (H.gQ _ _ _ e)) bR
 ·refine⟨arr,elem,0,0,by rw[hw]; simp,rfl,by simpa using hlen,λk c U=>?_,λo _ _=>bn⟩;obtain⟨v,a1,a2⟩:=M k c U;exact⟨v,by simpa using a1,a2.mono hle (eK.le_refl _)⟩
def qQk{h1:bm}{gone:Option Ref}(hl:nu h h1 gone)(hd:d+1<1048576)(H:eC ρ I h w){sz n cap:Nat}{cs:List Cell}{rows:List (List bL)}(ab:chunk sz n cs=some rows){eM:List Value}(hv:cS (cD ρ I) cs eM)(ag:eM.length=n*sz)
  {push:Bool} {arr:Array Value} {elem:TypeId} {w':World} (hw:w'.heap=w.heap.push (.cells arr elem (0,0))) (ad:w'.os=w.os/\w'.tape=w.tape/\w'.output=w.output) (M:n<=cap) (kJ:arr.size=cap*sz)
  (U:∀ (j:Nat) v,eM[j]?=some v->arr[j]?=some v) :
  let p:=place h1 h.bY.length (h.gen d) d (.cells [] 0) push
  ∃ dL I',fq dL I' (.v (.c (.gm sz rows p.1))) (.slice (some ⟨w.heap.size,0,none⟩) n cap)/\eC dL I' p.2 w'/\Good ρ I h w dL I' p.2 w':=by
 intro p;have aa:=(Yi n ab).1;have ae:n*sz<=cap*sz:=nc sz M;have A:∀ k,I.cell w.heap.size k=none:=λk=>by
  cases e:I.cell w.heap.size k with
  |none=>rfl
  |some v=>exact absurd (Se (H.gQ _ _ _ e)) bR
 have hle:I.le (mF I w.heap.size 0 (n*sz) (arr[·]?)):=XY λk _ _=>A k
 have hc:w'.heap[w.heap.size]?=some (.cells arr elem (0,0)):=by rw[hw]; simp
 obtain⟨dL,e1,e2,e3⟩:=XK (w':=w') (I':=mF I w.heap.size 0 (n*sz) (arr[·]?)) H hl hd (.cells [] 0) push ⟨w.heap.size,n*sz,arr.size⟩ rfl (λb hb=>by rw[hw,wv,bA hb]) (by rw[hw]; simp) ad hle
  (λb k v e' hb=>by rw[JV (λhh=>hb hh.1)] at e'; exact e')
  (λk v e'=>by
   by_cases hk:k<n*sz
   ·rw[JP (eV _) hk] at e';exact⟨by simpa [iz] using hk,by simp only[World.cell?,hc]; simpa using e'⟩
   ·rw[JV bn,A k] at e'; cases e') rfl
  (λdL af=>⟨arr,elem,0,0,hc,rfl,by simp only[fm]; omega,λk c hk=>by simp at hk,λo _ _=>bn⟩)
 refine⟨dL,_,?_,e2,e3⟩;have hp:eW (mF I w.heap.size 0 (n*sz) (arr[·]?)) (.slice sz false rows) (.slice (some ⟨w.heap.size,0,none⟩) n cap) :=
  X0 hle ab hv (λj u e'=>by
   have hj:j<n*sz:=by have:=(cQ.1 e').1; omega
   rw[nY,JP (eV _) hj]
   exact U j u e') M cb
 have key:=cD.gm (ρ:=dL) sz rows p.1 w.heap.size 0 cap ⟨w.heap.size,n*sz,arr.size⟩ (by rw[aa]; exact hp) e1 rfl (by rw[aa]; simp) (by simp only; omega);rw[aa] at key;exact key
def qKe{sz:Nat}:∀ (n:Nat) {m:Nat} {cs U:List Cell} {rows A:List (List bL)},chunk sz n cs=some rows->cs.length=n*sz->chunk sz m U=some A->chunk sz (n+m) (cs++U)=some (rows++A):=by
 intro n
 induction n with
 |zero =>
  intro m cs U rows A h1 h2 h3;simp[chunk] at h1;rw[s9] at h2;have:=ku.1 h2;subst this; subst h1
  simpa using h3
 |succ n ih =>
  intro m cs U rows A h1 h2 h3;rw[mH,Nat.one_mul] at h2;simp only[chunk,rL,rK] at h1;obtain⟨row,gY,hc⟩:=h1;split at hc
  ·rename_i hlen;obtain⟨rest,M,e⟩:=yZ.1 hc;simp only[rM,rJ] at e;subst e;have:=ih M cM h3;rw[show n+1+m=(n+m)+1 by omega];simp only[chunk];rw[Lp bn,Lo bn,gY];simp only[rL,eG,hlen,fx,this];rfl
  ·cases hc
def qFW{sz:Nat}:∀ {rows:List (List bL)},(∀ (i:Nat) r,rows[i]?=some r->r.length=sz)->chunk sz rows.length (bp rows.flatten)=some rows:=by
 intro rows
 induction rows with
 |nil=>intro _; rfl
 |cons r rows M =>
  intro hs;have U:=hs 0 r rfl;simp only[di,chunk,vb,bp,gG];have ht:(List.map Cell.p r++List.map Cell.p rows.flatten).take sz=List.map Cell.p r:=by rw[Lp cM,gz cM]
  have A:(List.map Cell.p r++List.map Cell.p rows.flatten).drop sz=List.map Cell.p rows.flatten:=by rw[Lo cM,List.drop_of_length_le cM]; rfl
  rw[ht,A];have hu:tY (List.map Cell.p r)=some r:=by
   clear ht A M hs U;unfold tY
   induction r with
   |nil=>rfl
   |cons x r M=>simp only[dr,ek,W0,M]; rfl
  have:=M (λi r' e=>hs (i+1) r' (by simpa using e));simp only[bp] at this;rw[hu,this];simp[U]
end
end Go.AI
namespace Go.AI
variable [Sym]
section
variable {P:Program} {G:Nat->Option (List bL)} {ρ:Env} {I:eK} {h:bm} {w:World} {tm:TM bt} {a:Act}
variable {heap:Nat->Bool} {d:Nat} {v:bt} {h':bm} {t:Touch} {o:Oper}
def qSZ{x:bt}{M:Value}(hx:fq ρ I x M)(hs:Hz x=true):∃ base n c,M = .slice base n c/\n<=c:=by
 unfold Hz at hs;split at hs
 ·cases (qz hx) with|p _ _ hp=>cases hp; exact⟨_,_,_,rfl,cB _⟩
 ·cases (qz hx) with|p _ _ hp=>cases hp <;> exact⟨_,_,_,rfl,by first|assumption|exact eV _⟩
 ·have A:=qz hx;generalize M=z at A ⊢;cases A with|gm _ _ _ b o cap l hp=>cases hp <;> exact⟨_,_,_,rfl,by first|assumption|exact eV _⟩
 ·have A:=qz hx;generalize M=z at A ⊢;cases A; exact⟨_,_,_,rfl,by assumption⟩
 ·cases hs
structure wA (P:Program) (ρ:Env) (I:eK) (h:bm) (w:World) (ty u e:TypeId) (sz by':Nat) (i:TypeInfo) (zv:Value) (n:Nat) (yv:Value) (new:List Cell) (news:List Value):Prop where
 heap:eC ρ I h w
 hu:P.underlying ty=some (.slice e)
 wi:(∃ e',P.underlying u=some (.slice e'))\/P.underlying u=some .string
 hi:P.info? e=some i
 kJ:i.size=sz
 FY:i.bytes=by'
 hz:i.zero=some zv
 Yw:zv.cells.size=sz
 VV:0<by'
 sf:cS (cD ρ I) new news
 src:Src P w sz yv n news
def qK5{ty u e:TypeId}{sz by':Nat}{i:TypeInfo}{zv:Value}{n:Nat}{yv:Value}{new:List Cell}{news:List Value}(A:wA P ρ I h w ty u e sz by' i zv n yv new news):iw P e=some sz:=by unfold iw; rw[A.hi]; simp[A.kJ]
def XP{ty u rt e:TypeId}{sz by':Nat}{i:TypeInfo}{zv:Value}{n:Nat}{yv:Value}{new:List Cell}{news:List Value}(A:wA P ρ I h w ty u e sz by' i zv n yv new news)
  {base:Option Addr} {sLen sCap:Nat} {ocs:List Cell} {olds:List Value} (hold:∀ w':World,w'.heap=w.heap->(Builtin.firstCells sz sLen (.slice base sLen sCap)).run P w' = .ok olds.toArray w') (ho:cS (cD ρ I) ocs olds)
  (U:olds.length=sLen*sz) (M:sCap<sLen+n) (aa:(sLen+n)*by'<=2 ^ 47) {h1:bm} {gone:Option Ref} (hl:nu h h1 gone) (hd:d+1<1048576) (imm:Nat) (push:Bool) :
  let p:=place h1 h.bY.length (h.gen d) d (.cells (ocs++new) imm) push
  ∃ cv w' dL,(Builtin.append_ #[ty,u] rt #[.slice base sLen sCap,yv]).run P w = .ok cv w'/\fq dL I (.v (.c (.cf p.1 0 (sLen+n) none sz))) cv/\eC dL I p.2 w'/\Good ρ I h w dL I p.2 w':=by
 obtain⟨rest,ab,ad,ae,af⟩:=qEm (rt:=rt) A.hu A.wi A.hi A.kJ A.FY A.hz A.Yw A.src hold U M aa A.VV;have hc:=cS.append ho A.sf;have ag:=A.src.len;have ah:=hc.length;simp only[bV,U,ag] at ah;obtain⟨dL,e1,e2,e3⟩:=qON (imm:=imm) (push:=push) (arr:=olds.toArray++news.toArray++rest) (elem:=e) (cs:=ocs++new) (w':=w.drew.alloc (.cells (olds.toArray++news.toArray++rest) e)) hl hd A.heap rfl ⟨rfl,rfl,rfl⟩
  (by rw[ae]; have:=nc sz ad; rw[mH] at this; simp only[bV]; omega)
  (λk c hk=>by
   obtain⟨v,a1,a2⟩:=hc.get k c hk;refine⟨v,?_,a2⟩;have ai:=(cQ.1 a1).1;rw[E0 (by simpa using ai)]
   simpa using a1)
 exact⟨_,_,dL,af,cD.cf (ρ:=dL) (I:=I) _ 0 (sLen+n) none sz ab _ e1 ad (by simp only; rw[<- ae]; omega) (λc e=>by cases e),e2,e3⟩
def qHB{ty u rt e:TypeId}{sz by':Nat}{i:TypeInfo}{zv:Value}{n:Nat}{yv:Value}{new:List Cell}{news:List Value}(A:wA P ρ I h w ty u e sz by' i zv n yv new news)
  {base:Option Addr} {sLen sCap:Nat} {ocs:List Cell} {olds:List Value} (hold:∀ w':World,w'.heap=w.heap->(Builtin.firstCells sz sLen (.slice base sLen sCap)).run P w' = .ok olds.toArray w') (ho:cS (cD ρ I) ocs olds)
  (aa:olds.length=sLen*sz) (U:sCap<sLen+n) (ab:(sLen+n)*by'<=2 ^ 47) {h1:bm} {gone:Option Ref} (hl:nu h h1 gone) (hd:d+1<1048576) {rows M:List (List bL)} (hr:chunk sz sLen ocs=some rows) (ad:chunk sz n new=some M) :
  let p:=place h1 h.bY.length (h.gen d) d (.cells [] 0) false
  ∃ cv w' dL I',(Builtin.append_ #[ty,u] rt #[.slice base sLen sCap,yv]).run P w = .ok cv w'/\fq dL I' (.v (.c (.gm sz (rows++M) p.1))) cv/\eC dL I' p.2 w'/\Good ρ I h w dL I' p.2 w':=by
 obtain⟨rest,aj,ae,af,ag⟩:=qEm (rt:=rt) A.hu A.wi A.hi A.kJ A.FY A.hz A.Yw A.src hold aa U ab A.VV;have hc:=cS.append ho A.sf;have ah:=A.src.len;have ak:=ho.length;obtain⟨dL,I',e1,e2,e3⟩:=qQk (push:=false) (arr:=olds.toArray++news.toArray++rest) (elem:=e) (w':=w.drew.alloc (.cells (olds.toArray++news.toArray++rest) e)) hl hd A.heap
  (qKe sLen hr bn ad) hc (by rw[bV,aa,ah,mH]) rfl ⟨rfl,rfl,rfl⟩ ae af (λj v e=>by
   have ai:=(cQ.1 e).1;rw[E0 (by simpa using ai)]
   simpa using e)
 exact⟨_,_,dL,I',ag,e1,e2,e3⟩
def qRr{ty u rt e:TypeId}{sz by':Nat}{i:TypeInfo}{zv:Value}{n:Nat}{yv:Value}{new:List Cell}{news:List Value}(A:wA P ρ I h w ty u e sz by' i zv n yv new news)
  {r:Ref} {off len cc imm:Nat} {cs:List Cell} {l:Loc} (hr:h.get r=some (.cells cs imm)) (aa:ρ r=some l) (aj:len<=cc) (ht:l.base+off+cc*sz<=l.B5) (ah:off+len*sz<=cs.length) (ai:imm<=off+len*sz)
  (M:len+n<=cc) (hd:d+1<1048576) (push:Bool) :
  let p:=place (h.put r .dead) h.bY.length (h.gen d) d (.cells ((cs.drop off).take (len*sz)++new) (imm - off)) push
  ∃ cv w' dL,(Builtin.append_ #[ty,u] rt #[.slice (some ⟨l.fg,l.base+off,none⟩) len cc,yv]).run P w = .ok cv w'/\fq dL I (.v (.c (.cf p.1 0 (len+n) none sz))) cv/\eC dL I p.2 w'/\Good ρ I h w dL I p.2 w':=by
 intro p;obtain⟨l',e',ab⟩:=A.heap.live _ _ hr;rw[aa] at e'; cases e';obtain⟨arr,elem,lo,hi,h1,h2,h3,h4,h5⟩:=ab;have ak:=A.src.len;have al:=A.sf.length;have hm:(len+n)*sz<=cc*sz:=nc sz M;rw[mH] at hm;obtain⟨w',ad,hS⟩:=qC6 (P:=P) (b:=l.fg) (o:=l.base+off+len*sz) news 0 w arr elem lo hi h1 bn A.sf.pX (λk a b=>h5 k bn bn);obtain⟨gK,a1,a2,a3⟩:=hS.row _ _ _ h1;obtain⟨dL,e1,e2,e3⟩:=qQO (d:=d) (obj:=.cells ((cs.drop off).take (len*sz)++new) (imm - off)) (push:=push) A.heap hr aa (nu.kill hr) hd ⟨l.fg,l.base+off,l.B5⟩ rfl (I':=I) (w':=w') hS.other (by rw[hS.size]; exact cB _) hS.rest (eK.le_refl _) (λ_ _ _ e _=>e)
  (λk v U=>by
   have ae:=A.heap.apart r _ l hr aa l.fg k v U rfl;simp only[iz] at ae ⊢;refine⟨bn,?_⟩;have hc:=A.heap.gQ _ _ _ U;simp only[World.cell?,h1,a1,BL,gh,fC] at hc ⊢;rw[a3 k,bA bn]
   exact hc) rfl
  (λdL hle=>by
   refine⟨gK,elem,lo,hi,a1,by simp only; omega,by simp only[bV,ji,j0]; omega,λk c U=>?_,λo a b=>h5 o (by simp only at a; omega) b⟩;simp only;rw[a3];have af:(List.take (len*sz) (List.drop off cs)).length=len*sz:=by simp only[ji,j0]; omega
   by_cases ag:k<len*sz
   ·rw[j5 bn,nZ,bF ag,n6] at U;rw[bA bn];obtain⟨v,b1,b2⟩:=h4 _ _ U;exact⟨v,by rw[<- b1]; congr 1; omega,b2.mono hle (eK.le_refl _)⟩
   ·rw[kz bn,af] at U;have an:=(cQ.1 U).1;rw[bF bn];obtain⟨v,b1,b2⟩:=A.sf.get _ _ U
    exact⟨v,by rw[<- b1]; congr 1; omega,b2.mono hle (eK.le_refl _)⟩)
 refine⟨_,w',dL,qDQ A.hu A.wi (qK5 A) A.src M ad,?_,e2,e3⟩;exact cD.cf (ρ:=dL) (I:=I) p.1 0 (len+n) none sz cc ⟨l.fg,l.base+off,l.B5⟩ e1 M (by simp only; omega) (λc e=>by cases e)
def qVi{ty u rt e:TypeId}{sz by':Nat}{i:TypeInfo}{zv:Value}{n:Nat}{yv:Value}{new:List Cell}{news:List Value}(A:wA P ρ I h w ty u e sz by' i zv n yv new news)
  {r:Ref} {rows M:List (List bL)} {b o' cap:Nat} {l:Loc} (hr:h.get r=some (.cells [] 0)) (ad:ρ r=some l) (hp:eW I (.slice sz false rows) (.slice (some ⟨b,o',none⟩) rows.length cap)) (hb:l.fg=b) (aj:o'+rows.length*sz=l.base) (ht:o'+cap*sz<=l.B5)
  (aa:rows.length+n<=cap) (hd:d+1<1048576) (af:chunk sz n new=some M) :
  let p:=place (h.put r .dead) h.bY.length (h.gen d) d (.cells [] 0) false
  ∃ cv w' dL I',(Builtin.append_ #[ty,u] rt #[.slice (some ⟨b,o',none⟩) rows.length cap,yv]).run P w = .ok cv w'/\fq dL I' (.v (.c (.gm sz (rows++M) p.1))) cv/\eC dL I' p.2 w'/\Good ρ I h w dL I' p.2 w':=by
 intro p;obtain⟨l',e',ag⟩:=A.heap.live _ _ hr;rw[ad] at e'; cases e';obtain⟨arr,elem,lo,hi,h1,h2,h3,h4,h5⟩:=ag;have aw:=A.src.len;have ax:=A.sf.length;have hm:(rows.length+n)*sz<=cap*sz:=nc sz aa;rw[mH] at hm;subst hb;obtain⟨w',ah,hS⟩:=qC6 (P:=P) (b:=l.fg) (o:=l.base) news 0 w arr elem lo hi h1 bn A.sf.pX (λk a b=>h5 k bn bn);obtain⟨gK,a1,a2,a3⟩:=hS.row _ _ _ h1;have ab:∀ k,w'.cell? ⟨l.fg,k,none⟩=gK[k]?:=λk=>by simp only[World.cell?,a1,BL,gh,fC]
 have hle:I.le (mF I l.fg l.base (l.base+n*sz) (gK[·]?)):=XY λk hk _=>by
  cases e:I.cell l.fg k with
  |none=>rfl
  |some v=>have:=A.heap.apart r _ l hr ad l.fg k v e rfl; simp only[iz] at this; omega
 obtain⟨dL,e1,e2,e3⟩:=qQO (d:=d) (obj:=.cells [] 0) (push:=false) A.heap hr ad (nu.kill hr) hd ⟨l.fg,l.base+n*sz,l.B5⟩ rfl (I':=mF I l.fg l.base (l.base+n*sz) (gK[·]?)) (w':=w') hS.other (by rw[hS.size]; exact cB _) hS.rest hle
  (λb' k v e ak=>by rw[JV (λhh=>ak hh.1)] at e; exact e)
  (λk v hk=>by
   by_cases ai:l.base<=k/\k<l.base+n*sz
   ·rw[JP ai.1 ai.2] at hk;exact⟨by simp only[iz]; omega,by rw[ab]; exact hk⟩
   ·rw[JV (by simp only; omega)] at hk;have al:=A.heap.apart r _ l hr ad l.fg k v hk rfl;simp only[iz] at al ⊢;refine⟨bn,?_⟩;have hc:=A.heap.gQ _ _ _ hk;simp only[World.cell?,h1,BL,gh,fC] at hc;rw[ab,a3 k,bA bn]
    exact hc) rfl
  (λdL hle=>⟨gK,elem,lo,hi,a1,by simp only; omega,by simp only[fm]; omega,λk c hk=>by simp at hk,λo a b=>h5 o (by simp only at a; omega) b⟩)
 have an:eW (mF I l.fg l.base (l.base+n*sz) (gK[·]?)) (.slice sz false (rows++M)) (.slice (some ⟨l.fg,o',none⟩) (rows++M).length cap):=by
  obtain⟨c1,c2,c3⟩:=Yi n af;obtain⟨_,cv,ay,az,ao,aq,ar⟩:=qSl hp;refine .slice sz false (rows++M) l.fg o' cap (λi k=>if i<rows.length then cv i k else news.getD ((i - rows.length)*sz+k) .nilIface) cb (by rw[bV]; omega) (λi r' e=>?_) (λi r' k v e1 e2=>?_) (λi r' k v e1 e2=>?_)
  ·by_cases U:i<rows.length
   ·rw[j5 U] at e; exact ao i r' e
   ·rw[kz bn] at e; exact c2 _ r' e
  ·by_cases U:i<rows.length
   ·rw[j5 U] at e1;rw[bF U];exact hle.1 _ _ _ (aq i r' k v e1 e2)
   ·rw[kz bn] at e1;rw[bA U];obtain⟨u',f1,f2⟩:=A.sf.get _ _ (c3 _ r' k v e1 e2);have aA:=(cQ.1 f1).1;have hmul:i*sz=rows.length*sz+(i - rows.length)*sz:=by rw[<- mH]; congr 1; omega
    rw[JP bn bn,a3,bF bn];rw[show o'+i*sz+k - (l.base+0)=(i - rows.length)*sz+k by omega,f1];simp[f1]
  ·by_cases U:i<rows.length
   ·rw[j5 U] at e1;rw[bF U];exact(ar i r' k v e1 e2).mono hle
   ·rw[kz bn] at e1;rw[bA U];obtain⟨u',f1,f2⟩:=A.sf.get _ _ (c3 _ r' k v e1 e2);cases f2 with|p _ _ au =>
    simp only[na,f1,oS];exact au.mono hle
 have ae:(rows++M).length=rows.length+n:=by rw[bV,(Yi n af).1]
 refine⟨_,w',dL,_,qDQ A.hu A.wi (qK5 A) A.src aa (by rw[aj]; exact ah),?_,e2,e3⟩;have key:=cD.gm (ρ:=dL) sz (rows++M) p.1 l.fg o' cap ⟨l.fg,l.base+n*sz,l.B5⟩ an e1 rfl (by rw[ae,mH]; simp only; omega) (by simp only; omega);rw[ae] at key;exact key
def qVH{r:Ref}{sz:Nat}{rows:List (List bL)}{M:Value}(hx:fq ρ I (.v (.c (.gm sz rows r))) M):∃ b o' cap l,M = .slice (some ⟨b,o',none⟩) rows.length cap/\eW I (.slice sz false rows) (.slice (some ⟨b,o',none⟩) rows.length cap)/\ρ r=some l/\l.fg=b/\o'+rows.length*sz=l.base/\o'+cap*sz<=l.B5:=by
 have A:=qz hx;generalize M=z at A ⊢;cases A with|gm _ _ _ b o cap l hp a1 a2 a3 a4=>exact⟨b,o,cap,l,rfl,hp,a1,a2,a3,a4⟩
def qGj{r:Ref}{off len sz:Nat}{cap:Option Nat}{M:Value}(hx:fq ρ I (.v (.c (.cf r off len cap sz))) M):∃ l cc,M = .slice (some ⟨l.fg,l.base+off,none⟩) len cc/\ρ r=some l/\len<=cc/\l.base+off+cc*sz<=l.B5/\∀ c,cap=some c->cc=c:=by
 have A:=qz hx;generalize M=z at A ⊢;cases A with|cf _ _ _ _ _ cc l a1 a2 a3 a4=>exact⟨l,cc,rfl,a1,a2,a3,a4⟩
def qJT{sz:Nat}{tight:Bool}{rows:List (List bL)}{v:Value}(hp:eW I (.slice sz tight rows) v):∀ (i:Nat) r,rows[i]?=some r->r.length=sz:=by cases hp with|emp=>(intro i r e; simp at e)|slice=>assumption
def qKs{sz:Nat}:∀ w':World,w'.heap=w.heap->(Builtin.firstCells sz 0 (.slice none 0 0)).run P w' = .ok ([]:List Value).toArray w':=λw' _=>by simp[Builtin.firstCells]
def qNS(sz:Nat)(cs:List Cell):chunk sz 0 cs=some []:=rfl
def qOJ{c:Call}{ty u e:TypeId}{x y:Operand}{sz by':Nat}{z:cN}{ao:Bool}(C:iZ P G ρ I h w tm a)(hd:d+1<1048576)(ho:o.op = .call c)(hb:c.callee = .builtin .append)(ha:c.args=#[x,y])(ht:c.argTypes=#[ty,u])
  (hu:P.underlying ty=some (.slice e)) (wi:(∃ e',P.underlying u=some (.slice e'))\/P.underlying u=some .string) (kJ:iw P e=some sz) (FY:pA P e=some by') (hz:eQ P e=some z) (VV:by'≠0) (aC:z.cells.length=sz)
  {x' y':X} (hx:cG G x=some x') (hy:cG G y=some y') {p:cA} (hp:cH tm (.append sz by' ao x' y')=some p) (hg:p.iL d h=some (v,h',t)):fy ρ I h w ((execOp a.eval o).run P w) v h':=by
 have hex:execOp a.eval o=(do pure (.value (<- Builtin.append_ #[ty,u] o.type #[a.eval x,a.eval y])):Sem Next):=by rw[qBV ho hb,ha,ht]; simp only[Fb,dr,kL]; rfl
 simp only[cH] at hp;split at hp
 ·rename_i X Y hX hY;simp only[rJ] at hp;subst hp;have af:=C.ev hx hX;have aD:=C.ev hy hY;obtain⟨os,res,h1,h2,h3⟩:=qLG hg;simp only[rL,rK] at h2;obtain⟨⟨oa,ob⟩,h4,⟨new,n⟩,h5,M⟩:=h2;dsimp only at h5 M;obtain⟨aq,aE⟩:=qIp h1 h4;obtain⟨news,sf,ah⟩:=qO5 (P:=P) aD C.heap aE h5;obtain⟨i,zv,z1,z2,z3⟩:=kM hz;have au:i.size=sz:=by unfold iw at kJ; rw[z1] at kJ; simpa using kJ
  have aw:i.bytes=by':=by unfold pA at FY; rw[z1] at FY; simpa using FY
  have A:wA P ρ I h w ty u e sz by' i zv n (a.eval y) new news:=⟨C.heap,hu,wi,z1,au,aw,z2,qJ9 z3 aC,bn,sf,ah⟩;have fin:∀ {cv w' dL I' v h'},(Builtin.append_ #[ty,u] o.type #[a.eval x,a.eval y]).run P w = .ok cv w'->fq dL I' v cv->eC dL I' h' w'->Good ρ I h w dL I' h' w'->fy ρ I h w ((execOp a.eval o).run P w) v h':=by
   intro cv w' dL I' v h' e1 e2 e3 e4;refine⟨w',dL,I',.inl ⟨cv,?_,e2⟩,e3,e4⟩;rw[hex]; simp[e1]
  unfold ee at M;split at M
  ·rename_i ax;subst ax;split at M
   ·rename_i aF;cases M;obtain⟨rfl,rfl⟩:=h3;obtain⟨base,m,cc,e1,e2⟩:=qSZ af aF;refine fin (cv:=a.eval x) ?_ af C.heap (Good.refl _ _ _ _);rw[e1]; exact qHL hu wi kJ ah e2
   ·cases M
  ·rename_i ax;split at M
   ·-- nil
    cases (qz af) with|p _ _ aj =>
    generalize ay:a.eval x=xv at aj;cases aj;split at M
    ·unfold lq at M;split at M
     ·rename_i U;cases M;obtain⟨rfl,rfl⟩:=h3;obtain⟨cv,w',dL,e1,e2,e3,e4⟩:=XP (rt:=o.type) A (base:=none) (sLen:=0) (sCap:=0) (ocs:=[]) (olds:=[]) qKs trivial bR bn (by simpa using U) (nu.refl h) hd 0 true;rw[kK,nY] at *;exact fin (by rw[ay]; exact e1) e2 e3 e4
     ·cases M
    ·unfold jo at M;split at M
     ·rename_i rs ai;split at M
      ·rename_i U;cases M;obtain⟨rfl,rfl⟩:=h3;obtain⟨cv,w',dL,I',e1,e2,e3,e4⟩:=qHB (rt:=o.type) A (base:=none) (sLen:=0) (sCap:=0) (ocs:=[]) (olds:=[]) qKs trivial bR bn (by simpa using U) (nu.refl h) hd (qNS sz []) ai;exact fin (by rw[ay]; exact e1) e2 e3 e4
      ·cases M
     ·cases M
   ·-- a row written no more,of all az capacity
    rename_i aa rows;split at M
    ·rename_i ak;subst ak;cases (qz af) with|p _ _ aj =>
     obtain⟨ad,b,off,cap,c1,c2,c3,c4,c5,c6⟩:=Ye aj C.heap;have aG:=c3 rfl;subst aG;obtain⟨olds,f1,f2⟩:=c4.eM;have ae:olds.length=rows.length*aa:=by rw[<- f1.length,c5]
     have hold:∀ w':World,w'.heap=w.heap->(Builtin.firstCells aa rows.length (.slice (some ad) rows.length rows.length)).run P w' = .ok olds.toArray w':=λw' ag=>qFJ ae f2 (c6.imp (λe=>by rw[e]; rfl) id) ag
     have ar:∀ (i:Nat) r,rows[i]?=some r->r.length=aa:=qJT aj;split at M
     ·unfold lq at M;split at M
      ·rename_i U;cases M;obtain⟨rfl,rfl⟩:=h3;obtain⟨cv,w',dL,e1,e2,e3,e4⟩:=XP (rt:=o.type) A hold f1 ae bn U (nu.refl h) hd 0 true;exact fin (by rw[c1]; exact e1) e2 e3 e4
      ·cases M
     ·unfold jo at M;split at M
      ·rename_i rs ai;split at M
       ·rename_i U;cases M;obtain⟨rfl,rfl⟩:=h3;obtain⟨cv,w',dL,I',e1,e2,e3,e4⟩:=qHB (rt:=o.type) A hold f1 ae bn U (nu.refl h) hd (qFW ar) ai;exact fin (by rw[c1]; exact e1) e2 e3 e4
       ·cases M
      ·cases M
    ·cases M
   ·-- a row aJ aH
    rename_i aa rows r;split at M
    ·rename_i ak;subst ak;obtain⟨b,o',cap,l,c1,c2,c3,c4,c5,c6⟩:=qVH af;obtain⟨x0,hr,al⟩:=aq.some;cases al;unfold jo at M;split at M
     ·rename_i rs ai;split at M
      ·rename_i U;cases M;obtain⟨rfl,rfl⟩:=h3;by_cases ab:rows.length+n<=cap
       ·obtain⟨cv,w',dL,I',e1,e2,e3,e4⟩:=qVi (rt:=o.type) A hr c3 c2 c4 c5 c6 ab hd ai;exact fin (by rw[c1]; exact e1) e2 e3 e4
       ·obtain⟨aL,b2,off,aK,d1,d2,d3,d4,d5,d6⟩:=Ye c2 C.heap;cases d1;obtain⟨olds,f1,f2⟩:=d4.eM;have ae:olds.length=rows.length*aa:=by rw[<- f1.length,d5]
        have hold:∀ w':World,w'.heap=w.heap->(Builtin.firstCells aa rows.length (.slice (some ⟨b,o',none⟩) rows.length cap)).run P w' = .ok olds.toArray w':=λw' ag=>qFJ ae f2 (d6.imp (λe=>by rw[e]; rfl) id) ag
        have ar:∀ (i:Nat) r,rows[i]?=some r->r.length=aa:=qJT c2;obtain⟨cv,w',dL,I',e1,e2,e3,e4⟩:=qHB (rt:=o.type) A hold f1 ae bn U (nu.kill hr) hd (qFW ar) ai;exact fin (by rw[c1]; exact e1) e2 e3 e4
      ·cases M
     ·cases M
    ·cases M
   ·-- a row of ours,az capacity known
    rename_i r off len cap aa cs imm;split at M
    ·rename_i hc;obtain⟨rfl,an⟩:=hc;obtain⟨l,cc,c1,c2,c3,c4,c5⟩:=qGj af;have aI:=c5 _ rfl;subst aI;obtain⟨x0,hr,al⟩:=aq.some;cases al;have aM:=ah.len;have aN:=sf.length;split at M
     ·rename_i ab;split at M
      ·rename_i aA;cases M;obtain⟨rfl,rfl⟩:=h3;rw[mH] at aA;obtain⟨w',e1,e2,e3⟩:=qHE (P:=P) C.heap hr c2 (off+len*aa) new news sf aA.1 bn;refine fin (by rw[c1]; exact qDQ hu wi kJ ah ab (by rw[n5]; exact e1)) ?_ e2 e3;exact cD.cf (ρ:=ρ) (I:=I) r off (len+n) (some cc) aa cc l c2 ab c4 (λc e=>by cases e; rfl)
      ·cases M
     ·rename_i ab;unfold lq at M;split at M
      ·rename_i U;cases M;obtain⟨rfl,rfl⟩:=h3;obtain⟨l2,g1,g2⟩:=C.heap.live _ _ hr;rw[c2] at g1; cases g1;obtain⟨olds,f1,f2⟩:=((g2.mX.drop off).take (len*aa)).eM;have ae:olds.length=len*aa:=by rw[<- f1.length]; simp only[ji,j0]; omega
       obtain⟨cv,w',dL,e1,e2,e3,e4⟩:=XP (rt:=o.type) A (λw' ag=>XS (len:=len) (cap:=cc) ae f2 ag) f1 ae bn U (nu.refl h) hd 0 ao;exact fin (by rw[c1]; exact e1) e2 e3 e4
      ·cases M
    ·cases M
   ·-- a row of ours,az capacity not known
    rename_i r off len aa cs imm;split at M
    ·rename_i hc;obtain⟨rfl,an,aB⟩:=hc;obtain⟨l,cc,c1,c2,c3,c4,c5⟩:=qGj af;obtain⟨x0,hr,al⟩:=aq.some;cases al;split at M
     ·rename_i U;cases M;obtain⟨rfl,rfl⟩:=h3;by_cases ab:len+n<=cc
      ·obtain⟨cv,w',dL,e1,e2,e3,e4⟩:=qRr (rt:=o.type) A hr c2 c3 c4 an aB ab hd ao;exact fin (by rw[c1]; exact e1) e2 e3 e4
      ·obtain⟨l2,g1,g2⟩:=C.heap.live _ _ hr;rw[c2] at g1; cases g1;obtain⟨olds,f1,f2⟩:=((g2.mX.drop off).take (len*aa)).eM;have ae:olds.length=len*aa:=by rw[<- f1.length]; simp only[ji,j0]; omega
       obtain⟨cv,w',dL,e1,e2,e3,e4⟩:=XP (rt:=o.type) A (λw' ag=>XS (len:=len) (cap:=cc) ae f2 ag) f1 ae bn U (nu.kill hr) hd (imm - off) ao;exact fin (by rw[c1]; exact e1) e2 e3 e4
     ·cases M
    ·cases M
   ·cases M
 ·cases hp
end
end Go.AI
namespace Go.AI
variable [Sym]
section
variable {P:Program} {G:Nat->Option (List bL)} {ρ:Env} {I:eK} {h:bm} {w:World} {tm:TM bt} {a:Act}
variable {heap:Nat->Bool} {d:Nat} {v:bt} {h':bm} {t:Touch} {o:Oper}
def qPJ{c:Call}{ty:TypeId}(h:c.argTypes.toList=[ty]):c.argTypes=#[ty]:=by apply vc; simpa using h
def qWB{c:Call}{ty u:TypeId}(h:c.argTypes.toList=[ty,u]):c.argTypes=#[ty,u]:=by apply vc; simpa using h
def qUx(C:iZ P G ρ I h w tm a)(hd:d+1<1048576){c:Call}(ho:o.op = .call c){A:jE}(hc:rN P G heap c=some A){p:cA}(hp:cH tm A=some p)(M:p.iL d h=some (v,h',t)):fy ρ I h w ((execOp a.eval o).run P w) v h':=by
 unfold rN at hc;split at hc
 ·simp only[rL,rK,rM,rJ] at hc;obtain⟨f,_,as,_,e⟩:=hc;subst e;simp only[cH] at hp;split at hp
  ·simp only[rL,rK,rM,rJ] at hp;obtain⟨_,_,e⟩:=hp;subst e;simp[cA.iL] at M
  ·cases hp
 ·cases hc
 ·rename_i b hb;simp only[rL,rK] at hc;obtain⟨xs,U,hc⟩:=hc;split at hc
  ·rename_i x' ty e2;obtain⟨x,e3,e4⟩:=ye U rfl;have e5:=qPJ e2;split at hc
   ·rename_i hu;cases hc;exact qIY C ho hb e3 e5 (.inl ⟨rfl,hu⟩) e4 hp M
   ·rename_i e hu;cases hc;exact qIY C ho hb e3 e5 (.inr ⟨rfl,e,hu⟩) e4 hp M
   ·rename_i n e hu;cases hc;exact qSO C ho hb e3 e5 hu hp M
   ·cases hc
  ·rename_i x' y' ty u e2;obtain⟨x,y,e3,e4,e6⟩:=qTs U rfl;have e5:=qWB e2
   have key:∀ e,P.underlying ty=some (.slice e)->((∃ e',P.underlying u=some (.slice e'))\/P.underlying u=some .string)->(do
     let sz <- iw P e
     let by' <- pA P e
     let z <- eQ P e
     if sz=0\/by'=0\/z.cells.length≠sz then none else pure (.append sz by' (heap sz) x' y'):Option jE)=some A->fy ρ I h w ((execOp a.eval o).run P w) v h':=by
    intro e hu wi hc;simp only[rL,rK] at hc;obtain⟨sz,h1,by',h2,z,h3,hc⟩:=hc;split at hc
    ·cases hc
    ·rename_i hn;cases hc;exact qOJ C hd ho hb e3 e5 hu wi h1 h2 h3 (λe=>hn (.inr (.inl e))) (EZ.1 λe=>hn (.inr (.inr e))) e4 e6 hp M
   split at hc
   ·rename_i e e' hu wi;exact key e hu (.inl ⟨_,wi⟩) hc
   ·rename_i e hu wi;exact key e hu (.inr wi) hc
   ·cases hc
  ·cases hc
def qXk(C:iZ P G ρ I h w tm a)(hd:d+1<1048576){op:Op}(ho:o.op=op){aa:jE}(hc:oy P G heap op=some aa){p:cA}(hp:cH tm aa=some p)(U:p.iL d h=some (v,h',t)):fy ρ I h w ((execOp a.eval o).run P w) v h':=by
 unfold oy at hc;split at hc
 case h_23=>exact qUx C hd ho hc hp U
 all_goals try (cases hc; done)
 all_goals try simp only[rL,rK,mZ,rM,rJ] at hc
 ·obtain⟨x',hx,rfl⟩:=hc;exact qKU C (.inl ho) hx hp U
 ·obtain⟨x',hx,rfl⟩:=hc;exact qKU C (.inr ho) hx hp U
 ·obtain⟨c',h1,x',A,y',M,rfl⟩:=hc;exact qSJ C ho h1 A M hp U
 ·obtain⟨z,h1,rfl⟩:=hc;exact qPC C hd ho h1 hp U
 ·obtain⟨x',h1,rfl⟩:=hc;exact qVc C hd ho h1 hp U
 ·obtain⟨z,h1,hc⟩:=hc;split at hc
  ·rename_i fields hu;simp only[rK,rJ] at hc;obtain⟨places,A,ps,M,rfl⟩:=hc;refine qHF C ho h1 hu A (ps:=ps) ?_ hp U;rw[<- M]; rfl
  ·rename_i n e hu;simp only[rK,rJ] at hc;obtain⟨sz,A,ps,M,rfl⟩:=hc;exact qH6 C ho h1 hu A M hp U
  ·cases hc
 ·split at hc
  ·rename_i e hu;simp only[rK] at hc;obtain⟨sz,h1,z,A,hc⟩:=hc;split at hc
   ·cases hc
   ·rename_i hn;simp only[rK,rJ] at hc;obtain⟨ps,M,rfl⟩:=hc;exact qN7 C hd ho hu h1 (λe=>hn (.inl e)) bn A (EZ.1 λe=>hn (.inr (.inr e))) M hp U
  ·cases hc
 ·obtain⟨g,h1,n,A,x',M,rfl⟩:=hc;exact qRQ C ho M h1 A hp U
 ·obtain⟨n,h1,x',A,y',M,rfl⟩:=hc;exact qQA C ho A M h1 hp U
 ·obtain⟨x',h1,rfl⟩:=hc;exact qQN C ho h1 hp U
 ·obtain⟨x',h1,y',A,rfl⟩:=hc;exact qT5 C ho h1 A hp U
 ·obtain⟨x',h1,rfl⟩:=hc;exact qWY C ho h1 hp U
 ·split at hc
  ·rename_i h1 A;simp only[rK,rJ] at hc;obtain⟨x',M,rfl⟩:=hc;exact qQy C ho h1 A M hp U
  ·rename_i e h1 A;split at hc
   ·rename_i h4;simp only[rK,rJ] at hc;obtain⟨x',M,rfl⟩:=hc;exact qPv C ho h1 h4 A M hp U
   ·cases hc
  ·cases hc
 ·split at hc
  ·rename_i f first captured h0;simp only[rK,rJ] at hc;obtain⟨xs,h1,rfl⟩:=hc;obtain rfl:=Array.eq_empty_of_size_eq_zero h0;exact qSh C ho h1 hp U
  ·cases hc
 ·split at hc
  ·rename_i e hu;simp only[rK] at hc;obtain⟨sz,h1,z,A,hc⟩:=hc;split at hc
   ·cases hc
   ·rename_i hn;simp only[rK,rJ] at hc;obtain⟨by',M,l',h4,c',h5,rfl⟩:=hc;exact qME C hd ho hu h1 (λe=>hn (.inl e)) M A (EZ.1 λe=>hn (.inr e)) h4 h5 hp U
  ·cases hc
 ·split at hc
  ·rename_i hu;simp only[rK,rJ] at hc;obtain⟨x',A,ab,M,ad,h4,ae,h5,rfl⟩:=hc;exact qJK C ho (.inl ⟨rfl,rfl,hu⟩) A M h4 h5 hp U
  ·rename_i e hu;simp only[rK,rJ] at hc;obtain⟨sz,h1,x',A,ab,M,ad,h4,ae,h5,rfl⟩:=hc;exact qJK C ho (.inr ⟨rfl,e,hu,h1⟩) A M h4 h5 hp U
  ·cases hc
 ·split at hc
  ·rename_i fields hu;simp only[rK] at hc;obtain⟨fd,h1,sz,A,hc⟩:=hc;split at hc
   ·cases hc
   ·rename_i hn;simp only[rK,rJ] at hc;obtain⟨x',M,rfl⟩:=hc;exact qRO C ho hu h1 A hn M hp U
  ·cases hc
 ·split at hc
  ·rename_i e hu;simp only[rK] at hc;obtain⟨sz,A,hc⟩:=hc;split at hc
   ·cases hc
   ·rename_i hn;simp only[rK,rJ] at hc;obtain⟨x',M,i',h4,rfl⟩:=hc;exact qQ2 C ho hu A hn M h4 hp U
  ·rename_i n e hu;simp only[rK] at hc;obtain⟨sz,A,hc⟩:=hc;split at hc
   ·cases hc
   ·rename_i hn;simp only[rK,rJ] at hc;obtain⟨x',M,i',h4,rfl⟩:=hc;exact qOj C ho hu A hn M h4 hp U
  ·cases hc
 ·split at hc
  ·rename_i hu;simp only[rK,rJ] at hc;obtain⟨x',M,i',h4,rfl⟩:=hc;exact qRA C ho hu M h4 hp U
  ·cases hc
 ·split at hc
  ·rename_i hu;simp only[rK,rJ] at hc;obtain⟨x',h1,rfl⟩:=hc;exact qOb C hd ho hu h1 hp U
  ·cases hc
 ·obtain⟨x',h1,rfl⟩:=hc;exact qPM C ho h1 hp U
 ·obtain⟨x',h1,rfl⟩:=hc;exact qMJ C ho h1 hp U
end
end Go.AI
namespace Go.AI
variable [Sym]
section
variable {σ:Ref->Option Ref} {ρ τ:Env} {I:eK} {w:World}
def qGx(A:∀ r s l,σ r=some s->ρ r=some l->τ s=some l){c:Cell}{v:Value}(h:cD ρ I c v):cD τ I (c.eB σ) v:=by
 cases h with
 |p x v hp=>exact .p x v hp
 |ptr r off l e =>
  show cD τ I (match σ r with|some s=>.ptr s off|none=>.jd) _;cases hs:σ r with
  |none=>exact .jd _ rfl
  |some s=>exact .ptr s off l (A _ _ _ hs e)
 |cf r off len cap sz cc l e hl ht hc =>
  show cD τ I (match σ r with|some s=>.cf s off len cap sz|none=>.jd) _;cases hs:σ r with
  |none=>exact .jd _ rfl
  |some s=>exact .cf s off len cap sz cc l (A _ _ _ hs e) hl ht hc
 |func f dD ls e =>
  show cD τ I (match dD.mapM σ with|some rs=>.func f rs|none=>.jd) _;cases hs:dD.mapM σ with
  |none=>exact .jd _ rfl
  |some rs =>
   refine .func f rs ls ?_;have h1:=wc hs;clear hs
   induction dD generalizing rs ls with
   |nil=>cases rs with
    |nil=>cases ls with
     |nil=>trivial
     |cons _ _=>exact e.elim
    |cons _ _=>exact h1.elim
   |cons r dD M=>cases rs with
    |nil=>exact h1.elim
    |cons s rs=>cases ls with
     |nil=>exact e.elim
     |cons l ls=>exact⟨A _ _ _ h1.1 e.1,M ls e.2 rs h1.2⟩
 |gm sz rows r b o cap l hp e hb ho ht =>
  show cD τ I (match σ r with|some s=>.gm sz rows s|none=>.p (.slice sz false rows)) _;cases hs:σ r with
  |none=>exact .p _ _ hp
  |some s=>exact .gm sz rows s b o cap l hp (A _ _ _ hs e) hb ho ht
 |jd v e=>exact .jd v e
def qHC(A:∀ r s l,σ r=some s->ρ r=some l->τ s=some l){c:cN}{v:Value}(h:dV ρ I c v):dV τ I (c.eB σ) v:=by
 cases c with
 |c x=>exact qGx A h
 |agg cs=>obtain⟨arr,e,M⟩:=h; exact⟨arr,e,M.ur (f:=Cell.eB σ) λ_ _=>qGx A⟩
def Zz(A:∀ r s l,σ r=some s->ρ r=some l->τ s=some l){c:bt}{v:Value}(h:fq ρ I c v):fq τ I (c.eB σ) v:=by
 cases c with
 |v x=>exact qHC A h
 |dq vs=>obtain⟨arr,e,M⟩:=h; exact⟨arr,e,M.ur (f:=cN.eB σ) λ_ _=>qHC A⟩
def qMY(M:∀ r s l,σ r=some s->ρ r=some l->τ s=some l){o:bG}{l:Loc}(h:iH ρ I w l o):iH τ I w l (o.eB σ):=by
 cases o with
 |cells cs imm =>
  obtain⟨arr,elem,lo,hi,h1,U,h3,h4,h5⟩:=h;refine⟨arr,elem,lo,hi,h1,U,by simpa using h3,λk c A=>?_,h5⟩;rw[dP] at A;cases hc:cs[k]? with
  |none=>rw[hc] at A; cases A
  |some c' =>
   rw[hc] at A; simp at A; subst A;obtain⟨v,a,b⟩:=h4 k c' hc;exact⟨v,a,qGx M b⟩
 |gO s pos=>exact h
 |dead=>trivial
def qMQ(l:Loc)(o:bG):iz l (o.eB σ)=iz l o:=by cases o <;> rfl
def qHV{c:Cell}{v:Value}(h:cD ρ I c v):cD ρ I c.strip v:=by
 cases h with
 |gm sz rows r b o cap l hp e hb ho ht=>exact .p _ _ hp
 |p x v hp=>exact .p x v hp
 |ptr r off l e=>exact .ptr r off l e
 |cf r off len cap sz cc l e hl ht hc=>exact .cf r off len cap sz cc l e hl ht hc
 |func f dD ls e=>exact .func f dD ls e
 |jd v e=>exact .jd v e
def qHc{c:cN}{v:Value}(h:dV ρ I c v):dV ρ I c.strip v:=by
 cases c with
 |c x=>exact qHV h
 |agg cs=>obtain⟨arr,e,A⟩:=h; exact⟨arr,e,A.ur (f:=Cell.strip) λ_ _=>qHV⟩
def qUp{c:bt}{v:Value}(h:fq ρ I c v):fq ρ I c.strip v:=by
 cases c with
 |v x=>exact qHc h
 |dq vs=>obtain⟨arr,e,A⟩:=h; exact⟨arr,e,A.ur (f:=cN.strip) λ_ _=>qHc⟩
end
def qGc(h:bm):∀ (n:Nat) (todo seen:List Ref),seen.Nodup->(reach h n todo seen).Nodup/\∃ t,reach h n todo seen=seen++t:=by
 intro n
 induction n with
 |zero=>intro todo seen hs; exact⟨by simpa [reach] using hs,[],by simp[reach]⟩
 |succ n A =>
  intro todo seen hs;cases todo with
  |nil=>exact⟨by simpa [reach] using hs,[],by simp[reach]⟩
  |cons r todo =>
   unfold reach;cases hc:seen.contains r with
   |true=>exact A todo seen hs
   |false =>
    simp only[iN];cases U:h.get r with
    |none=>exact A todo seen hs
    |some o =>
     have hn:(seen++[r]).Nodup:=by
      rw[yW];refine⟨hs,bR,λa M b hb=>?_⟩;simp at hb;subst hb;intro e;subst e;have:=rQ.2 M;rw[hc] at this; cases this
     obtain⟨a,t,b⟩:=A (o.refs++todo) (seen++[r]) hn;exact⟨a,r::t,b.trans bR⟩
def qU0:∀ (rs:List Ref) (r:Ref) (i j:Nat),idx r rs i=some j->i<=j/\rs[j - i]?=some r:=by
 intro rs
 induction rs with
 |nil=>intro r i j h; cases h
 |cons s rs A =>
  intro r i j h;unfold idx at h;rw[jC] at h;split at h
  ·rename_i e; cases h; subst e; exact⟨cB _,bR⟩
  ·obtain⟨a,b⟩:=A r (i+1) j h;exact⟨bn,by rw[show j - i=(j - (i+1))+1 by omega]; simpa using b⟩
def qUo{rs:List Ref}{r s:Ref}(h:iU rs r=some s):∃ i,s = .im i/\rs[i]?=some r:=by
 unfold iU at h;cases hi:idx r rs 0 with
 |none=>rw[hi] at h; cases h
 |some i=>rw[hi] at h; simp at h; subst h; exact⟨i,rfl,by simpa using (qU0 rs r 0 i hi).2⟩
def jM(ρ:Env)(rs:List Ref):Env
 |.im i=>rs[i]?.bind ρ
 |.own .. => none
noncomputable def Bi(h:bm)(rs:List Ref)(r:Ref):bG:=match h.get r with|some o=>o.eB (iU rs)|none=>.dead
noncomputable def lH(h:bm)(rs:List Ref):bm:={ bY:=rs.map (Bi h rs),cW:=.nil }
def Z4{ρ:Env}{rs:List Ref}:∀ r s l,iU rs r=some s->ρ r=some l->jM ρ rs s=some l:=λr s l h e=>by
 obtain⟨i,rfl,hi⟩:=qUo h;simp[jM,hi,e]
def OF{h:bm}{rs:List Ref}{r:Ref}{o:bG}(A:(lH h rs).get r=some o):∃ i s x,r = .im i/\rs[i]?=some s/\h.get s=some x/\o=x.eB (iU rs):=by
 cases r with
 |own d g=>simp[lH,bm.get,TM.get] at A
 |im i =>
  have M:=bm.lk A;unfold bm.get lH at A;simp only[dP] at A;cases hs:rs[i]? with
  |none=>rw[hs] at A; simp at A
  |some s =>
   rw[hs] at A;simp only[iO] at A;have:o=Bi h rs s:=by
    split at A
    ·cases A
    ·simpa using A.symm
   subst this;unfold Bi at M ⊢;cases hx:h.get s with
   |none=>rw[hx] at M; exact absurd rfl M
   |some x=>exact⟨i,s,x,rfl,hs,hx,rfl⟩
def Vo{ρ:Env}{h:bm}{rs:List Ref}{b:Nat}(ho:owned (jM ρ rs) (lH h rs) b):owned ρ h b:=by
 obtain⟨r,o,l,h1,A,M⟩:=ho;obtain⟨i,s,x,rfl,hs,hx,rfl⟩:=OF h1;simp[jM,hs] at A;exact⟨s,x,l,hx,A,M⟩
def qQ8{rs:List Ref}(h:rs.Nodup){i j:Nat}{r:Ref}(hi:rs[i]?=some r)(hj:rs[j]?=some r):i=j:=by
 obtain⟨a,b⟩:=cQ.1 hi;obtain⟨c,d⟩:=cQ.1 hj;exact(List.getElem_inj h).1 (b.trans d.symm)
def eC.lH{ρ:Env}{I:eK}{h:bm}{w:World}(H:eC ρ I h w){rs:List Ref}(aa:rs.Nodup):eC (jM ρ rs) I (lH h rs) w where
 live r o A:=by
  obtain⟨i,s,x,rfl,hs,hx,rfl⟩:=OF A;obtain⟨l,e,ho⟩:=H.live s x hx;exact⟨l,by simp[jM,hs,e],qMY Z4 ho⟩
 inj r r' o o' l l' A ab hl M ad:=by
  obtain⟨i,s,x,rfl,hs,hx,rfl⟩:=OF A;obtain⟨i',s',x',rfl,U,ae,rfl⟩:=OF ab;simp[jM,hs] at hl;simp[jM,U] at M;refine H.inj s s' x x' l l' hx ae hl M λe=>?_
  subst e;exact ad (by rw[qQ8 aa hs U])
 gQ:=H.gQ
 sd:=H.sd
 apart r o l A hl b k v hv hb:=by
  obtain⟨i,s,x,rfl,hs,hx,rfl⟩:=OF A;simp[jM,hs] at hl;rw[qMQ];exact H.apart s x l hx hl b k v hv hb
 jW r o l A hl:=by
  obtain⟨i,s,x,rfl,hs,hx,rfl⟩:=OF A;simp[jM,hs] at hl;exact H.jW s x l hx hl
 fresh d g l e:=by simp[jM] at e
 jf i l e:=by
  simp only[jM,rK] at e;obtain⟨s,hs,_⟩:=e;simp only[AI.lH,dj];exact(cQ.1 hs).1
def TM.qF{α:Type}(a:α):∀ (t:TM α) (n:Nat),(t.get n).isSome=true->((TM.set a t n).get n).isSome=true:=by
 intro t
 induction t with
 |nil=>intro n h; cases h
 |node l v r A M =>
  intro n h;rw[TM.pn];rw[TM.dZ] at h;by_cases h0:n=0
  ·subst h0; simp[TM.dZ]
  ·rw[bA h0] at h ⊢;by_cases ho:n % 2=1
   ·rw[bF ho] at h ⊢; rw[TM.dZ,bA h0,bF ho]; exact A _ h
   ·rw[bA ho] at h ⊢; rw[TM.dZ,bA h0,bA ho]; exact M _ h
def Has(h:bm)(r:Ref):Prop:=∀ d g,r = .own d g->∃ x,h.cW.get d=some (g,x)
def Has.og{h:bm}{r:Ref}{o:bG}(A:h.get r=some o):Has h r:=λd g e=>by subst e; exact⟨o,(bm.je A).2⟩
def Has.put{h:bm}{r r':Ref}(U:Has h r)(A:Has h r')(o:bG):Has (h.put r o) r':=by
 intro d g e;cases r with
 |im i=>exact A d g e
 |own d0 g0 =>
  obtain⟨x0,h0⟩:=U d0 g0 rfl;obtain⟨x,hx⟩:=A d g e;by_cases hd:d0=d
  ·subst hd;rw[h0] at hx; cases hx;have:=TM.qF (g,o) h.cW d0 (by rw[h0]; rfl);show ∃ y,(h.cW.set (g,o) d0).get d0=some (g,y);cases M:(TM.set (g,o) h.cW d0).get d0 with
   |none=>rw[M] at this; cases this
   |some p=>have:=TM.jq _ _ _ _ M; subst this; exact⟨o,rfl⟩
  ·exact⟨x,by show(h.cW.set (g0,o) d0).get d=_; rw[TM.ez _ _ _ _ hd]; exact hx⟩
def Has.gen{h:bm}{r:Ref}(A:Has h r)(o:bG)(e:Nat):(h.put r o).gen e=h.gen e:=by
 cases r with
 |im i=>rfl
 |own d g =>
  obtain⟨x,hx⟩:=A d g rfl;by_cases hd:d=e
  ·subst hd;obtain⟨y,M⟩:=Has.put A A o d g rfl;unfold bm.gen;rw[hx,M]
  ·exact bm.si _ _ _ _ _ hd
def qH9:∀ (rs:List Ref) (os:List bG) (h:bm),(∀ r∈rs,Has h r)->(∀ e,(fu h rs os).gen e=h.gen e)/\(fu h rs os).bY.length=h.bY.length:=by
 intro rs
 induction rs with
 |nil=>intro os h _; exact⟨λ_=>rfl,rfl⟩
 |cons r rs U =>
  intro os h A;cases os with
  |nil=>exact⟨λ_=>rfl,rfl⟩
  |cons o os =>
   obtain⟨a,b⟩:=U os (h.put r o) λr' M=>Has.put (A r bR) (A r' (by simp[M])) o
   exact⟨λe=>(a e).trans (Has.gen (A r bR) o e),b.trans (bm.mV _ _ _)⟩
def qOU:∀ (rs:List Ref) (os:List bG) (h:bm),rs.Nodup->rs.length=os.length->∀ r o,(fu h rs os).get r=some o->(∃ i:Nat,rs[i]?=some r/\os[i]?=some o)\/(r∉rs/\h.get r=some o):=by
 intro rs
 induction rs with
 |nil=>intro os h _ _ r o A; exact .inr ⟨bR,A⟩
 |cons s rs M =>
  intro os h hn hl r o A;cases os with
  |nil=>simp at hl
  |cons x os =>
   rw[yV] at hn
   rcases M os (h.put s x) hn.2 (by simpa using hl) r o A with ⟨i,a,b⟩|⟨a,b⟩
   ·exact .inl ⟨i+1,by simpa using a,by simpa using b⟩
   ·rcases bm.pQ h s x r o b with ⟨rfl,rfl⟩|⟨c,d⟩
    ·exact .inl ⟨0,rfl,rfl⟩
    ·exact .inr ⟨by simp[c,a],d⟩
noncomputable def hZ(h:bm)(rs:List Ref)(os:List bG):bm :=
 match os.drop rs.length with
 |[]=>fu h rs (os.take rs.length)
 |_=>{ bY:=(fu h rs (os.take rs.length)).bY++os.drop rs.length,cW:=(fu h rs (os.take rs.length)).cW }
def qGZ(h:bm)(rs:List Ref)(os:List bG):hZ h rs os={ bY:=(fu h rs (os.take rs.length)).bY++os.drop rs.length,cW:=(fu h rs (os.take rs.length)).cW }:=by
 unfold hZ;split
 ·rename_i e; rw[e,fa]
 ·rfl
def qKF{h:bm}{rs:List Ref}{os:List bG}(hn:rs.Nodup)(hl:rs.length<=os.length)(U:∀ r∈rs,Has h r){r:Ref}{o:bG}(A:(hZ h rs os).get r=some o) :
  (∃ i:Nat,rs[i]?=some r/\os[i]?=some o)\/(∃ j,r=dC h.bY.length j/\os[rs.length+j]?=some o)\/(r∉rs/\h.get r=some o):=by
 have M:∀ r o,(fu h rs (os.take rs.length)).get r=some o->(∃ i:Nat,rs[i]?=some r/\os[i]?=some o)\/(∃ j,r=dC h.bY.length j/\os[rs.length+j]?=some o)\/(r∉rs/\h.get r=some o):=by
  intro r o A
  rcases qOU rs _ h hn cM r o A with ⟨i,a,b⟩|b
  ·refine .inl ⟨i,a,?_⟩;rw[nZ] at b;split at b
   ·exact b
   ·cases b
  ·exact .inr (.inr b)
 rw[qGZ] at A;have hlen:=(qH9 rs (os.take rs.length) h U).2;cases r with
 |own e g=>exact M (.own e g) o A
 |im i =>
  by_cases hi:i<h.bY.length
  ·refine M (.im i) o ?_;unfold bm.get at A ⊢;simp only at A ⊢;rw[j5 bn] at A;exact A
  ·refine .inr (.inl ⟨i - h.bY.length,by simp only[dC]; congr 1; omega,?_⟩);unfold bm.get at A;simp only at A;rw[kz bn,hlen,n6] at A;split at A
   ·cases A
   ·exact A
def qKD{h:bm}{rs:List Ref}{os:List bG}(M:∀ r∈rs,Has h r):(∀ e,h.gen e<=(hZ h rs os).gen e)/\h.bY.length<=(hZ h rs os).bY.length /\
  (∀ j,rs.length+j<os.length->(∀ i,dC h.bY.length j = .im i->i<(hZ h rs os).bY.length)):=by
 obtain⟨a,b⟩:=qH9 rs (os.take rs.length) h M;rw[qGZ];refine⟨λe=>yU (a e).symm,by simp only[bV]; omega,λj hj i A=>?_⟩;simp only[dC,Ref.im.injEq] at A;subst A;simp only[bV,j0];omega
end Go.AI
