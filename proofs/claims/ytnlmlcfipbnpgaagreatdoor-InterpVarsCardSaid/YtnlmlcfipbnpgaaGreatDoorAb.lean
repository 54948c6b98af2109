/- An abstract interpreter of the model's code,shown sound. Own work. Condition: what each theorem names. -/
import Derived.Test.YtnlmlcfipbnpgaaGreatDoorAa
import Derived.Laws.AppendOwn
import Derived.Lib.ConvBytes
set_option linter.all false
set_option linter.unusedVariables false
set_option linter.unusedSimpArgs false
set_option linter.unusedSectionVars false
namespace Go.AI
variable [Sym]
section
variable {P:Program} {G:Nat->Option (List PVal)} {ρ:Env} {I:Imm} {h:Heap} {w:World} {tm:TM TVal} {a:Act}
variable {heap:Nat->Bool} {d:Nat} {v:TVal} {h':Heap} {t:Touch} {o:Oper}
theorem qMY{sz:Nat}:∀ {rows:List (List PVal)},(∀ (i:Nat) r,rows[i]?=some r->r.length=sz)->∀ (k:Nat) v,rows.flatten[k]?=some v ->
  ∃ (i:Nat) (r:List PVal) (j:Nat),rows[i]?=some r/\r[j]?=some v/\k=i*sz+j:=by
 intro rows
 induction rows with
 |nil=>intro _ k v e; simp at e
 |cons r rows ih =>
  intro hs k v e;have hr:=hs 0 r rfl;rw[List.flatten_cons] at e;by_cases hk:k<r.length
  ·rw[List.getElem?_append_left hk] at e;exact⟨0,r,k,rfl,e,by omega⟩
  ·rw[List.getElem?_append_right (by omega)] at e;obtain⟨i,r',j,h1,h2,h3⟩:=ih (λi r' e'=>hs (i+1) r' (by simpa using e')) _ _ e;exact⟨i+1,r',j,by simpa using h1,h2,by rw[Nat.add_mul]; omega⟩
theorem qH9{sz:Nat}:∀ {rows:List (List PVal)},(∀ (i:Nat) r,rows[i]?=some r->r.length=sz)->rows.flatten.length=rows.length*sz:=by
 intro rows
 induction rows with
 |nil=>intro _; simp
 |cons r rows ih =>
  intro hs;have hr:=hs 0 r rfl;rw[List.flatten_cons,List.length_append,ih (λi r' e'=>hs (i+1) r' (by simpa using e')),hr,List.length_cons,Nat.add_mul];omega
theorem qCB{sz:Nat}{tight:Bool}{rows:List (List PVal)}{v:Value}(hp:PRel I (.slice sz tight rows) v)(H:WRel ρ I h w) :
  ∃ ad b o cap,v = .slice (some ad) rows.length cap/\rows.length<=cap/\(tight=true->cap=rows.length)/\CellsAt ρ I w b o (pcells rows.flatten)/\(pcells rows.flatten).length=rows.length*sz/\(rows=[]\/ad=⟨b,o,none⟩):=by
 cases hp with|emp _ _ ad cap ht=>(exact⟨ad,0,0,cap,rfl,Nat.zero_le _,ht,λk c hk=>by simp[pcells] at hk,by simp[pcells],.inl rfl⟩)|slice _ _ _ b o cap cv ht hc hs hI hv =>
 refine⟨_,b,o,cap,rfl,hc,ht,λk c hk => ?_,by unfold pcells; rw[List.length_map,qH9 hs],.inr rfl⟩;unfold pcells at hk;rw[List.getElem?_map] at hk;cases hr:rows.flatten[k]? with
 |none=>rw[hr] at hk; cases hk
 |some u =>
  rw[hr] at hk; simp at hk; subst hk;obtain⟨i,r,j,h1,h2,h3⟩:=qMY hs k u hr;exact⟨cv i j,by rw[h3,<- Nat.add_assoc]; exact H.icell _ _ _ (hI i r j u h1 h2),.p _ _ (hv i r j u h1 h2)⟩
theorem qK3{src dst e:TypeId}{x:Operand}(C:Here P G ρ I h w tm a)(ho:o.op = .convert src dst x)(hs:P.underlying src=some (.slice e))(he:P.underlying e=some (.int .u8))(hd:P.underlying dst=some .string)
  {x':X} (hx:compX G x=some x') {p:Plan} (hp:plan tm (.toStr x')=some p) (hg:p.doGo d h=some (v,h',t)):ValOK ρ I h w ((execOp a.eval o).run P w) v h':=by
 have hex:∀ xv w',a.eval x=xv->(∃ b n c,xv = .slice b n c)->(execOp a.eval o).run P w'=((Conv.bytesToString xv).run P w').andThen λv w' => .ok (.value v) w':=by
  intro xv w' e1 ⟨b,n,c,e2⟩;unfold execOp; rw[ho];simp[e1,e2,convert,run_underlying hs,run_underlying hd,run_underlying he]
 have rows_case:∀ (rows:List (List PVal)) s xv,a.eval x=xv->PRel I (.slice 1 false rows) xv\/PRel I (.slice 1 true rows) xv->bytesOfRows rows=some s->p = .pure (.pv (.str s))->ValOK ρ I h w ((execOp a.eval o).run P w) v h':=by
  intro rows s xv e1 hpr hb hpp;subst hpp;have hcells:∃ ad b o cap,xv = .slice (some ad) rows.length cap/\CellsAt ρ I w b o (pcells rows.flatten)/\(pcells rows.flatten).length=rows.length*1/\(rows=[]\/ad=⟨b,o,none⟩):=by
   rcases hpr with hpr|hpr <;> (obtain⟨ad,b,o,cap,c1,_,_,c2,c3,c4⟩:=qCB hpr C.heap; exact⟨ad,b,o,cap,c1,c2,c3,c4⟩)
  obtain⟨ad,b,off,cap,c1,c2,c3,c4⟩:=hcells;obtain⟨hb1,_⟩:=qEG hb;obtain⟨vs,d1,d2⟩:=c2.vals;obtain⟨ns,f1,f2⟩:=qDw d1 hb1;subst f1;have hlen:ns.length=rows.length:=by have:=d1.length; simp[c3] at this; omega
  refine qAD C hg (cv := .string ⟨(ns.map λn=>UInt8.ofNat n.toNat).toArray⟩) ?_ (CRel.p _ _ (.str _ _ (by simp[f2])));rw[hex xv w e1 ⟨_,_,_,c1⟩,c1,qD0 hlen d2 (by rcases c4 with c4|c4; { left; simp[c4] }; { exact .inr c4 })]; rfl
 simp only[plan] at hp;split at hp
 ·rename_i h1;simp only[Option.some.injEq] at hp;subst hp;have hrel:=qAC (C.ev hx h1);generalize hv:a.eval x=xv at hrel;cases hrel with|p _ _ hpv =>
  cases hpv;refine qAD C hg (cv := .string .empty) ?_ (CRel.p _ _ (.str _ _ rfl));rw[hex _ w hv ⟨_,_,_,rfl⟩]; rfl
 ·rename_i tight rows h1;obtain⟨s,hb,hpp⟩:=qAi (f:=λs => .pv (.str s)) hp;have hrel:=qAC (C.ev hx h1);generalize hv:a.eval x=xv at hrel;cases hrel with|p _ _ hpv =>
  exact rows_case rows s xv hv (by cases tight <;> simp[hpv]) hb hpp
 ·rename_i rows r h1;obtain⟨s,hb,hpp⟩:=qAi (f:=λs => .pv (.str s)) hp;have hrel:=qAC (C.ev hx h1);generalize hv:a.eval x=xv at hrel;cases hrel with|tsl _ _ _ b ob cap l hpr e1 e2 e3 e4 =>
  exact rows_case rows s _ hv (.inl hpr) hb hpp
 ·rename_i r off len cap h1;simp only[Option.some.injEq] at hp;subst hp;obtain⟨rfl,ob,h2,h3⟩:=qCE hg;split at h3
  ·rename_i cs imm;split at h3
   ·rename_i hfit;cases hb:bytesOf ((cs.drop off).take len) with
    |none=>rw[hb] at h3; cases h3
    |some s =>
     rw[hb] at h3; simp at h3; subst h3;have hrel:=qAC (C.ev hx h1);generalize hv:a.eval x=xv at hrel;cases hrel with|sref _ _ _ _ _ cc l hl a1 a2 a3 =>
     obtain⟨l',e',hob⟩:=C.heap.live r _ h2;rw[hl] at e'; cases e';obtain⟨vs,d1,d2⟩:=((hob.cellsAt.drop off).take len).vals;obtain⟨ns,f1,f2⟩:=qDw d1 hb;subst f1;have hlen:ns.length=len:=by have:=d1.length; simp at this; omega
     refine ValOK.pure C.heap (cv := .string ⟨(ns.map λn=>UInt8.ofNat n.toNat).toArray⟩) ?_ (CRel.p _ _ (.str _ _ (by simp[f2])));rw[hex _ w hv ⟨_,_,_,rfl⟩,qCM hlen d2]; rfl
   ·cases h3
  ·cases h3
 ·cases hp
theorem qKq{ty:TypeId}(C:Here P G ρ I h w tm a)(hd:d+1<1048576)(ho:o.op = .makeMap ty none){p:Plan}(hp:plan tm .mkmap=some p)(hg:p.doGo d h=some (v,h',t)) :
  ValOK ρ I h w ((execOp a.eval o).run P w) v h':=by
 simp only[plan,Option.some.injEq] at hp;subst hp;obtain⟨rfl,rfl⟩:=qBg hg;have hr:(execOp a.eval o).run P w = .ok (.value (.map (some w.heap.size))) (w.alloc (.map #[] 0)):=by
  unfold execOp; rw[ho]; simp[Instr.makeMap]
 obtain⟨ρ',e1,e2,e3⟩:=qCF (w':=w.alloc (.map #[] 0)) C.heap (Less.refl h) hd (.map [] 0) false ⟨w.heap.size,0,0⟩ rfl (λb hb=>by show(w.heap.push _)[b]?=_; rw[Array.getElem?_push,if_neg hb]) (by simp) ⟨rfl,rfl,rfl⟩ (Imm.le_refl _) (λ_ _ _ e _=>e)
  (λk v e=>absurd (qBu (C.heap.icell _ _ _ e)) (by simp)) rfl (λρ' hle=>⟨#[],by show(w.heap.push _)[_]?=_; simp,trivial⟩)
 exact⟨_,ρ',I,.inl ⟨_,hr,CRel.mref _ _ e1⟩,e2,e3⟩
theorem qO8(z:List Cell)(hz:0<z.length):∀ (n k:Nat),k<n*z.length->(rep n z)[k]?=z[k % z.length]?:=by
 intro n
 induction n with
 |zero=>intro k hk; omega
 |succ n ih =>
  intro k hk;show(z++rep n z)[k]?=_;by_cases h1:k<z.length
  ·rw[List.getElem?_append_left h1,Nat.mod_eq_of_lt h1]
  ·rw[List.getElem?_append_right (by omega),ih _ (by rw[Nat.add_mul] at hk; omega),Nat.mod_eq_sub_mod (show z.length<=k by omega)]
theorem qDF(z:List Cell)(n:Nat):(rep n z).length=n*z.length:=by
 induction n with
 |zero=>simp[rep]
 |succ n ih=>show(z++rep n z).length=_; rw[List.length_append,ih,Nat.add_mul]; omega
theorem qIp{z:List Cell}{zv:Array Value}(hz:All2 (CRel ρ I) z zv.toList)(h0:0<z.length)(n m:Nat)(hm:m=n*z.length):All2 (CRel ρ I) (rep n z) ((Array.range m).map (zv[· % zv.size]!)).toList:=by
 have hl:zv.size=z.length:=by have:=hz.length; simp at this; omega
 refine All2.of_get (by simp[qDF,hm]) λi a b ha hb => ?_
 have hi:i<n*z.length:=by have:=(List.getElem?_eq_some_iff.1 ha).1; rwa [qDF] at this
 rw[qO8 z h0 n i hi] at ha;obtain⟨u,h1,h2⟩:=hz.get _ _ ha;have hb':b=zv[i % zv.size]! := by
  simp only[Array.toList_map,Array.toList_range,List.getElem?_map,List.getElem?_range (hm▸hi)] at hb
  simpa using hb.symm
 rw[hb',hl];have:zv[i % z.length]! = u:=by
  rw[getElem!_def];have:zv[i % z.length]?=some u:=by simpa using h1
  rw[this]
 rw[this];exact h2
theorem qJc{e:TypeId}{n:Nat}(hn:szOf P e=some n):∃ i,P.info? e=some i/\i.size=n:=by
 unfold szOf at hn;cases hi:P.info? e with
 |none=>rw[hi] at hn; cases hn
 |some i=>rw[hi] at hn; exact⟨i,rfl,by simpa using hn⟩
theorem qNU{e:TypeId}{n:Nat}{i:TypeInfo}(hi:P.info? e=some i)(hn:bytesT P e=some n):i.bytes=n:=by
 unfold bytesT at hn; rw[hi] at hn; simpa using hn
theorem qDN(n:Nat)(h:n<=2 ^ 62):IntKind.i64.wrap (n:Int)=n:=by
 have h1:(n:Int) % (2 ^ 64:Int)=n:=Int.emod_eq_of_lt (by omega) (by omega);show(let m:=(n:Int) % (2 ^ 64:Int); if true&&decide (m>=(2 ^ (64 - 1):Int)) then m - (2 ^ 64:Int) else m)=_;simp only[h1];rw[if_neg];simp;omega
end
end Go.AI
namespace Go.AI
variable [Sym]
section
variable {P:Program} {G:Nat->Option (List PVal)} {ρ:Env} {I:Imm} {h:Heap} {w:World} {tm:TM TVal} {a:Act}
variable {heap:Nat->Bool} {d:Nat} {v:TVal} {h':Heap} {t:Touch} {o:Oper}
def OptI:Option Nat->Option Value->Prop
 |none,none=>True
 |some n,some x=>∃ k,x = .int k (n:Int)
 |_,_=>False
theorem qCY(C:Here P G ρ I h w tm a){x:Option Operand}{x':Option X}(hx:optX G x=some x'){n:Option Nat}(hn:optN tm x'=some n):OptI n (x.map a.eval):=by
 cases x with
 |none=>simp[optX] at hx; subst hx; simp[optN] at hn; subst hn; trivial
 |some x =>
  cases hc:compX G x with
  |none=>simp[optX,hc] at hx
  |some y =>
   simp[optX,hc] at hx; subst hx;unfold optN at hn;simp only at hn;cases hy:y.ev tm with
   |none=>rw[hy] at hn; cases hn
   |some u =>
    rw[hy] at hn;simp only at hn;cases hu:asN u with
    |none=>rw[hu] at hn; cases hn
    |some m =>
     rw[hu] at hn; simp at hn; subst hn;exact qBp hu (C.ev hc hy)
theorem qDQ{isSlice:Bool}{len cap:Nat}{lo hi mx:Option Nat}{vlo vhi vmx:Option Value}(h1:OptI lo vlo)(h2:OptI hi vhi)(h3:OptI mx vmx)
  (hm:mx.getD cap<=cap) (hh:hi.getD len<=mx.getD cap) (hl:lo.getD 0<=hi.getD len) (hmh:mx.isSome=true->hi.isSome=true) :
  (Instr.sliceBounds isSlice len cap vlo vhi vmx).run P w = .ok (lo.getD 0,hi.getD len,mx.getD cap) w:=by
 cases lo with
 |none=>cases vlo with
  |some _=>exact h1.elim
  |none =>
   cases hi with
   |none=>cases vhi with
    |some _=>exact h2.elim
    |none=>cases mx with
     |none=>cases vmx with
      |some _=>exact h3.elim
      |none=>simp[Instr.sliceBounds]
     |some m=>simp at hmh
   |some hn=>cases vhi with
    |none=>exact h2.elim
    |some x =>
     obtain⟨kh,rfl⟩:=h2;cases mx with
     |none=>cases vmx with
      |some _=>exact h3.elim
      |none=>simp at hh; simp[Instr.sliceBounds,run_sliceBound,hh]
     |some m=>cases vmx with
      |none=>exact h3.elim
      |some y=>obtain⟨km,rfl⟩:=h3; simp at hh hm; simp[Instr.sliceBounds,run_sliceBound,hh,hm]
 |some ln=>cases vlo with
  |none=>exact h1.elim
  |some z =>
   obtain⟨kl,rfl⟩:=h1;cases hi with
   |none=>cases vhi with
    |some _=>exact h2.elim
    |none=>cases mx with
     |none=>cases vmx with
      |some _=>exact h3.elim
      |none=>simp at hl; simp[Instr.sliceBounds,run_sliceBound,hl]
     |some m=>simp at hmh
   |some hn=>cases vhi with
    |none=>exact h2.elim
    |some x =>
     obtain⟨kh,rfl⟩:=h2;cases mx with
     |none=>cases vmx with
      |some _=>exact h3.elim
      |none=>simp at hh hl; simp[Instr.sliceBounds,run_sliceBound,hh,hl]
     |some m=>cases vmx with
      |none=>exact h3.elim
      |some y=>obtain⟨km,rfl⟩:=h3; simp at hh hm hl; simp[Instr.sliceBounds,run_sliceBound,hh,hm,hl]
theorem qGn{sz:Nat}{tight tight':Bool}{rows:List (List PVal)}{ad:Addr}{cap:Nat}(hp:PRel I (.slice sz tight rows) (.slice (some ad) rows.length cap))(l hh cap':Nat)(hl:l<=hh)(hn:hh<=rows.length)
  (hc:hh - l<=cap') (ht:tight'=true->cap'=hh - l):PRel I (.slice sz tight' ((rows.take hh).drop l)) (.slice (some (ad.add (l*sz))) (hh - l) cap'):=by
 cases hp with|emp _ _ _ _ ht0=>(simp only[List.length_nil,Nat.le_zero] at hn; subst hn; obtain rfl:l=0:=(by omega); simp; exact .emp _ _ _ _ (by simpa using ht))|slice _ _ _ b o _ cv ht0 hc0 hs hI hv =>
 have hlen:((rows.take hh).drop l).length=hh - l:=by simp; omega
 have hget:∀ (i:Nat) r,((rows.take hh).drop l)[i]?=some r->rows[l+i]?=some r:=by
  intro i r e;rw[List.getElem?_drop,List.getElem?_take] at e;split at e
  ·exact e
  ·cases e
 have key:=PRel.slice (I:=I) sz tight' ((rows.take hh).drop l) b (o+l*sz) cap' (λi k=>cv (l+i) k) (λe=>by rw[hlen]; exact ht e) (by rw[hlen]; exact hc) (λi r e=>hs _ r (hget i r e))
  (λi r k v e1 e2=>by rw[show o+l*sz+i*sz+k=o+(l+i)*sz+k by rw[Nat.add_mul]; omega]; exact hI _ r k v (hget i r e1) e2) (λi r k v e1 e2=>hv _ r k v (hget i r e1) e2)
 rw[hlen] at key;rw[qAz];exact key
theorem qF6{sz:Nat}(b o cap:Nat):PRel I (.slice sz false []) (.slice (some ⟨b,o,none⟩) 0 cap) :=
 PRel.slice (I:=I) sz false [] b o cap (λ_ _ => .nilIface) (λe=>by cases e) (Nat.zero_le _) (λi r e=>by simp at e) (λi r k v e=>by simp at e) (λi r k v e=>by simp at e)
theorem qCZ{sz:Nat}{tight:Bool}{rows:List (List PVal)}{v:Value}(hp:PRel I (.slice sz tight rows) v):∃ ad cap,v = .slice (some ad) rows.length cap/\rows.length<=cap/\(tight=true->cap=rows.length):=by
 cases hp with|emp _ _ ad cap ht=>(exact⟨ad,cap,rfl,Nat.zero_le _,ht⟩)|slice _ _ _ b o cap cv ht hc hs hI hv=>exact⟨_,cap,rfl,hc,ht⟩
theorem qM2{sz:Nat}{tight:Bool}{rows:List (List PVal)}{b o n cap:Nat}(hp:PRel I (.slice sz tight rows) (.slice (some ⟨b,o,none⟩) n cap)):n=rows.length/\∃ cv:Nat->Nat->Value,(tight=true->cap=rows.length)/\rows.length<=cap/\(∀ (i:Nat) r,rows[i]?=some r->r.length=sz) /\
  (∀ (i:Nat) r (k:Nat) v,rows[i]?=some r->r[k]?=some v->I.cell b (o+i*sz+k)=some (cv i k))/\(∀ (i:Nat) r (k:Nat) v,rows[i]?=some r->r[k]?=some v->PRel I v (cv i k)):=by
 cases hp with
 |emp _ _ _ _ ht=>exact⟨rfl,λ_ _ => .nilIface,ht,Nat.zero_le _,λi r e=>by simp at e,λi r k v e=>by simp at e,λi r k v e=>by simp at e⟩
 |slice _ _ _ _ _ _ cv ht hc hs hI hv=>exact⟨rfl,cv,ht,hc,hs,hI,hv⟩
theorem qA4{ty e:TypeId}(hu:P.underlying ty=some (.slice e)){sz:Nat}(hn:szOf P e=some sz){ad:Option Addr}{len cap:Nat}{lo hi mx:Option Nat}{vlo vhi vmx:Option Value}(h1:OptI lo vlo)(h2:OptI hi vhi)(h3:OptI mx vmx)
  (hm:mx.getD cap<=cap) (hh:hi.getD len<=mx.getD cap) (hl:lo.getD 0<=hi.getD len) (hmh:mx.isSome=true->hi.isSome=true) :
  (Instr.sliceAt ty (.slice ad len cap) vlo vhi vmx).run P w =
   .ok (.slice (if mx.getD cap=lo.getD 0 then ad else ad.map (·.add (lo.getD 0*sz))) (hi.getD len - lo.getD 0) (mx.getD cap - lo.getD 0)) w:=by
 simp[Instr.sliceAt,Instr.slice,run_underlying hu,qDQ h1 h2 h3 hm hh hl hmh,qAY hn]
theorem qJq{sz:Nat}{tight:Bool}{ad ad':Addr}{n cap:Nat}{rows:List (List PVal)}(h:PRel I (.slice sz tight rows) (.slice (some ad) n cap))(hr:rows=[]):PRel I (.slice sz tight rows) (.slice (some ad') n cap):=by
 subst hr;cases h with|emp _ _ _ _ ht=>(exact .emp _ _ _ _ ht)|slice _ _ _ _ _ _ cv k1 k2 k3 k4 k5 =>
 exact .emp _ _ _ _ k1
theorem qHW{t:Bool}{hh n l cap:Nat}{mx:Option Nat}(h1:t=true->mx.getD cap=hh)(h:tightOf t hh mx=true):mx.getD cap - l=hh - l:=by
 cases mx with
 |none=>have:=h1 h; omega
 |some m=>simp[tightOf] at h; simp; omega
theorem qEz{ty e:TypeId}(hu:P.underlying ty=some (.slice e)){sz:Nat}(hn:szOf P e=some sz){tight t2:Bool}{rows:List (List PVal)}{xv:Value}(hp:PRel I (.slice sz tight rows) xv){lo hi mx:Option Nat}{vlo vhi vmx:Option Value}
  (h1:OptI lo vlo) (h2:OptI hi vhi) (h3:OptI mx vmx) (hmh:mx.isSome=true->hi.isSome=true)
  (hc:lo.getD 0<=hi.getD rows.length/\hi.getD rows.length<=mx.getD rows.length/\mx.getD rows.length<=rows.length) (ht2:t2=true->tight=true/\hi.getD rows.length=rows.length) :
  ∃ cv,(Instr.sliceAt ty xv vlo vhi vmx).run P w = .ok cv w/\PRel I (.slice sz (tightOf t2 (hi.getD rows.length) mx) ((rows.take (hi.getD rows.length)).drop (lo.getD 0))) cv:=by
 obtain⟨ad,cap,rfl,hcap,ht⟩:=qCZ hp;have hm:mx.getD cap<=cap:=by cases mx <;> simp at hc ⊢; omega
 have hh:hi.getD rows.length<=mx.getD cap:=by cases mx <;> simp at hc ⊢ <;> omega
 refine⟨_,qA4 hu hn h1 h2 h3 hm hh hc.1 hmh,?_⟩;have key:=qGn hp (lo.getD 0) (hi.getD rows.length) (mx.getD cap - lo.getD 0) hc.1 (by omega) (by omega) (tight':=tightOf t2 (hi.getD rows.length) mx)
  (λe=>by
   cases mx with
   |none=>obtain⟨x1,x2⟩:=ht2 e; have:=ht x1; simp only[Option.getD_none]; omega
   |some m=>exact qHW (t:=t2) (n:=0) (λ_=>by simp[tightOf] at e; simp[e]) e)
 by_cases hz:mx.getD cap=lo.getD 0
 ·rw[if_pos hz];exact qJq key (List.eq_nil_of_length_eq_zero (by simp; omega))
 ·rw[if_neg hz]; simpa only[Option.map_some] using key
theorem qK5{ty e:TypeId}(hu:P.underlying ty=some (.slice e)){sz:Nat}(hn:szOf P e=some sz){rows:List (List PVal)}{r:Ref}{xv:Value}(hx:CRel ρ I (.tsl sz rows r) xv){lo hi:Option Nat}{vlo vhi:Option Value}
  (h1:OptI lo vlo) (h2:OptI hi vhi) (hh:hi.getD rows.length=rows.length) (hl:lo.getD 0<rows.length) :
  ∃ cv,(Instr.sliceAt ty xv vlo vhi none).run P w = .ok cv w/\CRel ρ I (.tsl sz (rows.drop (lo.getD 0)) r) cv:=by
 cases hx with|tsl _ _ _ b o cap l hp he hb ho ht =>
 obtain⟨_,_,heq,hcap,_⟩:=qCZ hp;have hcap':rows.length<=cap:=by cases heq; exact hcap
 refine⟨_,qA4 hu hn h1 h2 (show OptI none none from trivial) (by simp) (by simp; omega) (by omega) (by simp),?_⟩;simp only[Option.getD_none];rw[hh,if_neg (by omega)];have hd:(rows.take rows.length).drop (lo.getD 0)=rows.drop (lo.getD 0):=by rw[List.take_length]
 have key:=qGn hp (lo.getD 0) rows.length (cap - lo.getD 0) (by omega) (Nat.le_refl _) (by omega) (tight':=false) (λe=>by cases e);rw[hd,qAz] at key;have hl2:(rows.drop (lo.getD 0)).length=rows.length - lo.getD 0:=by simp
 rw[<- hl2] at key ⊢;have h3':(rows.drop (lo.getD 0)).length*sz=rows.length*sz - lo.getD 0*sz:=by rw[hl2,Nat.sub_mul]
 have h4':lo.getD 0*sz<=rows.length*sz:=Nat.mul_le_mul_right _ (by omega);have h5':(cap - lo.getD 0)*sz=cap*sz - lo.getD 0*sz:=Nat.sub_mul _ _ _;have h6':rows.length*sz<=cap*sz:=Nat.mul_le_mul_right _ hcap'
 simpa only[Option.map_some,qAz] using CRel.tsl sz (rows.drop (lo.getD 0)) r b (o+lo.getD 0*sz) (cap - lo.getD 0) l key he hb (by omega) (by omega)
theorem qE6{ty e:TypeId}(hu:P.underlying ty=some (.slice e)){sz:Nat}(hn:szOf P e=some sz){off len:Nat}{cap:Option Nat}{r:Ref}{xv:Value}(hx:CRel ρ I (.sref r off len cap sz) xv){lo hi mx:Option Nat}{vlo vhi vmx:Option Value}
  (h1:OptI lo vlo) (h2:OptI hi vhi) (h3:OptI mx vmx) (hmh:mx.isSome=true->hi.isSome=true) (hc:lo.getD 0<=hi.getD len/\hi.getD len<=mx.getD (cap.getD len)/\mx.getD (cap.getD len)<=cap.getD len) (hz:lo.getD 0=0\/lo.getD 0<mx.getD (cap.getD len)) (c2:Option Nat)
  (hc2:∀ c cc,c2=some c->(∀ c,cap=some c->cc=c)->c=mx.getD cc - lo.getD 0) :
  ∃ cv,(Instr.sliceAt ty xv vlo vhi vmx).run P w = .ok cv w/\CRel ρ I (.sref r (off+lo.getD 0*sz) (hi.getD len - lo.getD 0) c2 sz) cv:=by
 cases hx with|sref _ _ _ _ _ cc l hl a1 a2 a3 =>
 have hcg:cap.getD len<=cc:=by
  cases cap with
  |none=>exact a1
  |some c=>have:=a3 c rfl; simp; omega
 have hm:mx.getD cc<=cc:=by cases mx <;> simp at hc ⊢; omega
 have hh:hi.getD len<=mx.getD cc:=by cases mx <;> simp at hc ⊢ <;> omega
 refine⟨_,qA4 hu hn h1 h2 h3 hm hh hc.1 hmh,?_⟩;have h5':(mx.getD cc - lo.getD 0)*sz=mx.getD cc*sz - lo.getD 0*sz:=Nat.sub_mul _ _ _;have h6':lo.getD 0*sz<=mx.getD cc*sz:=Nat.mul_le_mul_right _ (by omega);have h7':mx.getD cc*sz<=cc*sz:=Nat.mul_le_mul_right _ hm;have key:=CRel.sref (ρ:=ρ) (I:=I) r (off+lo.getD 0*sz) (hi.getD len - lo.getD 0) c2 sz (mx.getD cc - lo.getD 0) l hl (by omega) (by omega) (λc e=>(hc2 c cc e a3).symm);by_cases hz0:mx.getD cc=lo.getD 0
 ·have hl0:lo.getD 0=0:=by
   rcases hz with hz|hz
   ·exact hz
   ·cases mx <;> simp at hz hz0 <;> omega
  rw[if_pos hz0];rw[hl0] at key ⊢
  simpa using key
 ·rw[if_neg hz0]
  simpa only[Option.map_some,qAz,Nat.add_assoc] using key
theorem qHj{ty e:TypeId}(hu:P.underlying ty=some (.slice e)){sz:Nat}(hn:szOf P e=some sz){off len:Nat}{cap:Option Nat}{r:Ref}{xv:Value}(hx:CRel ρ I (.sref r off len cap sz) xv){lo hi:Option Nat}{vlo vhi:Option Value}
  (h1:OptI lo vlo) (h2:OptI hi vhi) (hh:hi.getD len=lo.getD 0) (hle:hi.getD len<=len):∃ cv,(Instr.sliceAt ty xv vlo vhi none).run P w = .ok cv w/\PRel I (.slice sz false []) cv:=by
 cases hx with|sref _ _ _ _ _ cc l hl a1 a2 a3 =>
 refine⟨_,qA4 hu hn h1 h2 (show OptI none none from trivial) (by simp) (by simp; omega) (by omega) (by simp),?_⟩;have e1:hi.getD len - lo.getD 0=0:=by omega
 rw[e1];split
 ·exact qF6 _ _ _
 ·simp only[Option.map_some,qAz]; exact qF6 _ _ _
theorem qJl{ty e:TypeId}(hu:P.underlying ty=some (.slice e)){sz:Nat}(hn:szOf P e=some sz){x c:Cell}{xv:Value}(hx:CRel ρ I x xv){lo hi mx:Option Nat}{vlo vhi vmx:Option Value}(h1:OptI lo vlo)(h2:OptI hi vhi)(h3:OptI mx vmx)
  (hv:sliceV sz false x lo hi mx=some c):∃ cv,(Instr.sliceAt ty xv vlo vhi vmx).run P w = .ok cv w/\CRel ρ I c cv:=by
 unfold sliceV at hv;simp only at hv;split at hv
 ·cases hv
 rename_i hmh0;have hmh:mx.isSome=true->hi.isSome=true:=by
  intro h0; cases hi with
  |none=>simp[h0] at hmh0
  |some _=>rfl
 have hnone:mx.isNone=true->mx=none/\vmx=none:=by
  intro h0;cases mx with
  |none=>cases vmx with
   |none=>exact⟨rfl,rfl⟩
   |some _=>exact h3.elim
  |some _=>cases h0
 simp only[Bool.false_eq_true,if_false] at hv;split at hv
 ·split at hv
  ·rename_i hc;cases hv;cases hx with|p _ _ hp =>
   cases hp;have hmx:mx.getD 0<=0:=by omega
   refine⟨.slice none 0 0,?_,.p _ _ .nilslice⟩;rw[qA4 hu hn h1 h2 h3 hmx (by omega) (by omega) hmh];simp[hc.1,hc.2.1,hc.2.2]
  ·cases hv
 ·rename_i sz0 tight rows;split at hv
  ·rename_i hc;obtain⟨rfl,hc⟩:=hc;cases hv;cases hx with|p _ _ hp =>
   obtain⟨cv,r1,r2⟩:=qEz (P:=P) (w:=w) hu hn hp h1 h2 h3 hmh hc (t2:=tight&&hi.getD rows.length==rows.length) (λe=>by simpa using e);exact⟨cv,r1,.p _ _ r2⟩
  ·cases hv
 ·split at hv
  ·rename_i hc;obtain⟨rfl,hc⟩:=hc;split at hv
   ·rename_i hc2;cases hv;obtain⟨hmn,hhn,hlh⟩:=hc2;obtain⟨rfl,rfl⟩:=hnone hmn;exact qK5 hu hn hx h1 h2 hhn (by omega)
   ·cases hv;cases hx with|tsl _ _ _ b o cap l hp he hb ho ht =>
    obtain⟨cv,r1,r2⟩:=qEz (P:=P) (w:=w) hu hn hp h1 h2 h3 hmh hc (t2:=false) (λe=>by cases e);exact⟨cv,r1,.p _ _ r2⟩
  ·cases hv
 ·split at hv
  ·rename_i hsz;subst hsz;split at hv
   ·rename_i hc;cases hv;obtain⟨rfl,rfl⟩:=hnone hc.2.2.1;obtain⟨cv,r1,r2⟩:=qHj (P:=P) (w:=w) hu hn hx h1 h2 hc.1 hc.2.1;exact⟨cv,r1,.p _ _ r2⟩
   ·split at hv
    ·split at hv
     ·rename_i hc;cases hv
      exact qE6 hu hn hx h1 h2 h3 hmh ⟨hc.1,hc.2.1,Nat.le_refl _⟩ hc.2.2 _ (λc cc e hcc=>by
       rename_i cap _ _ _;cases cap with
       |none=>cases e
       |some c'=>simp at e; have:=hcc c' rfl; simp; omega)
     ·cases hv
    ·rename_i m;split at hv
     ·rename_i hc;cases hv;exact qE6 hu hn hx h1 h2 h3 hmh ⟨hc.1,hc.2.1,hc.2.2.1⟩ (.inr hc.2.2.2) _ (λc cc e hcc=>by cases e; rfl)
     ·cases hv
  ·cases hv
 ·cases hv
theorem qKX{ty:TypeId}(hu:P.underlying ty=some .string){x c:Cell}{xv:Value}(hx:CRel ρ I x xv){lo hi mx:Option Nat}{vlo vhi vmx:Option Value}(h1:OptI lo vlo)(h2:OptI hi vhi)(h3:OptI mx vmx)
  (hv:sliceV 0 true x lo hi mx=some c):∃ cv,(Instr.sliceAt ty xv vlo vhi vmx).run P w = .ok cv w/\CRel ρ I c cv:=by
 unfold sliceV at hv;simp only at hv;split at hv
 ·cases hv
 rename_i hmh0;simp only[if_true] at hv;split at hv
 ·split at hv
  ·rename_i s hc;cases hv;obtain⟨hmn,hl,hh⟩:=hc;have hmx:mx=none/\vmx=none:=by
    cases mx with
    |none=>cases vmx with
     |none=>exact⟨rfl,rfl⟩
     |some _=>exact h3.elim
    |some _=>cases hmn
   obtain⟨rfl,rfl⟩:=hmx;cases hx with|p _ _ hp =>
   cases hp with|str _ b e =>
   have hlen:s.length=b.size:=by rw[<- e]; simp
   have hb:=qDQ (P:=P) (w:=w) (isSlice:=false) (len:=b.size) (cap:=b.size) h1 h2 (show OptI none none from trivial) (by simp) (by simp only[Option.getD_none]; rw[<- hlen]; exact hh) (by rw[<- hlen]; exact hl) (by simp);refine⟨.string (b.extract (lo.getD 0) (hi.getD b.size)),?_,.p _ _ (.str _ _ ?_)⟩
   ·simp only[Option.getD_none] at hb;simp[Instr.sliceAt,Instr.slice,run_underlying hu,hb]
   ·rw[hlen,<- e,ByteArray.data_extract];simp[List.extract_eq_take_drop,List.drop_take]
  ·cases hv
 ·cases hv
theorem qFx{ty:TypeId}{x:Operand}{lo hi mx:Option Operand}(C:Here P G ρ I h w tm a)(ho:o.op = .slice ty x lo hi mx){sz:Nat}{str:Bool}
  (hk:(str=true/\sz=0/\P.underlying ty=some .string)\/(str=false/\∃ e,P.underlying ty=some (.slice e)/\szOf P e=some sz)) {x':X} {lo' hi' mx':Option X} (hx:compX G x=some x') (h1:optX G lo=some lo') (h2:optX G hi=some hi') (h3:optX G mx=some mx')
  {p:Plan} (hp:plan tm (.slice sz str x' lo' hi' mx')=some p) (hg:p.doGo d h=some (v,h',t)):ValOK ρ I h w ((execOp a.eval o).run P w) v h':=by
 simp only[plan] at hp;split at hp
 ·rename_i c l hh m e1 e2 e3 e4;obtain⟨cc,hc,rfl⟩:=qAi (f:=λc => .v (.c c)) hp;have r1:=qCY C h1 e2;have r2:=qCY C h2 e3;have r3:=qCY C h3 e4;have hrel:=qAC (C.ev hx e1);have main:∃ cv,(Instr.sliceAt ty (a.eval x) (lo.map a.eval) (hi.map a.eval) (mx.map a.eval)).run P w = .ok cv w/\CRel ρ I cc cv:=by
   rcases hk with ⟨rfl,rfl,hu⟩|⟨rfl,e,hu,hn⟩
   ·exact qKX hu hrel r1 r2 r3 hc
   ·exact qJl hu hn hrel r1 r2 r3 hc
  obtain⟨cv,s1,s2⟩:=main;refine qAD C hg (cv:=cv) ?_ s2;unfold execOp; rw[ho];simp[s1]
 ·cases hp
end
end Go.AI
namespace Go.AI
variable [Sym]
section
variable {P:Program} {G:Nat->Option (List PVal)} {ρ:Env} {I:Imm} {h:Heap} {w:World} {tm:TM TVal} {a:Act}
variable {heap:Nat->Bool} {d:Nat} {v:TVal} {h':Heap} {t:Touch} {o:Oper}
theorem qJH{ty e:TypeId}{n:Nat}{x:Operand}{lo hi:Option Operand}(C:Here P G ρ I h w tm a)(ho:o.op = .slice ty x lo hi none)(hu:P.underlying ty=some (.array n e)){sz:Nat}(hn:szOf P e=some sz)
  {x':X} {lo' hi':Option X} (hx:compX G x=some x') (h1:optX G lo=some lo') (h2:optX G hi=some hi') {p:Plan} (hp:plan tm (.sliceA n sz x' lo' hi')=some p) (hg:p.doGo d h=some (v,h',t)) :
  ValOK ρ I h w ((execOp a.eval o).run P w) v h':=by
 simp only[plan] at hp;split at hp
 ·rename_i r off l hh e1 e2 e3;split at hp
  ·rename_i hc;simp only[Option.some.injEq] at hp;subst hp;obtain⟨rfl,ob,q1,q2⟩:=qCE hg;split at q2
   ·rename_i cs imm;split at q2
    ·rename_i hfit;cases q2;obtain⟨lc,hl,hv⟩:=qB3 (C.ev hx e1);obtain⟨lc',e',hob⟩:=C.heap.live r _ q1;rw[hl] at e'; cases e';obtain⟨arr,elem,lo0,hi0,o1,o2,o3,_,_⟩:=hob;have hb:=qDQ (P:=P) (w:=w) (isSlice:=false) (len:=n) (cap:=n) (qCY C h1 e2) (qCY C h2 e3) (show OptI none none from trivial) (by simp) (by simp; exact hc.2.1) hc.1 (by simp);have h5':(n - l.getD 0)*sz=n*sz - l.getD 0*sz:=Nat.sub_mul _ _ _;have h6':l.getD 0*sz<=n*sz:=Nat.mul_le_mul_right _ (by omega);have key:=CRel.sref (ρ:=ρ) (I:=I) r (off+l.getD 0*sz) (hh.getD n - l.getD 0) (some (n - l.getD 0)) sz (n - l.getD 0) lc hl (by omega) (by omega) (λc e=>by cases e; rfl);refine ValOK.pure C.heap ?_ key;simp only[Option.getD_none] at hb;have hne:¬ (n=l.getD 0):=by omega
     unfold execOp; rw[ho];simp[Instr.sliceAt,run_underlying hu,hv,Instr.sureAddr,hb,qAY hn,hne,qAz,Nat.add_assoc]
    ·cases q2
   ·cases q2
  ·cases hp
 ·cases hp
def KindIs(kk:Nat)(kd:TypeDesc):Prop:=(kk=1/\∃ k,kd = .int k)\/(kk=2/\kd = .string)\/(kk=3/\kd = .bool)
theorem qD2{kt:TypeId}{kk:Nat}(h:keyKind P kt=some kk):∃ kd,P.underlying kt=some kd/\KindIs kk kd:=by
 unfold keyKind at h;split at h
 ·rename_i k hu; cases h; exact⟨_,hu,.inl ⟨rfl,k,rfl⟩⟩
 ·rename_i hu; cases h; exact⟨_,hu,.inr (.inl ⟨rfl,rfl⟩)⟩
 ·rename_i hu; cases h; exact⟨_,hu,.inr (.inr ⟨rfl,rfl⟩)⟩
 ·cases h
theorem qF4(x y:ByteArray):(x==y)=(x.data.toList==y.data.toList):=by
 have h:(x==y)=(x.data==y.data):=by cases x; cases y; rfl
 rw[h,Bool.eq_iff_iff];simp only[beq_iff_eq];exact⟨λe=>by rw[e],λe=>Array.ext' e⟩
theorem qGG{kk:Nat}{kd:TypeDesc}(hk:KindIs kk kd){p q:PVal}{vp vq:Value}(hp:PRel I p vp)(hq:PRel I q vq){b:Bool}(h:keyEq kk p q=some b) :
  Instr.sameNow kd vp vq=some b/\(b=true->Instr.sameBits 10000 vq vp=true):=by
 unfold keyEq at h;split at h
 ·cases hp; cases hq;split at h
  ·rename_i hc;obtain⟨rfl,rfl⟩:=hc;cases h
   rcases hk with ⟨_,k,rfl⟩|⟨h0,_⟩|⟨h0,_⟩
   ·refine⟨by simp[Instr.sameNow],λe => ?_⟩;simp at e; subst e;show(_==_&&_==_)=true;simp
   ·cases h0
   ·cases h0
  ·cases h
 ·cases hp with|str _ x ex=>cases hq with|str _ y ey =>
  split at h
  ·rename_i hc;subst hc;cases h
   rcases hk with ⟨h0,_⟩|⟨_,rfl⟩|⟨h0,_⟩
   ·cases h0
   ·refine⟨by subst ex ey; simp only[Instr.sameNow,qF4],λe => ?_⟩;subst ex ey;show(y==x)=true;rw[qF4];simp at e;simp[e]
   ·cases h0
  ·cases h
 ·cases hp; cases hq;split at h
  ·rename_i hc;subst hc;cases h
   rcases hk with ⟨h0,_⟩|⟨h0,_⟩|⟨_,rfl⟩
   ·cases h0
   ·cases h0
   ·refine⟨by simp[Instr.sameNow],λe => ?_⟩;simp at e; subst e;show(_==_)=true;simp
  ·cases h
 ·cases h
theorem qC0{kk:Nat}{kd:TypeDesc}(hk:KindIs kk kd){key:PVal}{kv:Value}(hkey:PRel I key kv):∀ {es:List (PVal×Comp)}{arr:List MapEntry}(i:Nat),
  All2 (λa e=>PRel I a.1 e.key/\CompRel ρ I a.2 e.val) es arr->∀ {r:Option (Nat×Comp)},findE kk key es i=some r ->
  (r=none/\Instr.findNow kd kv arr i=some none)\/(∃ j c e,r=some (j,c)/\Instr.findNow kd kv arr i=some (some (j,e.val))/\CompRel ρ I c e.val/\i<=j/\arr[j - i]?=some e/\Instr.sameBits 10000 e.key kv=true):=by
 intro es
 induction es with
 |nil =>
  intro arr i h r hr;cases arr with
  |nil=>simp[findE] at hr; subst hr; exact .inl ⟨rfl,rfl⟩
  |cons _ _=>exact h.elim
 |cons e es ih =>
  intro arr i h r hr;cases arr with
  |nil=>exact h.elim
  |cons x arr =>
   obtain⟨k,c⟩:=e;unfold findE at hr;split at hr
   ·rename_i hke;cases hr;obtain⟨h1,h2⟩:=qGG hk hkey h.1.1 hke;exact .inr ⟨i,c,x,rfl,by simp[Instr.findNow,h1],h.1.2,Nat.le_refl _,by simp,h2 rfl⟩
   ·rename_i hke;obtain⟨h1,_⟩:=qGG hk hkey h.1.1 hke
    rcases ih (i+1) h.2 hr with ⟨a1,a2⟩|⟨j,c',e',a1,a2,a3,a4,a5,a6⟩
    ·exact .inl ⟨a1,by simp[Instr.findNow,h1,a2]⟩
    ·exact .inr ⟨j,c',e',a1,by simp[Instr.findNow,h1,a2],a3,by omega,by rw[show j - i=(j - (i+1))+1 by omega]; simpa using a5,a6⟩
   ·cases hr
theorem qAu{kt:TypeId}{kd:TypeDesc}(hu:P.underlying kt=some kd){kk:Nat}(hk:KindIs kk kd)(em:Bool)(x:Value)(w:World):(Instr.checkKey em 10000 kt x).run P w = .ok () w:=by
 obtain⟨n,hn⟩:∃ n,10000=n+1:=⟨9999,rfl⟩;rw[hn];unfold Instr.checkKey
 rcases hk with ⟨_,k,rfl⟩|⟨_,rfl⟩|⟨_,rfl⟩ <;> simp[run_underlying hu]
theorem qBL{kt:TypeId}{kd:TypeDesc}(hu:P.underlying kt=some kd){kv:Value}{arr:List MapEntry}{r:Option (Nat×Value)}(hf:Instr.findNow kd kv arr 0=some r)(w:World):(Instr.findKey kt kv arr).run P w = .ok r w:=by
 simp[Instr.findKey,run_underlying hu,hf]
theorem qDo{zero:Comp}{zv:Value}(hz:CompRel ρ I zero zv)(ok:Bool):TRel ρ I (found zero ok none) (if ok then .tuple #[zv,.bool false] else zv):=by
 cases ok
 ·exact hz
 ·exact⟨_,rfl,hz,CRel.p _ _ (.bool _),trivial⟩
theorem qFQ{zero c:Comp}{cv:Value}(hz:CompRel ρ I c cv)(ok:Bool)(j:Nat):TRel ρ I (found zero ok (some (j,c))) (if ok then .tuple #[cv,.bool true] else cv):=by
 cases ok
 ·exact hz
 ·exact⟨_,rfl,hz,CRel.p _ _ (.bool _),trivial⟩
theorem qNk{es:List (PVal×Bool×List PVal)}{v:Value}(hp:PRel I (.pmap es) v):∃ b clock arr,v = .map (some b)/\I.map b=some (arr,clock)/\All2 (λa (e:MapEntry)=>PRel I a.1 e.key/\CompRel ρ I a.2 e.val) (es.map pmComp) arr.toList:=by
 cases hp with|pmap _ b clock arr kv cv born hI hl ha hk hv =>
 refine⟨b,clock,arr,rfl,hI,All2.of_get (by simp[hl]) λi x e h1 h2 => ?_⟩;rw[List.getElem?_map] at h1;cases he:es[i]? with
 |none=>rw[he] at h1; cases h1
 |some y =>
  rw[he] at h1; simp at h1; subst h1;obtain⟨k,ag,cs⟩:=y;obtain⟨a1,a2⟩:=ha i k ag cs he;have h2':arr[i]?=some e:=by simpa using h2
  rw[a1] at h2';cases h2';refine⟨hk i k ag cs he,?_⟩;cases ag
  ·have hl1:=a2 rfl
   match cs,hl1 with
   |[x],_=>exact CRel.p _ _ (hv i k false [x] 0 x he rfl)
  ·refine⟨_,rfl,All2.of_get (by simp[pcells]) λj c u e1 e2 => ?_⟩;simp only[pcells,List.getElem?_map] at e1;cases hc:cs[j]? with
   |none=>rw[hc] at e1; cases e1
   |some z =>
    rw[hc] at e1; simp at e1; subst e1;have hjl:j<cs.length:=(List.getElem?_eq_some_iff.1 hc).1;simp only[List.getElem?_map,List.getElem?_range hjl,Option.map_some,Option.some.injEq] at e2;subst e2;exact .p _ _ (hv i k true cs j z he hc)
theorem qJp{ty kt e:TypeId}{ok:Bool}{x i:Operand}(C:Here P G ρ I h w tm a)(ho:o.op = .lookup ty x i ok)(hu:P.underlying ty=some (.map kt e)){kk:Nat}(hkk:keyKind P kt=some kk){z:Comp}(hz:zeroT P e=some z)
  {x' i':X} (hx:compX G x=some x') (hi:compX G i=some i') {p:Plan} (hp:plan tm (.lookup kk z x' i' ok)=some p) (hg:p.doGo d h=some (v,h',t)):ValOK ρ I h w ((execOp a.eval o).run P w) v h':=by
 obtain⟨kd,hku,hkd⟩:=qD2 hkk;obtain⟨inf,zv,z1,z2,z3⟩:=zeroT_info hz;have hzr:CompRel ρ I z zv:=qA1 z3;simp only[plan] at hp;split at hp
 ·rename_i key h1 h2;simp only[Option.some.injEq] at hp;subst hp;have hrel:=qAC (C.ev hx h1);generalize hv:a.eval x=xv at hrel;cases hrel with|p _ _ hpv =>
  cases hpv;refine qAD C hg (cv:=if ok then .tuple #[zv,.bool false] else zv) ?_ (qDo hzr ok);unfold execOp; rw[ho];simp[Instr.lookup,run_underlying hu,hv,qAu hku hkd,Instr.findKey,run_underlying hku,Instr.findNow,qA7 z1 z2]
 ·rename_i es key h1 h2;obtain⟨r,hr,rfl⟩:=qAi (f:=found z ok) hp;have hrel:=qAC (C.ev hx h1);generalize hv:a.eval x=xv at hrel;cases hrel with|p _ _ hpv =>
  have hkey:=qAC (C.ev hi h2);generalize hvi:a.eval i=iv at hkey;cases hkey with|p _ _ hpk =>
  obtain⟨b,clock,arr,rfl,hI,hents⟩:=qNk (ρ:=ρ) hpv;have hm:=C.heap.imap _ _ _ hI
  rcases qC0 hkd hpk 0 hents hr with ⟨rfl,hf⟩|⟨j,c,en,rfl,hf,hc,_,_,_⟩
  ·refine qAD C hg (cv:=if ok then .tuple #[zv,.bool false] else zv) ?_ (qDo hzr ok);unfold execOp; rw[ho];simp[Instr.lookup,run_underlying hu,hv,hvi,getObj,Sem.run,hm,qAu hku hkd,qBL hku hf,qA7 z1 z2]
  ·refine qAD C hg (cv:=if ok then .tuple #[en.val,.bool true] else en.val) ?_ (qFQ hc ok j);unfold execOp; rw[ho];simp[Instr.lookup,run_underlying hu,hv,hvi,getObj,Sem.run,hm,qAu hku hkd,qBL hku hf]
 ·rename_i r key h1 h2;simp only[Option.some.injEq] at hp;subst hp;obtain⟨rfl,ob,q1,q2⟩:=qCE hg;split at q2
  ·rename_i es clock;cases hfe:findE kk key (es.map λe=>(e.1,e.2.1)) 0 with
   |none=>rw[hfe] at q2; cases q2
   |some r' =>
    rw[hfe] at q2; simp at q2; subst q2;have hrel:=qAC (C.ev hx h1);generalize hv:a.eval x=xv at hrel;cases hrel with|mref _ l hl =>
    have hkey:=qAC (C.ev hi h2);generalize hvi:a.eval i=iv at hkey;cases hkey with|p _ _ hpk =>
    obtain⟨arr,hm,hents⟩:=qFc C.heap q1 hl;have hents':All2 (λa (e:MapEntry)=>PRel I a.1 e.key/\CompRel ρ I a.2 e.val) (es.map λe=>(e.1,e.2.1)) arr.toList:=hents.mapL λa e x=>⟨x.1,x.2.1⟩
    rcases qC0 hkd hpk 0 hents' hfe with ⟨rfl,hf⟩|⟨j,c,en,rfl,hf,hc,_,_,_⟩
    ·refine ValOK.pure C.heap (cv:=if ok then .tuple #[zv,.bool false] else zv) ?_ (qDo hzr ok);unfold execOp; rw[ho];simp[Instr.lookup,run_underlying hu,hv,hvi,getObj,Sem.run,hm,qAu hku hkd,qBL hku hf,qA7 z1 z2]
    ·refine ValOK.pure C.heap (cv:=if ok then .tuple #[en.val,.bool true] else en.val) ?_ (qFQ hc ok j);unfold execOp; rw[ho];simp[Instr.lookup,run_underlying hu,hv,hvi,getObj,Sem.run,hm,qAu hku hkd,qBL hku hf]
  ·cases q2
 ·cases hp
end
end Go.AI
namespace Go.AI
variable [Sym]
section
variable {P:Program} {G:Nat->Option (List PVal)} {ρ:Env} {I:Imm} {h:Heap} {w:World} {tm:TM TVal} {a:Act}
variable {heap:Nat->Bool} {d:Nat} {v:TVal} {h':Heap} {t:Touch} {o:Oper}
theorem qDu{r:Ref}{x obj:AObj}{l:Loc}{c:Obj}(H:WRel ρ I h w)(hr:h.get r=some x)(hrl:ρ r=some l)(hx:∃ c0,w.heap[l.blk]?=some c0/\(∀ a b c,c0 ≠ .cells a b c))
  (hobj:∀ w':World,w'.heap[l.blk]?=some c->ObjRel ρ I w' l obj) :
  let w':World:={ w with heap:=w.heap.setIfInBounds l.blk c }
  WRel ρ I (h.put r obj) w'/\Good ρ I h w ρ I (h.put r obj) w':=by
 intro w';obtain⟨c0,h0,h1⟩:=hx;have hlt:l.blk<w.heap.size:=(Array.getElem?_eq_some_iff.1 h0).1;have hc:w'.heap[l.blk]?=some c:=by show(w.heap.setIfInBounds l.blk c)[l.blk]?=_; rw[Array.getElem?_setIfInBounds_self_of_lt hlt]
 refine qHZ H hr hrl (λb hb => ?_) (by show _<=(w.heap.setIfInBounds l.blk c).size; simp) ⟨rfl,rfl,rfl⟩ (λk v e => ?_) (hobj _ hc)
 ·show(w.heap.setIfInBounds l.blk c)[b]?=_; rw[Array.getElem?_setIfInBounds_ne (Ne.symm hb)]
 ·have:=H.icell _ _ _ e;exfalso;simp only[World.cell?,h0] at this;cases c0 <;> simp_all
theorem qLc{ty kt e:TypeId}{m k y:Operand}(C:Here P G ρ I h w tm a)(ho:o.op = .mapUpdate ty m k y)(hu:P.underlying ty=some (.map kt e)){kk:Nat}(hkk:keyKind P kt=some kk)
  {m' k' y':X} (hm:compX G m=some m') (hk:compX G k=some k') (hy:compX G y=some y') {p:Plan} (hp:plan tm (.mapup kk m' k' y')=some p) (hg:p.doGo d h=some (v,h',t)):ValOK ρ I h w ((execOp a.eval o).run P w) v h':=by
 obtain⟨kd,hku,hkd⟩:=qD2 hkk;simp only[plan] at hp;split at hp
 ·rename_i r key x h1 h2 h3;simp only[Option.some.injEq] at hp;subst hp;obtain⟨ob,ob',q1,q2,rfl⟩:=qDZ hg;split at q2
  ·rename_i es clock;have hrel:=qAC (C.ev hm h1);generalize hv:a.eval m=mv at hrel;cases hrel with|mref _ l hl =>
   have hkey:=qAC (C.ev hk h2);generalize hvk:a.eval k=kv at hkey;cases hkey with|p _ _ hpk =>
   have hval:CompRel ρ I x (a.eval y):=C.ev hy h3;obtain⟨arr,hmm,hents⟩:=qFc C.heap q1 hl;have hents':All2 (λa (e:MapEntry)=>PRel I a.1 e.key/\CompRel ρ I a.2 e.val) (es.map λe=>(e.1,e.2.1)) arr.toList:=hents.mapL λa e x=>⟨x.1,x.2.1⟩
   split at q2
   ·rename_i i c hfe;simp only[Option.some.injEq,Prod.mk.injEq] at q2;obtain⟨rfl,rfl⟩:=q2
    rcases qC0 hkd hpk 0 hents' hfe with ⟨h0,_⟩|⟨j,c',en,h0,hf,hc,_,harr,hsb⟩
    ·cases h0
    ·cases h0;simp only[Nat.sub_zero,Array.getElem?_toList] at harr
     obtain⟨s1,s2⟩:=qDu (c := .map (arr.modify i λe=>{ e with key:=kv,val:=a.eval y }) clock) (obj := .map (es.modify i λe=>(key,x,e.2.2)) clock) C.heap q1 hl ⟨_,hmm,by simp⟩ (λw' hw'=>⟨_,hw',by
      refine All2.of_get (by simp; have:=hents.length; simpa using this) λn p q e1 e2 => ?_
      simp only[Array.toList_modify,List.getElem?_modify] at e1 e2;by_cases hn:i=n
      ·subst hn;cases hes:es[i]? with
       |none=>rw[hes] at e1; simp at e1
       |some p0 =>
        rw[hes] at e1; simp at e1; subst e1;obtain⟨q0,f1,f2⟩:=hents.get _ _ hes;rw[f1] at e2; simp at e2; subst e2;exact⟨hpk,hval,f2.2.2⟩
      ·cases hes:es[n]? with
       |none=>rw[hes] at e1; simp[hn] at e1
       |some p0 =>
        rw[hes] at e1; simp[hn] at e1; subst e1;obtain⟨q0,f1,f2⟩:=hents.get _ _ hes;rw[f1] at e2; simp[hn] at e2; subst e2
        exact f2⟩)
     refine⟨_,ρ,I,.inr ⟨?_,rfl⟩,s1,s2⟩;have hkeep:(Instr.keyThatStays en.key kv).run P w = .ok kv w:=by simp[Instr.keyThatStays,hsb]
     unfold execOp; rw[ho];simp[Instr.mapUpdate,run_underlying hu,hv,hvk,getObj,Sem.run,hmm,qAu hku hkd,qBL hku hf,harr,hkeep,setObj]
   ·rename_i hfe;simp only[Option.some.injEq,Prod.mk.injEq] at q2;obtain⟨rfl,rfl⟩:=q2
    rcases qC0 hkd hpk 0 hents' hfe with ⟨_,hf⟩|⟨j,c',en,h0,_⟩
    ·obtain⟨s1,s2⟩:=qDu (c := .map (arr.push { key:=kv,val:=a.eval y,born:=clock }) (clock+1)) (obj := .map (es++[(key,x,clock)]) (clock+1)) C.heap q1 hl ⟨_,hmm,by simp⟩ (λw' hw'=>⟨_,hw',by
      rw[Array.toList_push]
      exact hents.append ⟨⟨hpk,hval,rfl⟩,trivial⟩⟩)
     refine⟨_,ρ,I,.inr ⟨?_,rfl⟩,s1,s2⟩;unfold execOp; rw[ho];simp[Instr.mapUpdate,run_underlying hu,hv,hvk,getObj,Sem.run,hmm,qAu hku hkd,qBL hku hf,setObj]
    ·cases h0
   ·cases q2
  ·cases q2
 ·cases hp
theorem qI0{ty:TypeId}{x:Operand}(C:Here P G ρ I h w tm a)(hd:d+1<1048576)(ho:o.op = .range ty x)(hu:P.underlying ty=some .string){x':X}(hx:compX G x=some x'){p:Plan}(hp:plan tm (.rangeS x')=some p)(hg:p.doGo d h=some (v,h',t)) :
  ValOK ρ I h w ((execOp a.eval o).run P w) v h':=by
 simp only[plan] at hp;split at hp
 ·rename_i s h1;simp only[Option.some.injEq] at hp;subst hp;obtain⟨rfl,rfl⟩:=qBg hg;obtain⟨b,e,hs⟩:=qB5 (C.ev hx h1);have hr:(execOp a.eval o).run P w = .ok (.value (.pointer (some ⟨w.heap.size,0,none⟩))) (w.alloc (.stringIter b 0)):=by
   unfold execOp; rw[ho]; simp[Instr.range,run_underlying hu,e]
  obtain⟨ρ',e1,e2,e3⟩:=qCF (w':=w.alloc (.stringIter b 0)) C.heap (Less.refl h) hd (.siter s 0) false ⟨w.heap.size,0,0⟩ rfl (λb hb=>by show(w.heap.push _)[b]?=_; rw[Array.getElem?_push,if_neg hb]) (by simp) ⟨rfl,rfl,rfl⟩ (Imm.le_refl _) (λ_ _ _ e _=>e)
   (λk v e=>absurd (qBu (C.heap.icell _ _ _ e)) (by simp)) rfl (λρ' hle=>⟨b,by show(w.heap.push _)[_]?=_; simp,hs,rfl⟩)
  exact⟨_,ρ',I,.inl ⟨_,hr,CRel.ptr _ 0 _ e1⟩,e2,e3⟩
 ·cases hp
theorem qLW{x:Operand}(C:Here P G ρ I h w tm a)(ho:o.op = .next x true){x':X}(hx:compX G x=some x'){p:Plan}(hp:plan tm (.nextS x')=some p)(hg:p.doGo d h=some (v,h',t)) :
  ValOK ρ I h w ((execOp a.eval o).run P w) v h':=by
 simp only[plan] at hp;split at hp
 ·rename_i r h1;simp only[Option.some.injEq] at hp;subst hp;obtain⟨ob,ob',q1,q2,rfl⟩:=qDZ hg;obtain⟨l,hl,hv⟩:=qB3 (C.ev hx h1);split at q2
  ·rename_i s pos;obtain⟨l',e',hob⟩:=C.heap.live r _ q1;rw[hl] at e'; cases e';obtain⟨b,hb,hs,hbase⟩:=hob;have hsize:s.length=b.size:=by rw[<- hs]; simp
   have hut:utf8At s pos=Utf8.decode b pos:=by unfold utf8At; rw[<- hs]
   rw[hbase] at hv;split at q2
   ·rename_i hlt;simp only[Option.some.injEq,Prod.mk.injEq] at q2;obtain⟨rfl,rfl⟩:=q2;obtain⟨s1,s2⟩:=qDu (c := .stringIter b (pos+(Utf8.decode b pos).2)) (obj := .siter s (pos+(utf8At s pos).2)) C.heap q1 hl ⟨_,hb,by simp⟩ (λw' hw'=>⟨b,by rw[hw',hut],hs,hbase⟩);refine⟨_,ρ,I,.inl ⟨.tuple #[.bool true,.int .i64 pos,.int .i32 (Utf8.decode b pos).1],?_,_,rfl,CRel.p _ _ (.bool _),CRel.p _ _ (.int _ _),?_,trivial⟩,s1,s2⟩
    ·have hlt':pos<b.size:=by omega
     unfold execOp; rw[ho];simp[Instr.next,hv,getObj,Sem.run,hb,hlt',setObj,goInt]
    ·rw[hut]; exact CRel.p _ _ (.int _ _)
   ·rename_i hge;simp only[Option.some.injEq,Prod.mk.injEq] at q2;obtain⟨rfl,rfl⟩:=q2
    obtain⟨s1,s2⟩:=qHZ (w':=w) (obj := .siter s pos) C.heap q1 hl (λ_ _=>rfl) (Nat.le_refl _) ⟨rfl,rfl,rfl⟩ (λk v e=>by
     have:=C.heap.icell _ _ _ e
     simp[World.cell?,hb] at this) ⟨b,hb,hs,hbase⟩
    refine⟨_,ρ,I,.inl ⟨.tuple #[.bool false],?_,_,rfl,CRel.p _ _ (.bool _),trivial⟩,s1,s2⟩;have hge':¬ pos<b.size:=by omega
    unfold execOp; rw[ho];simp[Instr.next,hv,getObj,Sem.run,hb,hge']
  ·cases q2
 ·cases hp
theorem qGx{x:Option TVal}{k:IntKind}{n:Int}(h:tInt x=some (k,n)):x=some (.v (.c (.p (.int k n)))):=by
 unfold tInt at h;split at h
 ·cases h; rfl
 ·cases h
theorem qJw{mx:Bool}{k0:IntKind}:∀ {xs:List X}{os:List Operand}{n0 m:Int},Here P G ρ I h w tm a->All2 (λo x=>compX G o=some x) os xs->foldMM mx n0 (xs.map λx=>x.ev tm)=some m ->
  ((os.map a.eval).foldlM (if mx then Builtin.max2 else Builtin.min2) (.int k0 n0)).run P w = .ok (.int k0 m) w:=by
 intro xs
 induction xs with
 |nil =>
  intro os n0 m C hxs hc;cases os with
  |nil=>simp[foldMM] at hc; subst hc; simp
  |cons _ _=>exact hxs.elim
 |cons x xs ih =>
  intro os n0 m C hxs hc;cases os with
  |nil=>exact hxs.elim
  |cons o os =>
   simp only[List.map_cons,foldMM] at hc;split at hc
   ·rename_i k n hx;have hv:=qB2 (C.ev hxs.1 (qGx hx));have h2:=ih C hxs.2 hc;cases mx
    ·simp only[Bool.false_eq_true,if_false] at h2 ⊢;simp only[List.map_cons,List.foldlM_cons,Sem.run_bind,hv,Builtin.min2,Sem.run_pure,Result.andThen_ok];exact h2
    ·simp only[if_true] at h2 ⊢;simp only[List.map_cons,List.foldlM_cons,Sem.run_bind,hv,Builtin.max2,Sem.run_pure,Result.andThen_ok];exact h2
   ·cases hc
theorem qFW{mx:Bool}{c0:Call}(C:Here P G ρ I h w tm a)(ho:o.op = .call c0)(hb:c0.callee = .builtin (if mx then .max else .min)){xs:List X}(hx:c0.args.toList.mapM (compX G)=some xs){p:Plan}
  (hp:plan tm (.minmax mx xs)=some p) (hg:p.doGo d h=some (v,h',t)):ValOK ρ I h w ((execOp a.eval o).run P w) v h':=by
 have h1:=qAP hx;cases xs with
 |nil=>simp[plan,minmaxV] at hp
 |cons x xs =>
  cases hl:c0.args.toList with
  |nil=>rw[hl] at h1; exact h1.elim
  |cons o1 os =>
   rw[hl] at h1;simp only[plan,List.map_cons] at hp;obtain⟨pv,hpv,rfl⟩:=qAi (f:=λv => .pv v) hp;unfold minmaxV at hpv;dsimp only at hpv;split at hpv
   ·rename_i k n hxe;obtain⟨m,hr,rfl⟩:∃ m,foldMM mx n (xs.map λx=>x.ev tm)=some m/\pv = .int k m:=by
     cases hq:foldMM mx n (xs.map λx=>x.ev tm) with
     |none=>rw[hq] at hpv; cases hpv
     |some m=>rw[hq] at hpv; exact⟨m,rfl,(Option.some.inj hpv).symm⟩
    have hv:=qB2 (C.ev h1.1 (qGx hxe));have r2:=qJw (k0:=k) C h1.2 hr;refine qAD C hg (cv := .int k m) ?_ (CRel.p _ _ (.int _ _));rw[qAq ho hb];have hargs:(c0.args.map a.eval).toList = .int k n::os.map a.eval:=by simp[hl,hv]
    cases mx
    ·simp only[Bool.false_eq_true,if_false] at r2 ⊢;show(Sem.bind (Builtin.min_ _ _ _) _).run P w=_;rw[Sem.run_bind'];unfold Builtin.min_;rw[hargs];simp only[r2];rfl
    ·simp only[if_true] at r2 ⊢;show(Sem.bind (Builtin.max_ _ _ _) _).run P w=_;rw[Sem.run_bind'];unfold Builtin.max_;rw[hargs];simp only[r2];rfl
   ·split at hpv
    ·rename_i k i off lo hi k' c hx1 hxs2;have hxv:=C.ev h1.1 hx1;cases xs with
     |nil=>simp at hxs2
     |cons y ys =>
      cases ys with
      |cons _ _=>simp at hxs2
      |nil =>
       cases os with
       |nil=>exact h1.2.elim
       |cons o2 os2 =>
        cases os2 with
        |cons _ _=>exact h1.2.2.elim
        |nil =>
         simp only[List.map_cons,List.map_nil,List.cons.injEq,and_true] at hxs2;have hyv:=qB2 (C.ev h1.2.1 hxs2);cases (qAC hxv) with|p _ _ hp1 =>
         generalize hv1:a.eval o1=v1 at hp1;cases hp1 with|sym _ _ _ _ _ n hn hbd =>
         unfold symMM at hpv;split at hpv
         ·rename_i hk;obtain⟨rfl,hlh⟩:=hk;obtain⟨b1,b2⟩:=hbd hlh;have hargs:(c0.args.map a.eval).toList=[.int k n,.int k c]:=by simp[hl,hv1,hyv]
          cases mx
          ·simp only[Bool.false_eq_true,if_false] at hpv hb;refine qAD C hg (cv := .int k (if c<n then c else n)) ?_ ?_
           ·rw[qAq ho hb];show(Sem.bind (Builtin.min_ _ _ _) _).run P w=_;rw[Sem.run_bind'];unfold Builtin.min_;rw[hargs];simp[Builtin.min2]
           ·split at hpv
            ·cases hpv;rw[if_neg (by omega)];exact CRel.p _ _ (.sym k i off lo hi n hn hbd)
            ·split at hpv
             ·cases hpv;have:(if c<n then c else n)=c:=by split <;> omega
              rw[this];exact CRel.p _ _ (.int _ _)
             ·cases hpv
          ·simp only[if_true] at hpv hb;refine qAD C hg (cv := .int k (if n<c then c else n)) ?_ ?_
           ·rw[qAq ho hb];show(Sem.bind (Builtin.max_ _ _ _) _).run P w=_;rw[Sem.run_bind'];unfold Builtin.max_;rw[hargs];simp[Builtin.max2]
           ·split at hpv
            ·cases hpv;rw[if_neg (by omega)];exact CRel.p _ _ (.sym k i off lo hi n hn hbd)
            ·split at hpv
             ·cases hpv;have:(if n<c then c else n)=c:=by split <;> omega
              rw[this];exact CRel.p _ _ (.int _ _)
             ·cases hpv
         ·cases hpv
    ·cases hpv
end
end Go.AI
namespace Go.AI
variable [Sym]
section
variable {P:Program} {G:Nat->Option (List PVal)} {ρ:Env} {I:Imm} {h:Heap} {w:World} {tm:TM TVal} {a:Act}
variable {heap:Nat->Bool} {d:Nat} {v:TVal} {h':Heap} {t:Touch} {o:Oper}
theorem qNd(off:Nat):∀ (l:List Value) (i:Nat) (cs:Array Value),off+i+l.length<=cs.size ->
  ((l.zipIdx i).foldl (λcs p=>cs.setIfInBounds (off+p.2) p.1) cs).size=cs.size /\
  ∀ k,((l.zipIdx i).foldl (λcs p=>cs.setIfInBounds (off+p.2) p.1) cs)[k]?=if off+i<=k/\k<off+i+l.length then l[k - (off+i)]? else cs[k]?:=by
 intro l
 induction l with
 |nil=>intro i cs _; exact⟨rfl,λk=>by rw[if_neg (by simp only[List.length_nil]; omega)]; rfl⟩
 |cons x l ih =>
  intro i cs hs;simp only[List.length_cons] at hs;simp only[List.zipIdx_cons,List.foldl_cons];obtain⟨h1,h2⟩:=ih (i+1) (cs.setIfInBounds (off+i) x) (by simp; omega);refine⟨by rw[h1]; simp,λk => ?_⟩;rw[h2 k];simp only[List.length_cons];by_cases hk:k=off+i
  ·subst hk;rw[if_neg (by omega),if_pos (by omega)];simp[show off+i<cs.size by omega]
  ·by_cases hk2:off+(i+1)<=k/\k<off+(i+1)+l.length
   ·rw[if_pos hk2,if_pos (by omega),show k - (off+i)=(k - (off+(i+1)))+1 by omega];simp
   ·rw[if_neg hk2,if_neg (by omega),Array.getElem?_setIfInBounds_ne (by omega)]
theorem qEh{place:Nat->Option (Nat×Nat)}:∀ {ps:List (Nat×Nat×Comp)}{parts:List (Nat×Value)}{cells cs:List Cell}{arr:Array Value},
  All2 (CRel ρ I) cells arr.toList->All2 (λp q=>place q.1=some (p.1,p.2.1)/\CompRel ρ I p.2.2 q.2) ps parts->fillA cells ps=some cs->∃ arr',Instr.fill place arr parts=some arr'/\All2 (CRel ρ I) cs arr'.toList:=by
 intro ps
 induction ps with
 |nil =>
  intro parts cells cs arr hc hp hf;cases parts with
  |nil=>simp[fillA] at hf; subst hf; exact⟨arr,rfl,hc⟩
  |cons _ _=>exact hp.elim
 |cons p ps ih =>
  intro parts cells cs arr hc hp hf;cases parts with
  |nil=>exact hp.elim
  |cons q parts =>
   obtain⟨off,size,x⟩:=p;obtain⟨i,xv⟩:=q;obtain⟨⟨hpl,hx⟩,hrest⟩:=hp;unfold fillA at hf;split at hf
   ·rename_i hcond;have hxl:=hx.cells.length;have hcl:=hc.length;simp only[Array.length_toList] at hxl hcl;obtain⟨s1,s2⟩:=qNd off xv.cells.toList 0 arr (by simp; omega);have hall:All2 (CRel ρ I) (splice cells off x.cells) ((xv.cells.toList.zipIdx 0).foldl (λcs p=>cs.setIfInBounds (off+p.2) p.1) arr).toList:=by
     refine All2.of_get (by rw[qCK _ _ _ (by omega)]; simp only[Array.length_toList,s1]; exact hcl) λk c u e1 e2 => ?_
     rw[qFM _ _ _ (by omega)] at e1;rw[Array.getElem?_toList,s2 k] at e2;simp only[Array.length_toList,Nat.add_zero] at e2;by_cases hk:off<=k/\k<off+x.cells.length
     ·rw[if_pos hk] at e1;rw[if_pos (by omega)] at e2;obtain⟨u',f1,f2⟩:=hx.cells.get _ _ e1;rw[f1] at e2; cases e2; exact f2
     ·rw[if_neg hk] at e1;rw[if_neg (by omega)] at e2;obtain⟨u',f1,f2⟩:=hc.get _ _ e1;rw[Array.getElem?_toList,e2] at f1; cases f1; exact f2
    obtain⟨arr',g1,g2⟩:=ih hall hrest hf;refine⟨arr',?_,g2⟩;unfold Instr.fill;rw[hpl];dsimp only;rw[if_neg (by simp; omega)];rw[<- g1]
    congr 1
    rw[<- Array.foldl_toList,Array.toList_zipIdx]
   ·cases hf
theorem qFm{α:Type}(C:Here P G ρ I h w tm a){f:α->Option (Nat×Nat×X)}{place:Nat->Option (Nat×Nat)}{parts:List α}{idx':α->Nat}{opd:α->Operand}
  (hf:∀ p off sz x,f p=some (off,sz,x)->place (idx' p)=some (off,sz)/\compX G (opd p)=some x) {ps:List (Nat×Nat×X)} (hps:parts.mapM f=some ps) {qs:List (Nat×Nat×Comp)}
  (hqs:ps.mapM (λp=>match p.2.2.ev tm with|some (.v v)=>some (p.1,p.2.1,v)|_=>none)=some qs) :
  All2 (λp (q:Nat×Value)=>place q.1=some (p.1,p.2.1)/\CompRel ρ I p.2.2 q.2) qs (parts.map λp=>(idx' p,a.eval (opd p))):=by
 have h1:=qAP hps;have h2:=qAP hqs;clear hps hqs
 induction parts generalizing ps qs with
 |nil=>cases ps with
  |nil=>cases qs with
   |nil=>trivial
   |cons _ _=>exact h2.elim
  |cons _ _=>exact h1.elim
 |cons p parts ih =>
  cases ps with
  |nil=>exact h1.elim
  |cons q ps=>cases qs with
   |nil=>exact h2.elim
   |cons r qs =>
    obtain⟨off,sz,x⟩:=q;obtain⟨a1,a2⟩:=hf p off sz x h1.1;refine⟨?_,ih h1.2 h2.2⟩;have h3:=h2.1;simp only at h3;split at h3
    ·rename_i v hv;cases h3;exact⟨a1,C.ev a2 hv⟩
    ·cases h3
theorem qEb{ty:TypeId}{parts:Array (Nat×Operand)}{fields:Array Field}{places:List (Nat×Nat)}(C:Here P G ρ I h w tm a)(ho:o.op = .build ty parts){z:Comp}(hz:zeroT P ty=some z)(hu:P.underlying ty=some (.struct fields))
  (hpl:fields.toList.mapM (λf=>(P.info? f.type).map λi=>(f.offset,i.size))=some places) {ps:List (Nat×Nat×X)}
  (hps:parts.toList.mapM (λp=>(do let q <- places[p.1]?; pure (q.1,q.2,<- compX G p.2):Option (Nat×Nat×X)))=some ps) {p:Plan} (hp:plan tm (.build z.cells ps)=some p) (hg:p.doGo d h=some (v,h',t)):ValOK ρ I h w ((execOp a.eval o).run P w) v h':=by
 obtain⟨inf,zv,z1,z2,z3⟩:=zeroT_info hz;have hzr:CompRel ρ I z zv:=qA1 z3;simp only[plan,Option.bind_eq_bind,Option.bind_eq_some_iff] at hp;obtain⟨qs,hqs,cs,hcs,e⟩:=hp;simp only[Option.pure_def,Option.some.injEq] at e;subst e;have hpr:=qFm C (f:=λp=>(do let q <- places[p.1]?; pure (q.1,q.2,<- compX G p.2):Option (Nat×Nat×X))) (place:=(places.toArray[·]?)) (idx':=λp:Nat×Operand=>p.1) (opd:=λp=>p.2)
  (λp off sz x e=>by
   simp only[Option.bind_eq_bind,Option.bind_eq_some_iff,Option.pure_def,Option.some.injEq,Prod.mk.injEq] at e;obtain⟨q,e1,y,e2,e3,e4,e5⟩:=e;subst e3 e4 e5
   exact⟨by simpa using e1,e2⟩) hps hqs
 obtain⟨arr',f1,f2⟩:=qEh hzr.cells hpr hcs;have hb:P.built ty ((parts.map λ(i,x)=>(i,a.eval x)).toList)=some arr':=by
  unfold Program.built;simp only[z1,hu,z2,hpl];rw[<- f1]
  congr 1
  simp
 refine qAD C hg (cv := .agg arr') ?_ ⟨arr',rfl,f2⟩;unfold execOp; rw[ho];simp[run_build w ty _ arr' hb]
theorem qE9{ty e:TypeId}{n sz:Nat}{parts:Array (Nat×Operand)}(C:Here P G ρ I h w tm a)(ho:o.op = .build ty parts){z:Comp}(hz:zeroT P ty=some z)(hu:P.underlying ty=some (.array n e))
  (hn:szOf P e=some sz) {ps:List (Nat×Nat×X)}
  (hps:parts.toList.mapM (λp=>(do pure (p.1*sz,sz,<- compX G p.2):Option (Nat×Nat×X)))=some ps) {p:Plan} (hp:plan tm (.build z.cells ps)=some p) (hg:p.doGo d h=some (v,h',t)):ValOK ρ I h w ((execOp a.eval o).run P w) v h':=by
 obtain⟨inf,zv,z1,z2,z3⟩:=zeroT_info hz;obtain⟨ie,e1,e2⟩:=qJc hn;have hzr:CompRel ρ I z zv:=qA1 z3;simp only[plan,Option.bind_eq_bind,Option.bind_eq_some_iff] at hp;obtain⟨qs,hqs,cs,hcs,e⟩:=hp;simp only[Option.pure_def,Option.some.injEq] at e;subst e;have hpr:=qFm C (f:=λp=>(do pure (p.1*sz,sz,<- compX G p.2):Option (Nat×Nat×X))) (place:=λi=>some (i*sz,sz)) (idx':=λp:Nat×Operand=>p.1) (opd:=λp=>p.2)
  (λp off s x e=>by
   simp only[Option.bind_eq_bind,Option.bind_eq_some_iff,Option.pure_def,Option.some.injEq,Prod.mk.injEq] at e;obtain⟨y,e2,e3,e4,e5⟩:=e;subst e3 e4 e5
   exact⟨rfl,e2⟩) hps hqs
 obtain⟨arr',f1,f2⟩:=qEh (place:=λi=>some (i*sz,sz)) hzr.cells hpr hcs;have hb:P.built ty ((parts.map λ(i,x)=>(i,a.eval x)).toList)=some arr':=by
  unfold Program.built;simp only[z1,hu,z2,e1,e2];rw[<- f1]
  congr 1
  simp
 refine qAD C hg (cv := .agg arr') ?_ ⟨arr',rfl,f2⟩;unfold execOp; rw[ho];simp[run_build w ty _ arr' hb]
theorem qMg:∀ {cs:List Cell}{r:List PVal},unps cs=some r->r.length=cs.length/\∀ (k:Nat) v,r[k]?=some v->cs[k]?=some (.p v):=by
 intro cs r hr;have h1:=qAP (f:=unp) hr;refine⟨h1.length.symm,λk v e => ?_⟩;have hk:k<cs.length:=by have:=(List.getElem?_eq_some_iff.1 e).1; have:=h1.length; omega
 obtain⟨y,e1,e2⟩:=h1.get k cs[k] (List.getElem?_eq_getElem hk);rw[e] at e1; cases e1;rw[List.getElem?_eq_getElem hk];unfold unp at e2;split at e2
 ·rename_i u hu; rw[hu]; cases e2; rfl
 ·cases e2
theorem qCl{sz:Nat}:∀ (n:Nat) {cs:List Cell} {rows:List (List PVal)},chunk sz n cs=some rows ->
  rows.length=n/\(∀ (i:Nat) r,rows[i]?=some r->r.length=sz)/\∀ (i:Nat) r (k:Nat) v,rows[i]?=some r->r[k]?=some v->cs[i*sz+k]?=some (.p v):=by
 intro n
 induction n with
 |zero=>intro cs rows hc; simp[chunk] at hc; subst hc; exact⟨rfl,λi r e=>by simp at e,λi r k v e=>by simp at e⟩
 |succ n ih =>
  intro cs rows hc;simp only[chunk,Option.bind_eq_bind,Option.bind_eq_some_iff] at hc;obtain⟨row,hrow,hc⟩:=hc;split at hc
  ·rename_i hlen;obtain⟨rest,hrest,e⟩:=Option.bind_eq_some_iff.1 hc;simp only[Option.pure_def,Option.some.injEq] at e;subst e;obtain⟨a1,a2,a3⟩:=ih hrest;obtain⟨b1,b2⟩:=qMg hrow;refine⟨by simp[a1],λi r e => ?_,λi r k v e1 e2 => ?_⟩
   ·cases i with
    |zero=>simp at e; subst e; exact hlen
    |succ i=>exact a2 i r (by simpa using e)
   ·cases i with
    |zero =>
     simp at e1; subst e1;have:=b2 k v e2;rw[List.getElem?_take] at this;split at this
     ·simpa using this
     ·cases this
    |succ i =>
     have:=a3 i r k v (by simpa using e1) e2;rw[List.getElem?_drop] at this;rw[show(i+1)*sz+k=sz+(i*sz+k) by rw[Nat.add_mul]; omega];exact this
  ·cases hc
theorem qCT{J:Imm}(hJ:I.le J){sz n:Nat}{cs:List Cell}{rows:List (List PVal)}(hc:chunk sz n cs=some rows){vals:List Value}(hv:All2 (CRel ρ I) cs vals){b o cap:Nat}(hb:∀ (j:Nat) v,vals[j]?=some v->J.cell b (o+j)=some v)
  {tight:Bool} (hcap:n<=cap) (ht:tight=true->cap=n):PRel J (.slice sz tight rows) (.slice (some ⟨b,o,none⟩) n cap):=by
 obtain⟨h1,h2,h3⟩:=qCl n hc;have key:=PRel.slice (I:=J) sz tight rows b o cap (λi k=>vals.getD (i*sz+k) .nilIface) (λe=>by rw[h1]; exact ht e) (by rw[h1]; exact hcap) h2
  (λi r k v e1 e2=>by
   obtain⟨u,f1,f2⟩:=hv.get _ _ (h3 i r k v e1 e2);rw[show o+i*sz+k=o+(i*sz+k) by omega,hb _ _ f1]
   simp[f1])
  (λi r k v e1 e2=>by
   obtain⟨u,f1,f2⟩:=hv.get _ _ (h3 i r k v e1 e2);cases f2 with|p _ _ hp =>
   simp only[List.getD_eq_getElem?_getD,f1,Option.getD_some]
   exact hp.mono hJ)
 rw[h1] at key;exact key
def immAdd(I:Imm)(b lo hi:Nat)(f:Nat->Option Value):Imm:={ cell:=λb' k=>if b'=b/\lo<=k/\k<hi then f k else I.cell b' k,map:=I.map }
theorem qCo{b lo hi:Nat}{f:Nat->Option Value}(hn:∀ k,lo<=k->k<hi->I.cell b k=none):I.le (immAdd I b lo hi f):=by
 refine⟨λb' o v e => ?_,λb e x=>x⟩;show(if b'=b/\lo<=o/\o<hi then f o else I.cell b' o)=some v;by_cases hc:b'=b/\lo<=o/\o<hi
 ·obtain⟨rfl,h1,h2⟩:=hc;rw[hn o h1 h2] at e; cases e
 ·rw[if_neg hc]; exact e
theorem qBA{b lo hi k:Nat}{f:Nat->Option Value}(h1:lo<=k)(h2:k<hi):(immAdd I b lo hi f).cell b k=f k:=by
 show(if b=b/\lo<=k/\k<hi then f k else _)=_;rw[if_pos ⟨rfl,h1,h2⟩]
theorem qA5{b lo hi b' k:Nat}{f:Nat->Option Value}(h:¬ (b'=b/\lo<=k/\k<hi)):(immAdd I b lo hi f).cell b' k=I.cell b' k:=by
 show(if b'=b/\lo<=k/\k<hi then f k else _)=_;rw[if_neg h]
theorem qKZ(H:WRel ρ I h w){w':World}(hw:∀ b,b≠w.heap.size->w'.heap[b]?=w.heap[b]?)(hsz:w.heap.size<=w'.heap.size)(hos:w'.os=w.os/\w'.tape=w.tape/\w'.output=w.output){I':Imm}
  (hI:I.le I') (hI2:∀ b k v,I'.cell b k=some v->b≠w.heap.size->I.cell b k=some v) (hI3:∀ k v,I'.cell w.heap.size k=some v->w'.cell? ⟨w.heap.size,k,none⟩=some v) (hIm:I'.map=I.map) :
  WRel ρ I' h w'/\Good ρ I h w ρ I' h w':=by
 have hne:∀ r o l,h.get r=some o->ρ r=some l->l.blk≠w.heap.size:=λr o l hr hl e=>by have:=H.lt hr hl; omega
 constructor
 ·refine⟨λr o hr => ?_,H.inj,λb k v e => ?_,λb arr c e => ?_,λr o l hr hl b k v e hb => ?_,λr o l hr hl=>by rw[hIm]; exact H.apartm r o l hr hl,H.fresh,H.freshi⟩
  ·obtain⟨l,e,ho⟩:=H.live r o hr;exact⟨l,e,(ho.mono (Env.le_refl _) hI).of_block (hw _ (hne r o l hr e))⟩
  ·by_cases hb:b=w.heap.size
   ·subst hb; exact hI3 k v e
   ·exact(qCL (hw b hb)).trans (H.icell _ _ _ (hI2 b k v e hb))
  ·rw[hIm] at e;have:=H.imap b arr c e;have hb:b≠w.heap.size:=by have:=(Array.getElem?_eq_some_iff.1 this).1; omega
   rw[hw b hb]; exact this
  ·exact H.apart r o l hr hl b k v (hI2 b k v e (by rw[hb]; exact hne r o l hr hl)) hb
 ·exact⟨Env.le_refl _,hI,⟨hos.1,hos.2.1,hos.2.2,hsz,λb hb _=>hw b (by omega)⟩,λb hb => .inl hb,λb k v e=>if hb:b=w.heap.size then .inr (.inr (by omega)) else .inl (hI2 b k v e hb),λb v e => .inl (by rw[hIm] at e; exact e)⟩
theorem qJf{ty e:TypeId}{n sz:Nat}{parts:Array (Nat×Operand)}(C:Here P G ρ I h w tm a)(hd:d+1<1048576)(ho:o.op = .buildSlice ty n parts)(hu:P.underlying ty=some (.slice e))(hn:szOf P e=some sz)(hn0:sz≠0)(hbig:n*sz<=100000){z:Comp}(hz:zeroT P e=some z)(hzl:z.cells.length=sz)
  {ps:List (Nat×X)} (hps:parts.toList.mapM (λp=>(do pure (p.1,<- compX G p.2):Option (Nat×X)))=some ps) {hp':Bool} {p:Plan} (hp:plan tm (.bslice sz n z.cells ps hp')=some p) (hg:p.doGo d h=some (v,h',t)):ValOK ρ I h w ((execOp a.eval o).run P w) v h':=by
 obtain⟨inf,zv,z1,z2,z3⟩:=zeroT_info hz;have hzr:CompRel ρ I z zv:=qA1 z3;simp only[plan,Option.bind_eq_bind,Option.bind_eq_some_iff] at hp;obtain⟨qs,hqs,cs,hcs,hp⟩:=hp;have hpr:All2 (λp (q:Nat×Value)=>(some (q.1*sz,sz):Option (Nat×Nat))=some (p.1,p.2.1)/\CompRel ρ I p.2.2 q.2) qs (parts.toList.map λp=>(p.1,a.eval p.2)):=by
  have h1:=qAP hps;have h2:=qAP hqs;clear hps hqs hcs hp;generalize parts.toList=pl at h1
  induction pl generalizing ps qs with
  |nil=>cases ps with
   |nil=>cases qs with
    |nil=>trivial
    |cons _ _=>exact h2.elim
   |cons _ _=>exact h1.elim
  |cons p pl ih =>
   cases ps with
   |nil=>exact h1.elim
   |cons q ps=>cases qs with
    |nil=>exact h2.elim
    |cons r qs =>
     refine⟨?_,ih _ h2.2 h1.2⟩;have h3:=h1.1;simp only[Option.bind_eq_bind,Option.bind_eq_some_iff,Option.pure_def,Option.some.injEq] at h3;obtain⟨x,e1,e2⟩:=h3;subst e2;have h4:=h2.1;simp only at h4;split at h4
     ·rename_i u hu';cases h4;exact⟨rfl,C.ev e1 hu'⟩
     ·cases h4
 have hrep:=qIp hzr.cells (by omega) n (n*sz) (by rw[hzl]);obtain⟨arr',f1,f2⟩:=qEh (place:=λi=>some (i*sz,sz)) hrep hpr hcs;have hlen:arr'.size=n*sz:=by
  have e1:=f2.length;have e2:∀ (qs:List (Nat×Nat×Comp)) (c c':List Cell),fillA c qs=some c'->c'.length=c.length:=by
   intro qs
   induction qs with
   |nil=>intro c c' e; simp[fillA] at e; rw[e]
   |cons q qs ih =>
    intro c c' e;unfold fillA at e;split at e
    ·rename_i hc; rw[ih _ _ e,qCK _ _ _ (by omega)]
    ·cases e
  have e3:=e2 _ _ _ hcs;rw[qDF,hzl] at e3;simp at e1; omega
 have hr:(execOp a.eval o).run P w = .ok (.value (.slice (some ⟨w.heap.size,0,none⟩) n n)) (w.alloc (.cells arr' e)):=by
  have hb:¬ (n*sz>2 ^ 24):=by omega
  have hfill:Instr.fill (λi=>some (i*sz,sz)) ((Array.range (n*sz)).map (zv.cells[· % zv.cells.size]!)) (parts.map λ(i,x)=>(i,a.eval x)).toList=some arr':=by
   rw[<- f1]; congr 1; simp
  unfold execOp; rw[ho];by_cases h0:n*sz=0
  ·have hfill0:Instr.fill (λi=>some (i*sz,sz)) ((Array.range (n*sz)).map ((#[]:Array Value)[· % 0]!)) (parts.map λ(i,x)=>(i,a.eval x)).toList=some arr':=by
    rw[<- hfill]; congr 1; rw[h0]; apply Array.ext <;> simp
   simp only[Array.toList_map] at hfill0;simp[Instr.buildSlice,run_underlying hu,qAY hn,h0,newRow] at hfill0 ⊢;rw[hfill0]; simp
  ·simp only[Array.toList_map] at hfill;simp[Instr.buildSlice,run_underlying hu,qAY hn,h0,newRow,qA7 z1 z2];rw[if_neg (by omega),hfill];simp
 split at hp
 ·rename_i rows hrows;simp only[Option.pure_def,Option.some.injEq] at hp;subst hp;obtain⟨rfl,rfl⟩:=qDk hg;have hch:chunk sz n cs=some rows:=by
   cases hp' <;> simp at hrows
   exact hrows
  have hnone:∀ k,I.cell w.heap.size k=none:=λk=>by
   cases e:I.cell w.heap.size k with
   |none=>rfl
   |some v=>exact absurd (qBu (C.heap.icell _ _ _ e)) (by simp)
  have hle:I.le (immAdd I w.heap.size 0 arr'.size (arr'[·]?)):=qCo λk _ _=>hnone k
  obtain⟨s1,s2⟩:=qKZ (w':=w.alloc (.cells arr' e)) C.heap (λb hb=>by show(w.heap.push _)[b]?=_; rw[Array.getElem?_push,if_neg hb]) (by simp) ⟨rfl,rfl,rfl⟩ hle
   (λb k v e' hb=>by rw[qA5 (by omega)] at e'; exact e')
   (λk v e'=>by
    have hc:(w.alloc (.cells arr' e)).heap[w.heap.size]?=some (.cells arr' e):=by show(w.heap.push _)[_]?=_; simp
    by_cases hk:k<arr'.size
    ·rw[qBA (Nat.zero_le _) hk] at e';simp only[World.cell?,hc]; simpa using e'
    ·rw[qA5 (by omega),hnone k] at e'; cases e') rfl
  refine⟨_,ρ,_,.inl ⟨_,hr,CRel.p _ _ ?_⟩,s1,s2⟩
  exact qCT hle hch f2 (λj u e'=>by
   have hj:j<arr'.size:=by have:=(List.getElem?_eq_some_iff.1 e').1; simpa using this
   rw[Nat.zero_add,qBA (Nat.zero_le _) hj]
   simpa using e') (Nat.le_refl _) (λ_=>rfl)
 ·simp only[Option.pure_def,Option.some.injEq] at hp;subst hp;obtain⟨rfl,rfl⟩:=qBg hg;obtain⟨ρ',e1,e2,e3⟩:=qCR (push:=hp') hd C.heap (w':=w.alloc (.cells arr' e)) rfl ⟨rfl,rfl,rfl⟩ (qA0 f2).1 (qA0 f2).2;refine⟨_,ρ',I,.inl ⟨_,hr,?_⟩,e2,e3⟩;exact CRel.sref (ρ:=ρ') (I:=I) _ 0 n (some n) sz n _ e1 (Nat.le_refl _) (by simp only; omega) (λc e=>by cases e; rfl)
theorem qIA{ty e:TypeId}{l c:Operand}{sz by':Nat}{z:Comp}(C:Here P G ρ I h w tm a)(hd:d+1<1048576)(ho:o.op = .makeSlice ty l c)(hu:P.underlying ty=some (.slice e))(hn:szOf P e=some sz)(hn0:sz≠0)(hby:bytesT P e=some by')
  (hz:zeroT P e=some z) (hzl:z.cells.length=sz) {l' c':X} (hl:compX G l=some l') (hc:compX G c=some c') {pu:Bool} {p:Plan} (hp:plan tm (.mkslice sz by' z.cells l' c' pu)=some p) (hg:p.doGo d h=some (v,h',t)) :
  ValOK ρ I h w ((execOp a.eval o).run P w) v h':=by
 simp only[plan] at hp;split at hp
 ·rename_i ln cn h1 h2;split at hp
  ·rename_i hcond;obtain⟨u1,a1,a2⟩:=qDE h1;obtain⟨u2,b1,b2⟩:=qDE h2;obtain⟨k1,e1⟩:=qBp a2 (C.ev hl a1);obtain⟨k2,e2⟩:=qBp b2 (C.ev hc b1);obtain⟨i,zv,z1,z2,z3⟩:=zeroT_info hz;have hbi:=qNU z1 hby;have hsi:i.size=sz:=by unfold szOf at hn; rw[z1] at hn; simpa using hn
   have hzr:CompRel ρ I z zv:=qA1 z3;have hrel:=qIp hzr.cells (by omega) cn (cn*sz) (by rw[hzl]);have w1:IntKind.i64.wrap (ln:Int)=ln:=qDN _ (by omega);have w2:IntKind.i64.wrap (cn:Int)=cn:=qDN _ (by omega);have hr:(execOp a.eval o).run P w = .ok (.value (.slice (some ⟨w.heap.size,0,none⟩) ln cn)) (w.alloc (.cells ((Array.range (cn*sz)).map (zv.cells[· % zv.cells.size]!)) e)):=by
    have hbig:¬ ((by':Int)*(cn:Int)>2 ^ 48):=by
     have:((cn*by':Nat):Int)<=2 ^ 40:=by exact_mod_cast hcond.2.1
     rw[Int.natCast_mul] at this;rw[Int.mul_comm];omega
    have hnn:¬ ((cn:Int)<0):=by omega
    have hnl:¬ ((ln:Int)<0):=by omega
    have hlc:¬ ((ln:Int)>(cn:Int)):=by omega
    have hcn:((cn:Int).toNat)=cn:=by omega
    unfold execOp; rw[ho];by_cases h0:cn*sz=0
    ·have:cn=0:=by rcases Nat.mul_eq_zero.1 h0 with h|h <;> omega
     subst this;have hln:ln=0:=by omega
     subst hln;have w0:IntKind.i64.wrap (0:Int)=0:=qDN 0 (by omega);simp only[Int.natCast_zero] at e1 e2;simp[Instr.makeSlice,run_underlying hu,e1,e2,asInt,asIntOf,typeInfo,z1,w0,sizeOf,hsi,newRow]
     congr 2
     apply Array.ext <;> simp
    ·simp[Instr.makeSlice,run_underlying hu,e1,e2,asInt,asIntOf,typeInfo,z1,w1,w2,sizeOf,hsi,hbi,newRow,hnn,hnl,hlc,zeroValue,z2,h0];intro hb;exact absurd hb (by have:=hbig; omega)
   split at hp
   ·rename_i rows hrows;simp only[Option.some.injEq] at hp;subst hp;obtain⟨rfl,rfl⟩:=qDk hg;have hpc:pu=true/\ln=cn:=by
     cases pu
     ·cases hrows
     ·cases hb:Nat.beq ln cn
      ·rw[hb] at hrows; cases hrows
      ·exact⟨rfl,Nat.eq_of_beq_eq_true hb⟩
    obtain⟨rfl,rfl⟩:=hpc;have hch:chunk sz ln (rep ln z.cells)=some rows:=by
     have hb:Nat.beq ln ln=true:=Nat.beq_refl ln;rw[hb] at hrows;exact hrows
    have hnone:∀ k,I.cell w.heap.size k=none:=λk=>by
     cases e:I.cell w.heap.size k with
     |none=>rfl
     |some v=>exact absurd (qBu (C.heap.icell _ _ _ e)) (by simp)
    generalize harr:(Array.range (ln*sz)).map (zv.cells[· % zv.cells.size]!)=arr at hr hrel;have hle:I.le (immAdd I w.heap.size 0 arr.size (arr[·]?)):=qCo λk _ _=>hnone k
    obtain⟨s1,s2⟩:=qKZ (w':=w.alloc (.cells arr e)) C.heap (λb hb=>by show(w.heap.push _)[b]?=_; rw[Array.getElem?_push,if_neg hb]) (by simp) ⟨rfl,rfl,rfl⟩ hle
     (λb k v e' hb=>by rw[qA5 (by omega)] at e'; exact e')
     (λk v e'=>by
      have hc:(w.alloc (.cells arr e)).heap[w.heap.size]?=some (.cells arr e):=by show(w.heap.push _)[_]?=_; simp
      by_cases hk:k<arr.size
      ·rw[qBA (Nat.zero_le _) hk] at e';simp only[World.cell?,hc]; simpa using e'
      ·rw[qA5 (by omega),hnone k] at e'; cases e') rfl
    refine⟨_,ρ,_,.inl ⟨_,hr,CRel.p _ _ ?_⟩,s1,s2⟩
    exact qCT hle hch hrel (λj u e'=>by
     have hj:j<arr.size:=by have:=(List.getElem?_eq_some_iff.1 e').1; simpa using this
     rw[Nat.zero_add,qBA (Nat.zero_le _) hj]
     simpa using e') (Nat.le_refl _) (λ_=>rfl)
   ·simp only[Option.some.injEq] at hp;subst hp;obtain⟨rfl,rfl⟩:=qBg hg;obtain⟨ρ',f1,f2,f3⟩:=qCR (push:=false) hd C.heap (w':=w.alloc (.cells ((Array.range (cn*sz)).map (zv.cells[· % zv.cells.size]!)) e)) rfl ⟨rfl,rfl,rfl⟩ (qA0 hrel).1 (qA0 hrel).2;refine⟨_,ρ',I,.inl ⟨_,hr,?_⟩,f2,f3⟩;have:=CRel.sref (ρ:=ρ') (I:=I) (place h h.ims.length (h.gen d) d (.cells (rep cn z.cells) 0) false).1 0 ln (some cn) sz cn _ f1 hcond.1 (by simp) (λc e=>by cases e; rfl);exact this
  ·cases hp
 ·cases hp
end
end Go.AI
namespace Go.AI
variable [Sym]
section
variable {P:Program} {G:Nat->Option (List PVal)} {ρ:Env} {I:Imm} {h:Heap} {w:World} {tm:TM TVal} {a:Act}
variable {heap:Nat->Bool} {d:Nat} {v:TVal} {h':Heap} {t:Touch} {o:Oper}
theorem qCz{b off sz n len cap:Nat}{vals:List Value}(hl:vals.length=n*sz)(hc:∀ (j:Nat) v,vals[j]?=some v->w.cell? ⟨b,off+j,none⟩=some v){w':World}(hw:w'.heap=w.heap) :
  (Builtin.firstCells sz n (.slice (some ⟨b,off,none⟩) len cap)).run P w' = .ok vals.toArray w':=by
 unfold Builtin.firstCells;rw[<- hl];exact qCJ vals λj v e=>by have:=hc j v e; simp only[World.cell?,hw] at this ⊢; exact this
theorem qDL{ad:Addr}{b off sz n len cap:Nat}{vals:List Value}(hl:vals.length=n*sz)(hc:∀ (j:Nat) v,vals[j]?=some v->w.cell? ⟨b,off+j,none⟩=some v)(he:n=0\/ad=⟨b,off,none⟩){w':World}(hw:w'.heap=w.heap) :
  (Builtin.firstCells sz n (.slice (some ad) len cap)).run P w' = .ok vals.toArray w':=by
 rcases he with rfl|rfl
 ·obtain rfl:vals=[]:=List.eq_nil_of_length_eq_zero (by simpa using hl);unfold Builtin.firstCells;rw[Nat.zero_mul];exact qC7 ad
 ·exact qCz hl hc hw
structure Src (P:Program) (w:World) (sz:Nat) (yv:Value) (n:Nat) (vals:List Value):Prop where
 len:vals.length=n*sz
 lenOf:∀ w',(Builtin.lenOf yv).run P w' = .ok n w'
 first:∀ m,m<=n->∀ w':World,w'.heap=w.heap->(Builtin.firstCells sz m yv).run P w' = .ok (vals.take (m*sz)).toArray w'
theorem qKP{b off sz n cap:Nat}{vals:List Value}(hl:vals.length=n*sz)(hc:∀ (j:Nat) v,vals[j]?=some v->w.cell? ⟨b,off+j,none⟩=some v):Src P w sz (.slice (some ⟨b,off,none⟩) n cap) n vals where
 len:=hl
 lenOf w':=rfl
 first m hm w' hw:=by
  have hlen:(vals.take (m*sz)).length=m*sz:=by
   rw[List.length_take,hl];have:=Nat.mul_le_mul_right sz hm;omega
  exact qCz hlen (λj v e=>by
   rw[List.getElem?_take] at e;split at e
   ·exact hc j v e
   ·cases e) hw
theorem qIw{ad:Addr}{b off sz n cap:Nat}{vals:List Value}(hl:vals.length=n*sz)(hc:∀ (j:Nat) v,vals[j]?=some v->w.cell? ⟨b,off+j,none⟩=some v)(he:n=0\/ad=⟨b,off,none⟩):Src P w sz (.slice (some ad) n cap) n vals where
 len:=hl
 lenOf w':=rfl
 first m hm w' hw:=by
  have hlen:(vals.take (m*sz)).length=m*sz:=by
   rw[List.length_take,hl];have:=Nat.mul_le_mul_right sz hm;omega
  exact qDL hlen (λj v e=>by
   rw[List.getElem?_take] at e;split at e
   ·exact hc j v e
   ·cases e) (he.imp (λe=>by omega) id) hw
theorem qDe(b:ByteArray):All2 (CRel ρ I) (byteCells b.data.toList) (b.data.map λx=>Value.int .u8 (x.toNat:Int)).toList:=by
 refine All2.of_get (by simp[byteCells]) λi c v e1 e2 => ?_
 simp only[byteCells,List.getElem?_map] at e1;simp only[Array.toList_map,List.getElem?_map] at e2;cases hx:b.data.toList[i]? with
 |none=>rw[hx] at e1; cases e1
 |some x=>rw[hx] at e1 e2; simp at e1 e2; subst e1 e2; exact .p _ _ (.int _ _)
theorem qLu{sz:Nat}{y:TVal}{yv:Value}(hy:TRel ρ I y yv)(H:WRel ρ I h w){ob:Option AObj}(hob:(∃ r x,srcRef y=some r/\h.get r=some x/\ob=some x)\/(srcRef y=none/\ob=none)){cs:List Cell}{n:Nat}(hs:srcCells sz y ob=some (cs,n)) :
  ∃ vals,All2 (CRel ρ I) cs vals/\Src P w sz yv n vals:=by
 have fromRows:∀ {tight:Bool}{rows:List (List PVal)}{b o cap:Nat},PRel I (.slice sz tight rows) yv->cs=pcells rows.flatten->n=rows.length->∃ vals,All2 (CRel ρ I) cs vals/\Src P w sz yv n vals:=by
  intro tight rows b o cap hp e1 e2;subst e1 e2;obtain⟨ad,b,off,cap,rfl,h1,h2,h3,h4,h5⟩:=qCB hp H;obtain⟨vals,v1,v2⟩:=h3.vals;exact⟨vals,v1,qIw (by rw[<- v1.length,h4]) v2 (h5.imp (λe=>by rw[e]; rfl) id)⟩
 unfold srcCells at hs;split at hs
 ·cases hs;cases (qAC hy) with|p _ _ hp =>
  cases hp;refine⟨[],trivial,by simp,λw'=>rfl,λm hm w' hw => ?_⟩;have:m=0:=by omega
  subst this;simp[Builtin.firstCells]
 ·split at hs
  ·rename_i s hsz;subst hsz;cases hs;obtain⟨b,rfl,hb⟩:=qB5 hy;subst hb;refine⟨_,qDe b,by simp,λw'=>by simp[Builtin.lenOf],λm hm w' hw => ?_⟩;simp only[Builtin.firstCells,Nat.mul_one];show Result.ok _ _=_
   congr 1
   apply Array.ext';simp[List.extract_eq_take_drop]
  ·cases hs
 ·split at hs
  ·rename_i tight rows hsz;subst hsz;simp only[Option.some.injEq,Prod.mk.injEq] at hs;cases (qAC hy) with|p _ _ hp =>
   exact fromRows (b:=0) (o:=0) (cap:=0) hp hs.1.symm hs.2.symm
  ·cases hs
 ·split at hs
  ·rename_i rows r hsz;subst hsz;simp only[Option.some.injEq,Prod.mk.injEq] at hs;have hy':=qAC hy;generalize yv=z at hy' fromRows ⊢;cases hy' with|tsl _ _ _ b o cap l hp =>
   exact fromRows (b:=0) (o:=0) (cap:=0) hp hs.1.symm hs.2.symm
  ·cases hs
 ·split at hs
  ·rename_i r off len cap sz' cs' imm hc;obtain⟨rfl,hfit⟩:=hc;simp only[Option.some.injEq,Prod.mk.injEq] at hs;obtain⟨rfl,rfl⟩:=hs;have hy':=qAC hy;generalize yv=z at hy' ⊢;cases hy' with|sref _ _ _ _ _ cc l hl a1 a2 a3 =>
   rcases hob with ⟨r',x,e1,e2,e3⟩|⟨e1,_⟩
   ·simp[srcRef] at e1;subst e1;cases e3;obtain⟨l',e',hobj⟩:=H.live _ _ e2;rw[hl] at e'; cases e';obtain⟨vals,v1,v2⟩:=((hobj.cellsAt.drop off).take (len*sz')).vals;exact⟨vals,v1,qKP (by rw[<- v1.length]; simp; omega) v2⟩
   ·simp[srcRef] at e1
  ·cases hs
 ·cases hs
theorem qHT{sz:Nat}{z:Comp}{zv:Value}(z3:constC zv=some z)(hzl:z.cells.length=sz):zv.cells.size=sz:=by
 have:=(qA1 (ρ:=λ_=>none) (I:=⟨λ_ _=>none,λ_=>none⟩) z3).cells.length;simp at this; omega
theorem qC9{ty u rt e:TypeId}{sz by':Nat}{i:TypeInfo}{zv:Value}(hu:P.underlying ty=some (.slice e))(huu:(∃ e',P.underlying u=some (.slice e'))\/P.underlying u=some .string)(hi:P.info? e=some i)(hsz:i.size=sz)(hby:i.bytes=by')(hz:i.zero=some zv)
  (hzs:zv.cells.size=sz) {base:Option Addr} {sLen sCap n:Nat} {yv:Value} {olds news:List Value} (hsrc:Src P w sz yv n news) (hold:∀ w':World,w'.heap=w.heap->(Builtin.firstCells sz sLen (.slice base sLen sCap)).run P w' = .ok olds.toArray w')
  (hol:olds.length=sLen*sz) (hgrow:sCap<sLen+n) (hfit:(sLen+n)*by'<=2 ^ 47) (hb0:0<by') :
  ∃ rest:Array Value,∃ cap',sLen+n<=cap'/\(olds.toArray++news.toArray++rest).size=cap'*sz /\
   (Builtin.append_ #[ty,u] rt #[.slice base sLen sCap,yv]).run P w = .ok (.slice (some ⟨w.heap.size,0,none⟩) (sLen+n) cap') (w.drew.alloc (.cells (olds.toArray++news.toArray++rest) e)):=by
 refine⟨Builtin.zeroCells zv.cells (grownCap w (sLen+n) sCap e - (sLen+n)),grownCap w (sLen+n) sCap e,grownCap_ge _ _ _ _,?_,?_⟩
 ·have hge:=grownCap_ge w (sLen+n) sCap e;simp only[Array.size_append,List.size_toArray,size_zeroCells,hzs,hol,hsrc.len,<- Nat.add_mul]
  congr 1; omega
 ·have hle:sLen+n<=2 ^ 47:=by
   have:=Nat.le_mul_of_pos_right (sLen+n) hb0;omega
  have h63':¬ (IntKind.i64.max<((sLen:Int)+(n:Int))):=by
   have:IntKind.i64.max=9223372036854775807:=by decide
   rw[this]; omega
  have hfit2:Builtin.nextslicecap (sLen+n) sCap*by'<=281474976710656:=growslice_fits hgrow (by omega);have h48':¬ (281474976710656<Builtin.nextslicecap (sLen+n) sCap*by'):=by omega
  have hn:¬ (sLen+n<=sCap):=by omega
  have hb0':¬ (by'=0):=by omega
  have hfn:=hsrc.first n (Nat.le_refl _) w.drew rfl;rw[<- hsrc.len,List.take_length] at hfn;have hfo:=hold w.drew rfl;subst hsz hby
  rcases huu with ⟨e',he'⟩|he'
  all_goals
   simp[Builtin.append_,run_underlying hu,run_underlying he',sizeOf,typeInfo,zeroValue,hi,hz,hsrc.lenOf,hn,h63',h48',hb0',Question.forced,hfn,hfo,newRow,grownCap]
   try (congr 2; apply Array.ext'; simp[List.append_assoc])
theorem qCI{ty u rt e:TypeId}{sz:Nat}(hu:P.underlying ty=some (.slice e))(huu:(∃ e',P.underlying u=some (.slice e'))\/P.underlying u=some .string)(hsz:szOf P e=some sz)
  {b off sLen sCap n:Nat} {yv:Value} {news:List Value} (hsrc:Src P w sz yv n news) (hroom:sLen+n<=sCap) {w':World} (hst:(storeCells ⟨b,off+sLen*sz,none⟩ news).run P w = .ok () w') :
   (Builtin.append_ #[ty,u] rt #[.slice (some ⟨b,off,none⟩) sLen sCap,yv]).run P w = .ok (.slice (some ⟨b,off,none⟩) (sLen+n) sCap) w':=by
 have hfn:=hsrc.first n (Nat.le_refl _) w rfl;rw[<- hsrc.len,List.take_length] at hfn
 rcases huu with ⟨e',he'⟩|he'
 all_goals simp[Builtin.append_,run_underlying hu,run_underlying he',qAY hsz,hsrc.lenOf,hroom,hfn,qAz,hst]
theorem qFG{ty u rt e:TypeId}{sz:Nat}(hu:P.underlying ty=some (.slice e))(huu:(∃ e',P.underlying u=some (.slice e'))\/P.underlying u=some .string)(hsz:szOf P e=some sz)
  {base:Option Addr} {sLen sCap:Nat} {yv:Value} {news:List Value} (hsrc:Src P w sz yv 0 news) (hroom:sLen<=sCap) :
   (Builtin.append_ #[ty,u] rt #[.slice base sLen sCap,yv]).run P w = .ok (.slice base sLen sCap) w:=by
 have hl:news=[]:=by have:=hsrc.len; rw[Nat.zero_mul] at this; exact List.length_eq_zero_iff.1 this
 have hfn:=hsrc.first 0 (Nat.le_refl _) w rfl;subst hl
 rcases huu with ⟨e',he'⟩|he'
 all_goals (cases base <;> simp[Builtin.append_,run_underlying hu,run_underlying he',qAY hsz,hsrc.lenOf,hroom,hfn,storeCells])
theorem qCG{needs:List Ref}{k:List AObj->Option Res}(hg:goOp needs k d h=some (v,h',t)):∃ os res,needs.mapM h.get=some os/\k os=some res/\(∀ p∈res.ups,p.1∈needs) /\
  (match res.new with
  |none=>v=res.out (.own d 0)/\h'=res.ups.foldl (λh p=>h.put p.1 p.2) h/\t={ rd:=needs.map Ref.site,wr:=res.ups.map (·.1.site),wild:=false }
  |some x=>v=res.out (place (res.ups.foldl (λh p=>h.put p.1 p.2) h) h.ims.length (h.gen d) d x res.push).1/\h'=(place (res.ups.foldl (λh p=>h.put p.1 p.2) h) h.ims.length (h.gen d) d x res.push).2 /\
   t={ rd:=needs.map Ref.site,wr:=(place (res.ups.foldl (λh p=>h.put p.1 p.2) h) h.ims.length (h.gen d) d x res.push).1.site::res.ups.map (·.1.site),wild:=res.push }):=by
 unfold goOp at hg;split at hg
 ·cases hg
 ·rename_i os hos;split at hg
  ·cases hg
  ·rename_i res hres;dsimp only at hg;cases hall:res.ups.all λp=>needs.contains p.1 with
   |false=>rw[hall] at hg; cases hg
   |true =>
    rw[hall] at hg;simp only[Bool.not_true,cond_false] at hg;refine⟨os,res,hos,hres,λp hp => ?_,?_⟩
    ·have:=List.all_eq_true.1 hall p hp;exact List.contains_iff_mem.1 this
    ·split at hg
     ·rename_i hn;simp only[hn,Option.some.injEq,Prod.mk.injEq] at hg ⊢;exact⟨hg.1.symm,hg.2.1.symm,hg.2.2.symm⟩
     ·rename_i x hn;rw[hn];cases hp:res.push <;> simp only[hp,cond_true,cond_false,Option.some.injEq,Prod.mk.injEq] at hg <;> exact⟨hg.1.symm,hg.2.1.symm,hg.2.2.symm⟩
theorem qHY{needs:List Ref}{k:List AObj->Option Res}(hg:goOp needs k d h=some (v,h',t)):∃ os res,needs.mapM h.get=some os/\k os=some res /\
  (match res.new with
  |none=>v=res.out (.own d 0)/\h'=res.ups.foldl (λh p=>h.put p.1 p.2) h
  |some x=>v=res.out (place (res.ups.foldl (λh p=>h.put p.1 p.2) h) h.ims.length (h.gen d) d x res.push).1/\h'=(place (res.ups.foldl (λh p=>h.put p.1 p.2) h) h.ims.length (h.gen d) d x res.push).2):=by
 obtain⟨os,res,h1,h2,h3,h4⟩:=qCG hg;refine⟨os,res,h1,h2,?_⟩;cases hn:res.new with
 |none=>rw[hn] at h4; exact⟨h4.1,h4.2.1⟩
 |some x=>rw[hn] at h4; exact⟨h4.1,h4.2.1⟩
def Had(h:Heap)(r:Option Ref)(o:Option AObj):Prop:=(∃ r' x,r=some r'/\h.get r'=some x/\o=some x)\/(r=none/\o=none)
theorem qFw{r s:Option Ref}{os:List AObj}{oa ob:Option AObj}(h1:(zipNeeds r s).mapM h.get=some os)(h2:splitNeeds r s os=some (oa,ob)):Had h r oa/\Had h s ob:=by
 have h1:=qAP h1;cases r <;> cases s <;> simp only[zipNeeds] at h1
 ·cases os <;> simp[splitNeeds] at h2
  ·obtain⟨rfl,rfl⟩:=h2; exact⟨.inr ⟨rfl,rfl⟩,.inr ⟨rfl,rfl⟩⟩
 ·cases os with
  |nil=>exact h1.elim
  |cons o os=>cases os with
   |nil=>simp[splitNeeds] at h2; obtain⟨rfl,rfl⟩:=h2; exact⟨.inr ⟨rfl,rfl⟩,.inl ⟨_,_,rfl,h1.1,rfl⟩⟩
   |cons _ _=>exact h1.2.elim
 ·cases os with
  |nil=>exact h1.elim
  |cons o os=>cases os with
   |nil=>simp[splitNeeds] at h2; obtain⟨rfl,rfl⟩:=h2; exact⟨.inl ⟨_,_,rfl,h1.1,rfl⟩,.inr ⟨rfl,rfl⟩⟩
   |cons _ _=>exact h1.2.elim
 ·cases os with
  |nil=>exact h1.elim
  |cons o os=>cases os with
   |nil=>exact h1.2.elim
   |cons o2 os=>cases os with
    |nil=>simp[splitNeeds] at h2; obtain⟨rfl,rfl⟩:=h2; exact⟨.inl ⟨_,_,rfl,h1.1,rfl⟩,.inl ⟨_,_,rfl,h1.2.1,rfl⟩⟩
    |cons _ _=>exact h1.2.2.elim
theorem Had.some{r:Ref}{o:Option AObj}(hh:Had h (.some r) o):∃ x,h.get r = .some x/\o = .some x:=by
 rcases hh with ⟨r',x,e,e1,e2⟩|⟨e,_⟩
 ·cases e; exact⟨x,e1,e2⟩
 ·cases e
theorem qJ2{h1:Heap}{gone:Option Ref}(hl:Less h h1 gone)(hd:d+1<1048576)(H:WRel ρ I h w){cs:List Cell}{imm:Nat}{push:Bool}{arr:Array Value}{elem:TypeId}{w':World}(hw:w'.heap=w.heap.push (.cells arr elem (0,0)))
  (hos:w'.os=w.os/\w'.tape=w.tape/\w'.output=w.output) (hlen:cs.length<=arr.size) (hcs:∀ (k:Nat) c,cs[k]?=some c->∃ v,arr[k]?=some v/\CRel ρ I c v) :
  let p:=place h1 h.ims.length (h.gen d) d (.cells cs imm) push
  ∃ ρ',ρ' p.1=some ⟨w.heap.size,0,arr.size⟩/\WRel ρ' I p.2 w'/\Good ρ I h w ρ' I p.2 w':=by
 refine qCF H hl hd (.cells cs imm) push ⟨w.heap.size,0,arr.size⟩ rfl (λb hb => ?_) (by rw[hw]; simp) hos (Imm.le_refl _) (λ_ _ _ e _=>e) (λk v e => ?_) rfl (λρ' hle => ?_)
 ·rw[hw,Array.getElem?_push,if_neg hb]
 ·exact absurd (qBu (H.icell _ _ _ e)) (by simp)
 ·refine⟨arr,elem,0,0,by rw[hw]; simp,rfl,by simpa using hlen,λk c hk => ?_,λo _ _=>by omega⟩;obtain⟨v,a1,a2⟩:=hcs k c hk;exact⟨v,by simpa using a1,a2.mono hle (Imm.le_refl _)⟩
theorem qK9{h1:Heap}{gone:Option Ref}(hl:Less h h1 gone)(hd:d+1<1048576)(H:WRel ρ I h w){sz n cap:Nat}{cs:List Cell}{rows:List (List PVal)}(hch:chunk sz n cs=some rows){vals:List Value}(hv:All2 (CRel ρ I) cs vals)(hvl:vals.length=n*sz)
  {push:Bool} {arr:Array Value} {elem:TypeId} {w':World} (hw:w'.heap=w.heap.push (.cells arr elem (0,0))) (hos:w'.os=w.os/\w'.tape=w.tape/\w'.output=w.output) (hcap:n<=cap) (hsz:arr.size=cap*sz)
  (hvals:∀ (j:Nat) v,vals[j]?=some v->arr[j]?=some v) :
  let p:=place h1 h.ims.length (h.gen d) d (.cells [] 0) push
  ∃ ρ' I',TRel ρ' I' (.v (.c (.tsl sz rows p.1))) (.slice (some ⟨w.heap.size,0,none⟩) n cap)/\WRel ρ' I' p.2 w'/\Good ρ I h w ρ' I' p.2 w':=by
 intro p;have hn1:=(qCl n hch).1;have hfit:n*sz<=cap*sz:=Nat.mul_le_mul_right sz hcap;have hnone:∀ k,I.cell w.heap.size k=none:=λk=>by
  cases e:I.cell w.heap.size k with
  |none=>rfl
  |some v=>exact absurd (qBu (H.icell _ _ _ e)) (by simp)
 have hle:I.le (immAdd I w.heap.size 0 (n*sz) (arr[·]?)):=qCo λk _ _=>hnone k
 have hc:w'.heap[w.heap.size]?=some (.cells arr elem (0,0)):=by rw[hw]; simp
 obtain⟨ρ',e1,e2,e3⟩:=qCF (w':=w') (I':=immAdd I w.heap.size 0 (n*sz) (arr[·]?)) H hl hd (.cells [] 0) push ⟨w.heap.size,n*sz,arr.size⟩ rfl (λb hb=>by rw[hw,Array.getElem?_push,if_neg hb]) (by rw[hw]; simp) hos hle
  (λb k v e' hb=>by rw[qA5 (λhh=>hb hh.1)] at e'; exact e')
  (λk v e'=>by
   by_cases hk:k<n*sz
   ·rw[qBA (Nat.zero_le _) hk] at e';exact⟨by simpa [ownFrom] using hk,by simp only[World.cell?,hc]; simpa using e'⟩
   ·rw[qA5 (by omega),hnone k] at e'; cases e') rfl
  (λρ' hle'=>⟨arr,elem,0,0,hc,rfl,by simp only[List.length_nil]; omega,λk c hk=>by simp at hk,λo _ _=>by omega⟩)
 refine⟨ρ',_,?_,e2,e3⟩;have hp:PRel (immAdd I w.heap.size 0 (n*sz) (arr[·]?)) (.slice sz false rows) (.slice (some ⟨w.heap.size,0,none⟩) n cap) :=
  qCT hle hch hv (λj u e'=>by
   have hj:j<n*sz:=by have:=(List.getElem?_eq_some_iff.1 e').1; omega
   rw[Nat.zero_add,qBA (Nat.zero_le _) hj]
   exact hvals j u e') hcap (λe=>by cases e)
 have key:=CRel.tsl (ρ:=ρ') sz rows p.1 w.heap.size 0 cap ⟨w.heap.size,n*sz,arr.size⟩ (by rw[hn1]; exact hp) e1 rfl (by rw[hn1]; simp) (by simp only; omega);rw[hn1] at key;exact key
theorem qHG{sz:Nat}:∀ (n:Nat) {m:Nat} {cs ds:List Cell} {rows rows':List (List PVal)},chunk sz n cs=some rows->cs.length=n*sz->chunk sz m ds=some rows'->chunk sz (n+m) (cs++ds)=some (rows++rows'):=by
 intro n
 induction n with
 |zero =>
  intro m cs ds rows rows' h1 h2 h3;simp[chunk] at h1;rw[Nat.zero_mul] at h2;have:=List.length_eq_zero_iff.1 h2;subst this; subst h1
  simpa using h3
 |succ n ih =>
  intro m cs ds rows rows' h1 h2 h3;rw[Nat.add_mul,Nat.one_mul] at h2;simp only[chunk,Option.bind_eq_bind,Option.bind_eq_some_iff] at h1;obtain⟨row,hrow,hc⟩:=h1;split at hc
  ·rename_i hlen;obtain⟨rest,hrest,e⟩:=Option.bind_eq_some_iff.1 hc;simp only[Option.pure_def,Option.some.injEq] at e;subst e;have:=ih hrest (by simp; omega) h3;rw[show n+1+m=(n+m)+1 by omega];simp only[chunk];rw[List.take_append_of_le_length (by omega),List.drop_append_of_le_length (by omega),hrow];simp only[Option.bind_eq_bind,Option.bind_some,hlen,if_true,this];rfl
  ·cases hc
theorem qD4{sz:Nat}:∀ {rows:List (List PVal)},(∀ (i:Nat) r,rows[i]?=some r->r.length=sz)->chunk sz rows.length (pcells rows.flatten)=some rows:=by
 intro rows
 induction rows with
 |nil=>intro _; rfl
 |cons r rows ih =>
  intro hs;have hr:=hs 0 r rfl;simp only[List.length_cons,chunk,List.flatten_cons,pcells,List.map_append];have ht:(List.map Cell.p r++List.map Cell.p rows.flatten).take sz=List.map Cell.p r:=by rw[List.take_append_of_le_length (by simp; omega),List.take_of_length_le (by simp; omega)]
  have hd':(List.map Cell.p r++List.map Cell.p rows.flatten).drop sz=List.map Cell.p rows.flatten:=by rw[List.drop_append_of_le_length (by simp; omega),List.drop_of_length_le (by simp; omega)]; rfl
  rw[ht,hd'];have hu:unps (List.map Cell.p r)=some r:=by
   clear ht hd' ih hs hr;unfold unps
   induction r with
   |nil=>rfl
   |cons x r ih=>simp only[List.map_cons,List.mapM_cons,unp,ih]; rfl
  have:=ih (λi r' e=>hs (i+1) r' (by simpa using e));simp only[pcells] at this;rw[hu,this];simp[hr]
end
end Go.AI
namespace Go.AI
variable [Sym]
section
variable {P:Program} {G:Nat->Option (List PVal)} {ρ:Env} {I:Imm} {h:Heap} {w:World} {tm:TM TVal} {a:Act}
variable {heap:Nat->Bool} {d:Nat} {v:TVal} {h':Heap} {t:Touch} {o:Oper}
theorem qNh{x:TVal}{xv:Value}(hx:TRel ρ I x xv)(hs:isSl x=true):∃ base n c,xv = .slice base n c/\n<=c:=by
 unfold isSl at hs;split at hs
 ·cases (qAC hx) with|p _ _ hp=>cases hp; exact⟨_,_,_,rfl,Nat.le_refl _⟩
 ·cases (qAC hx) with|p _ _ hp=>cases hp <;> exact⟨_,_,_,rfl,by first|assumption|exact Nat.zero_le _⟩
 ·have hx':=qAC hx;generalize xv=z at hx' ⊢;cases hx' with|tsl _ _ _ b o cap l hp=>cases hp <;> exact⟨_,_,_,rfl,by first|assumption|exact Nat.zero_le _⟩
 ·have hx':=qAC hx;generalize xv=z at hx' ⊢;cases hx'; exact⟨_,_,_,rfl,by assumption⟩
 ·cases hs
structure AppIn (P:Program) (ρ:Env) (I:Imm) (h:Heap) (w:World) (ty u e:TypeId) (sz by':Nat) (i:TypeInfo) (zv:Value) (n:Nat) (yv:Value) (new:List Cell) (news:List Value):Prop where
 heap:WRel ρ I h w
 hu:P.underlying ty=some (.slice e)
 huu:(∃ e',P.underlying u=some (.slice e'))\/P.underlying u=some .string
 hi:P.info? e=some i
 hsz:i.size=sz
 hby:i.bytes=by'
 hz:i.zero=some zv
 hzs:zv.cells.size=sz
 hb0:0<by'
 hnew:All2 (CRel ρ I) new news
 src:Src P w sz yv n news
theorem qG6{ty u e:TypeId}{sz by':Nat}{i:TypeInfo}{zv:Value}{n:Nat}{yv:Value}{new:List Cell}{news:List Value}(A:AppIn P ρ I h w ty u e sz by' i zv n yv new news):szOf P e=some sz:=by unfold szOf; rw[A.hi]; simp[A.hsz]
theorem qCr{ty u rt e:TypeId}{sz by':Nat}{i:TypeInfo}{zv:Value}{n:Nat}{yv:Value}{new:List Cell}{news:List Value}(A:AppIn P ρ I h w ty u e sz by' i zv n yv new news)
  {base:Option Addr} {sLen sCap:Nat} {ocs:List Cell} {olds:List Value} (hold:∀ w':World,w'.heap=w.heap->(Builtin.firstCells sz sLen (.slice base sLen sCap)).run P w' = .ok olds.toArray w') (ho:All2 (CRel ρ I) ocs olds)
  (hol:olds.length=sLen*sz) (hgrow:sCap<sLen+n) (hfit:(sLen+n)*by'<=2 ^ 47) {h1:Heap} {gone:Option Ref} (hl:Less h h1 gone) (hd:d+1<1048576) (imm:Nat) (push:Bool) :
  let p:=place h1 h.ims.length (h.gen d) d (.cells (ocs++new) imm) push
  ∃ cv w' ρ',(Builtin.append_ #[ty,u] rt #[.slice base sLen sCap,yv]).run P w = .ok cv w'/\TRel ρ' I (.v (.c (.sref p.1 0 (sLen+n) none sz))) cv/\WRel ρ' I p.2 w'/\Good ρ I h w ρ' I p.2 w':=by
 obtain⟨rest,cap',h1',h2',h3'⟩:=qC9 (rt:=rt) A.hu A.huu A.hi A.hsz A.hby A.hz A.hzs A.src hold hol hgrow hfit A.hb0;have hc:=All2.append ho A.hnew;have hln:=A.src.len;have hlc:=hc.length;simp only[List.length_append,hol,hln] at hlc;obtain⟨ρ',e1,e2,e3⟩:=qJ2 (imm:=imm) (push:=push) (arr:=olds.toArray++news.toArray++rest) (elem:=e) (cs:=ocs++new) (w':=w.drew.alloc (.cells (olds.toArray++news.toArray++rest) e)) hl hd A.heap rfl ⟨rfl,rfl,rfl⟩
  (by rw[h2']; have:=Nat.mul_le_mul_right sz h1'; rw[Nat.add_mul] at this; simp only[List.length_append]; omega)
  (λk c hk=>by
   obtain⟨v,a1,a2⟩:=hc.get k c hk;refine⟨v,?_,a2⟩;have hkl:=(List.getElem?_eq_some_iff.1 a1).1;rw[Array.getElem?_append_left (by simpa using hkl)]
   simpa using a1)
 exact⟨_,_,ρ',h3',CRel.sref (ρ:=ρ') (I:=I) _ 0 (sLen+n) none sz cap' _ e1 h1' (by simp only; rw[<- h2']; omega) (λc e=>by cases e),e2,e3⟩
theorem qEn{ty u rt e:TypeId}{sz by':Nat}{i:TypeInfo}{zv:Value}{n:Nat}{yv:Value}{new:List Cell}{news:List Value}(A:AppIn P ρ I h w ty u e sz by' i zv n yv new news)
  {base:Option Addr} {sLen sCap:Nat} {ocs:List Cell} {olds:List Value} (hold:∀ w':World,w'.heap=w.heap->(Builtin.firstCells sz sLen (.slice base sLen sCap)).run P w' = .ok olds.toArray w') (ho:All2 (CRel ρ I) ocs olds)
  (hol:olds.length=sLen*sz) (hgrow:sCap<sLen+n) (hfit:(sLen+n)*by'<=2 ^ 47) {h1:Heap} {gone:Option Ref} (hl:Less h h1 gone) (hd:d+1<1048576) {rows rows':List (List PVal)} (hr:chunk sz sLen ocs=some rows) (hr':chunk sz n new=some rows') :
  let p:=place h1 h.ims.length (h.gen d) d (.cells [] 0) false
  ∃ cv w' ρ' I',(Builtin.append_ #[ty,u] rt #[.slice base sLen sCap,yv]).run P w = .ok cv w'/\TRel ρ' I' (.v (.c (.tsl sz (rows++rows') p.1))) cv/\WRel ρ' I' p.2 w'/\Good ρ I h w ρ' I' p.2 w':=by
 obtain⟨rest,cap',h1',h2',h3'⟩:=qC9 (rt:=rt) A.hu A.huu A.hi A.hsz A.hby A.hz A.hzs A.src hold hol hgrow hfit A.hb0;have hc:=All2.append ho A.hnew;have hln:=A.src.len;have hlo:=ho.length;obtain⟨ρ',I',e1,e2,e3⟩:=qK9 (push:=false) (arr:=olds.toArray++news.toArray++rest) (elem:=e) (w':=w.drew.alloc (.cells (olds.toArray++news.toArray++rest) e)) hl hd A.heap
  (qHG sLen hr (by omega) hr') hc (by rw[List.length_append,hol,hln,Nat.add_mul]) rfl ⟨rfl,rfl,rfl⟩ h1' h2' (λj v e=>by
   have hkl:=(List.getElem?_eq_some_iff.1 e).1;rw[Array.getElem?_append_left (by simpa using hkl)]
   simpa using e)
 exact⟨_,_,ρ',I',h3',e1,e2,e3⟩
theorem qNK{ty u rt e:TypeId}{sz by':Nat}{i:TypeInfo}{zv:Value}{n:Nat}{yv:Value}{new:List Cell}{news:List Value}(A:AppIn P ρ I h w ty u e sz by' i zv n yv new news)
  {r:Ref} {off len cc imm:Nat} {cs:List Cell} {l:Loc} (hr:h.get r=some (.cells cs imm)) (hrl:ρ r=some l) (hlc:len<=cc) (ht:l.base+off+cc*sz<=l.tot) (hfit:off+len*sz<=cs.length) (himm:imm<=off+len*sz)
  (hroom:len+n<=cc) (hd:d+1<1048576) (push:Bool) :
  let p:=place (h.put r .dead) h.ims.length (h.gen d) d (.cells ((cs.drop off).take (len*sz)++new) (imm - off)) push
  ∃ cv w' ρ',(Builtin.append_ #[ty,u] rt #[.slice (some ⟨l.blk,l.base+off,none⟩) len cc,yv]).run P w = .ok cv w'/\TRel ρ' I (.v (.c (.sref p.1 0 (len+n) none sz))) cv/\WRel ρ' I p.2 w'/\Good ρ I h w ρ' I p.2 w':=by
 intro p;obtain⟨l',e',hobj⟩:=A.heap.live _ _ hr;rw[hrl] at e'; cases e';obtain⟨arr,elem,lo,hi,h1,h2,h3,h4,h5⟩:=hobj;have hln:=A.src.len;have hnl:=A.hnew.length;have hm:(len+n)*sz<=cc*sz:=Nat.mul_le_mul_right sz hroom;rw[Nat.add_mul] at hm;obtain⟨w',hrun,hS⟩:=qB8 (P:=P) (b:=l.blk) (o:=l.base+off+len*sz) news 0 w arr elem lo hi h1 (by omega) A.hnew.oneC (λk a b=>h5 k (by omega) (by omega));obtain⟨arr',a1,a2,a3⟩:=hS.row _ _ _ h1;obtain⟨ρ',e1,e2,e3⟩:=qFL (d:=d) (obj := .cells ((cs.drop off).take (len*sz)++new) (imm - off)) (push:=push) A.heap hr hrl (Less.kill hr) hd ⟨l.blk,l.base+off,l.tot⟩ rfl (I':=I) (w':=w') hS.other (by rw[hS.size]; exact Nat.le_refl _) hS.rest (Imm.le_refl _) (λ_ _ _ e _=>e)
  (λk v hk=>by
   have hap:=A.heap.apart r _ l hr hrl l.blk k v hk rfl;simp only[ownFrom] at hap ⊢;refine⟨by omega,?_⟩;have hc:=A.heap.icell _ _ _ hk;simp only[World.cell?,h1,a1,Option.isSome_none,Bool.false_eq_true,if_false] at hc ⊢;rw[a3 k,if_neg (by omega)]
   exact hc) rfl
  (λρ' hle=>by
   refine⟨arr',elem,lo,hi,a1,by simp only; omega,by simp only[List.length_append,List.length_take,List.length_drop]; omega,λk c hk => ?_,λo a b=>h5 o (by simp only at a; omega) b⟩;simp only;rw[a3];have htl:(List.take (len*sz) (List.drop off cs)).length=len*sz:=by simp only[List.length_take,List.length_drop]; omega
   by_cases hk1:k<len*sz
   ·rw[List.getElem?_append_left (by omega),List.getElem?_take,if_pos hk1,List.getElem?_drop] at hk;rw[if_neg (by omega)];obtain⟨v,b1,b2⟩:=h4 _ _ hk;exact⟨v,by rw[<- b1]; congr 1; omega,b2.mono hle (Imm.le_refl _)⟩
   ·rw[List.getElem?_append_right (by omega),htl] at hk;have hkn:=(List.getElem?_eq_some_iff.1 hk).1;rw[if_pos (by omega)];obtain⟨v,b1,b2⟩:=A.hnew.get _ _ hk
    exact⟨v,by rw[<- b1]; congr 1; omega,b2.mono hle (Imm.le_refl _)⟩)
 refine⟨_,w',ρ',qCI A.hu A.huu (qG6 A) A.src hroom hrun,?_,e2,e3⟩;exact CRel.sref (ρ:=ρ') (I:=I) p.1 0 (len+n) none sz cc ⟨l.blk,l.base+off,l.tot⟩ e1 hroom (by simp only; omega) (λc e=>by cases e)
theorem qNy{ty u rt e:TypeId}{sz by':Nat}{i:TypeInfo}{zv:Value}{n:Nat}{yv:Value}{new:List Cell}{news:List Value}(A:AppIn P ρ I h w ty u e sz by' i zv n yv new news)
  {r:Ref} {rows rows':List (List PVal)} {b o' cap:Nat} {l:Loc} (hr:h.get r=some (.cells [] 0)) (hrl:ρ r=some l) (hp:PRel I (.slice sz false rows) (.slice (some ⟨b,o',none⟩) rows.length cap)) (hb:l.blk=b) (ho':o'+rows.length*sz=l.base) (ht:o'+cap*sz<=l.tot)
  (hroom:rows.length+n<=cap) (hd:d+1<1048576) (hr':chunk sz n new=some rows') :
  let p:=place (h.put r .dead) h.ims.length (h.gen d) d (.cells [] 0) false
  ∃ cv w' ρ' I',(Builtin.append_ #[ty,u] rt #[.slice (some ⟨b,o',none⟩) rows.length cap,yv]).run P w = .ok cv w'/\TRel ρ' I' (.v (.c (.tsl sz (rows++rows') p.1))) cv/\WRel ρ' I' p.2 w'/\Good ρ I h w ρ' I' p.2 w':=by
 intro p;obtain⟨l',e',hobj⟩:=A.heap.live _ _ hr;rw[hrl] at e'; cases e';obtain⟨arr,elem,lo,hi,h1,h2,h3,h4,h5⟩:=hobj;have hln:=A.src.len;have hnl:=A.hnew.length;have hm:(rows.length+n)*sz<=cap*sz:=Nat.mul_le_mul_right sz hroom;rw[Nat.add_mul] at hm;subst hb;obtain⟨w',hrun,hS⟩:=qB8 (P:=P) (b:=l.blk) (o:=l.base) news 0 w arr elem lo hi h1 (by omega) A.hnew.oneC (λk a b=>h5 k (by omega) (by omega));obtain⟨arr',a1,a2,a3⟩:=hS.row _ _ _ h1;have hcell:∀ k,w'.cell? ⟨l.blk,k,none⟩=arr'[k]?:=λk=>by simp only[World.cell?,a1,Option.isSome_none,Bool.false_eq_true,if_false]
 have hle:I.le (immAdd I l.blk l.base (l.base+n*sz) (arr'[·]?)):=qCo λk hk _=>by
  cases e:I.cell l.blk k with
  |none=>rfl
  |some v=>have:=A.heap.apart r _ l hr hrl l.blk k v e rfl; simp only[ownFrom] at this; omega
 obtain⟨ρ',e1,e2,e3⟩:=qFL (d:=d) (obj := .cells [] 0) (push:=false) A.heap hr hrl (Less.kill hr) hd ⟨l.blk,l.base+n*sz,l.tot⟩ rfl (I':=immAdd I l.blk l.base (l.base+n*sz) (arr'[·]?)) (w':=w') hS.other (by rw[hS.size]; exact Nat.le_refl _) hS.rest hle
  (λb' k v e hb'=>by rw[qA5 (λhh=>hb' hh.1)] at e; exact e)
  (λk v hk=>by
   by_cases hin:l.base<=k/\k<l.base+n*sz
   ·rw[qBA hin.1 hin.2] at hk;exact⟨by simp only[ownFrom]; omega,by rw[hcell]; exact hk⟩
   ·rw[qA5 (by simp only; omega)] at hk;have hap:=A.heap.apart r _ l hr hrl l.blk k v hk rfl;simp only[ownFrom] at hap ⊢;refine⟨by omega,?_⟩;have hc:=A.heap.icell _ _ _ hk;simp only[World.cell?,h1,Option.isSome_none,Bool.false_eq_true,if_false] at hc;rw[hcell,a3 k,if_neg (by omega)]
    exact hc) rfl
  (λρ' hle=>⟨arr',elem,lo,hi,a1,by simp only; omega,by simp only[List.length_nil]; omega,λk c hk=>by simp at hk,λo a b=>h5 o (by simp only at a; omega) b⟩)
 have hp1:PRel (immAdd I l.blk l.base (l.base+n*sz) (arr'[·]?)) (.slice sz false (rows++rows')) (.slice (some ⟨l.blk,o',none⟩) (rows++rows').length cap):=by
  obtain⟨c1,c2,c3⟩:=qCl n hr';obtain⟨_,cv,ht',hc',hs',hI',hv'⟩:=qM2 hp;refine .slice sz false (rows++rows') l.blk o' cap (λi k=>if i<rows.length then cv i k else news.getD ((i - rows.length)*sz+k) .nilIface) (λe=>by cases e) (by rw[List.length_append]; omega) (λi r' e => ?_) (λi r' k v e1 e2 => ?_) (λi r' k v e1 e2 => ?_)
  ·by_cases hi':i<rows.length
   ·rw[List.getElem?_append_left hi'] at e; exact hs' i r' e
   ·rw[List.getElem?_append_right (by omega)] at e; exact c2 _ r' e
  ·by_cases hi':i<rows.length
   ·rw[List.getElem?_append_left hi'] at e1;rw[if_pos hi'];exact hle.1 _ _ _ (hI' i r' k v e1 e2)
   ·rw[List.getElem?_append_right (by omega)] at e1;rw[if_neg hi'];obtain⟨u',f1,f2⟩:=A.hnew.get _ _ (c3 _ r' k v e1 e2);have hlt:=(List.getElem?_eq_some_iff.1 f1).1;have hmul:i*sz=rows.length*sz+(i - rows.length)*sz:=by rw[<- Nat.add_mul]; congr 1; omega
    rw[qBA (by omega) (by omega),a3,if_pos (by omega)];rw[show o'+i*sz+k - (l.base+0)=(i - rows.length)*sz+k by omega,f1];simp[f1]
  ·by_cases hi':i<rows.length
   ·rw[List.getElem?_append_left hi'] at e1;rw[if_pos hi'];exact(hv' i r' k v e1 e2).mono hle
   ·rw[List.getElem?_append_right (by omega)] at e1;rw[if_neg hi'];obtain⟨u',f1,f2⟩:=A.hnew.get _ _ (c3 _ r' k v e1 e2);cases f2 with|p _ _ hp' =>
    simp only[List.getD_eq_getElem?_getD,f1,Option.getD_some];exact hp'.mono hle
 have hrl':(rows++rows').length=rows.length+n:=by rw[List.length_append,(qCl n hr').1]
 refine⟨_,w',ρ',_,qCI A.hu A.huu (qG6 A) A.src hroom (by rw[ho']; exact hrun),?_,e2,e3⟩;have key:=CRel.tsl (ρ:=ρ') sz (rows++rows') p.1 l.blk o' cap ⟨l.blk,l.base+n*sz,l.tot⟩ hp1 e1 rfl (by rw[hrl',Nat.add_mul]; simp only; omega) (by simp only; omega);rw[hrl'] at key;exact key
theorem qOH{r:Ref}{sz:Nat}{rows:List (List PVal)}{xv:Value}(hx:TRel ρ I (.v (.c (.tsl sz rows r))) xv):∃ b o' cap l,xv = .slice (some ⟨b,o',none⟩) rows.length cap/\PRel I (.slice sz false rows) (.slice (some ⟨b,o',none⟩) rows.length cap)/\ρ r=some l/\l.blk=b/\o'+rows.length*sz=l.base/\o'+cap*sz<=l.tot:=by
 have hx':=qAC hx;generalize xv=z at hx' ⊢;cases hx' with|tsl _ _ _ b o cap l hp a1 a2 a3 a4=>exact⟨b,o,cap,l,rfl,hp,a1,a2,a3,a4⟩
theorem qEY{r:Ref}{off len sz:Nat}{cap:Option Nat}{xv:Value}(hx:TRel ρ I (.v (.c (.sref r off len cap sz))) xv):∃ l cc,xv = .slice (some ⟨l.blk,l.base+off,none⟩) len cc/\ρ r=some l/\len<=cc/\l.base+off+cc*sz<=l.tot/\∀ c,cap=some c->cc=c:=by
 have hx':=qAC hx;generalize xv=z at hx' ⊢;cases hx' with|sref _ _ _ _ _ cc l a1 a2 a3 a4=>exact⟨l,cc,rfl,a1,a2,a3,a4⟩
theorem qGL{sz:Nat}{tight:Bool}{rows:List (List PVal)}{v:Value}(hp:PRel I (.slice sz tight rows) v):∀ (i:Nat) r,rows[i]?=some r->r.length=sz:=by cases hp with|emp=>(intro i r e; simp at e)|slice=>assumption
theorem qHO{sz:Nat}:∀ w':World,w'.heap=w.heap->(Builtin.firstCells sz 0 (.slice none 0 0)).run P w' = .ok ([]:List Value).toArray w':=λw' _=>by simp[Builtin.firstCells]
theorem qJn(sz:Nat)(cs:List Cell):chunk sz 0 cs=some []:=rfl
theorem qJ3{c:Call}{ty u e:TypeId}{x y:Operand}{sz by':Nat}{z:Comp}{hp':Bool}(C:Here P G ρ I h w tm a)(hd:d+1<1048576)(ho:o.op = .call c)(hb:c.callee = .builtin .append)(ha:c.args=#[x,y])(ht:c.argTypes=#[ty,u])
  (hu:P.underlying ty=some (.slice e)) (huu:(∃ e',P.underlying u=some (.slice e'))\/P.underlying u=some .string) (hsz:szOf P e=some sz) (hby:bytesT P e=some by') (hz:zeroT P e=some z) (hb0:by'≠0) (hzl:z.cells.length=sz)
  {x' y':X} (hx:compX G x=some x') (hy:compX G y=some y') {p:Plan} (hp:plan tm (.append sz by' hp' x' y')=some p) (hg:p.doGo d h=some (v,h',t)):ValOK ρ I h w ((execOp a.eval o).run P w) v h':=by
 have hex:execOp a.eval o=(do pure (.value (<- Builtin.append_ #[ty,u] o.type #[a.eval x,a.eval y])):Sem Next):=by rw[qAq ho hb,ha,ht]; simp only[List.map_toArray,List.map_cons,List.map_nil]; rfl
 simp only[plan] at hp;split at hp
 ·rename_i X Y hX hY;simp only[Option.some.injEq] at hp;subst hp;have hxr:=C.ev hx hX;have hyr:=C.ev hy hY;obtain⟨os,res,h1,h2,h3⟩:=qHY hg;simp only[Option.bind_eq_bind,Option.bind_eq_some_iff] at h2;obtain⟨⟨oa,ob⟩,h4,⟨new,n⟩,h5,h6⟩:=h2;dsimp only at h5 h6;obtain⟨hda,hdb⟩:=qFw h1 h4;obtain⟨news,hnew,hsrc⟩:=qLu (P:=P) hyr C.heap hdb h5;obtain⟨i,zv,z1,z2,z3⟩:=zeroT_info hz;have hisz:i.size=sz:=by unfold szOf at hsz; rw[z1] at hsz; simpa using hsz
  have hiby:i.bytes=by':=by unfold bytesT at hby; rw[z1] at hby; simpa using hby
  have A:AppIn P ρ I h w ty u e sz by' i zv n (a.eval y) new news:=⟨C.heap,hu,huu,z1,hisz,hiby,z2,qHT z3 hzl,by omega,hnew,hsrc⟩;have fin:∀ {cv w' ρ' I' v h'},(Builtin.append_ #[ty,u] o.type #[a.eval x,a.eval y]).run P w = .ok cv w'->TRel ρ' I' v cv->WRel ρ' I' h' w'->Good ρ I h w ρ' I' h' w'->ValOK ρ I h w ((execOp a.eval o).run P w) v h':=by
   intro cv w' ρ' I' v h' e1 e2 e3 e4;refine⟨w',ρ',I',.inl ⟨cv,?_,e2⟩,e3,e4⟩;rw[hex]; simp[e1]
  unfold appendTo at h6;split at h6
  ·rename_i hn0;subst hn0;split at h6
   ·rename_i hsl;cases h6;obtain⟨rfl,rfl⟩:=h3;obtain⟨base,m,cc,e1,e2⟩:=qNh hxr hsl;refine fin (cv:=a.eval x) ?_ hxr C.heap (Good.refl _ _ _ _);rw[e1]; exact qFG hu huu hsz hsrc e2
   ·cases h6
  ·rename_i hn0;split at h6
   ·-- nil
    cases (qAC hxr) with|p _ _ hpx =>
    generalize hxv:a.eval x=xv at hpx;cases hpx;split at h6
    ·unfold freshRow at h6;split at h6
     ·rename_i hfit;cases h6;obtain⟨rfl,rfl⟩:=h3;obtain⟨cv,w',ρ',e1,e2,e3,e4⟩:=qCr (rt:=o.type) A (base:=none) (sLen:=0) (sCap:=0) (ocs:=[]) (olds:=[]) qHO trivial (by simp) (by omega) (by simpa using hfit) (Less.refl h) hd 0 true;rw[List.nil_append,Nat.zero_add] at *;exact fin (by rw[hxv]; exact e1) e2 e3 e4
     ·cases h6
    ·unfold growRow at h6;split at h6
     ·rename_i rs hch;split at h6
      ·rename_i hfit;cases h6;obtain⟨rfl,rfl⟩:=h3;obtain⟨cv,w',ρ',I',e1,e2,e3,e4⟩:=qEn (rt:=o.type) A (base:=none) (sLen:=0) (sCap:=0) (ocs:=[]) (olds:=[]) qHO trivial (by simp) (by omega) (by simpa using hfit) (Less.refl h) hd (qJn sz []) hch;exact fin (by rw[hxv]; exact e1) e2 e3 e4
      ·cases h6
     ·cases h6
   ·-- a row written no more,of all its capacity
    rename_i sz' rows;split at h6
    ·rename_i hszz;subst hszz;cases (qAC hxr) with|p _ _ hpx =>
     obtain⟨ad,b,off,cap,c1,c2,c3,c4,c5,c6⟩:=qCB hpx C.heap;have c3':=c3 rfl;subst c3';obtain⟨olds,f1,f2⟩:=c4.vals;have hol:olds.length=rows.length*sz':=by rw[<- f1.length,c5]
     have hold:∀ w':World,w'.heap=w.heap->(Builtin.firstCells sz' rows.length (.slice (some ad) rows.length rows.length)).run P w' = .ok olds.toArray w':=λw' hw'=>qDL hol f2 (c6.imp (λe=>by rw[e]; rfl) id) hw'
     have hrl:∀ (i:Nat) r,rows[i]?=some r->r.length=sz':=qGL hpx;split at h6
     ·unfold freshRow at h6;split at h6
      ·rename_i hfit;cases h6;obtain⟨rfl,rfl⟩:=h3;obtain⟨cv,w',ρ',e1,e2,e3,e4⟩:=qCr (rt:=o.type) A hold f1 hol (by omega) hfit (Less.refl h) hd 0 true;exact fin (by rw[c1]; exact e1) e2 e3 e4
      ·cases h6
     ·unfold growRow at h6;split at h6
      ·rename_i rs hch;split at h6
       ·rename_i hfit;cases h6;obtain⟨rfl,rfl⟩:=h3;obtain⟨cv,w',ρ',I',e1,e2,e3,e4⟩:=qEn (rt:=o.type) A hold f1 hol (by omega) hfit (Less.refl h) hd (qD4 hrl) hch;exact fin (by rw[c1]; exact e1) e2 e3 e4
       ·cases h6
      ·cases h6
    ·cases h6
   ·-- a row that grows
    rename_i sz' rows r;split at h6
    ·rename_i hszz;subst hszz;obtain⟨b,o',cap,l,c1,c2,c3,c4,c5,c6⟩:=qOH hxr;obtain⟨x0,hr,hx0⟩:=hda.some;cases hx0;unfold growRow at h6;split at h6
     ·rename_i rs hch;split at h6
      ·rename_i hfit;cases h6;obtain⟨rfl,rfl⟩:=h3;by_cases hroom:rows.length+n<=cap
       ·obtain⟨cv,w',ρ',I',e1,e2,e3,e4⟩:=qNy (rt:=o.type) A hr c3 c2 c4 c5 c6 hroom hd hch;exact fin (by rw[c1]; exact e1) e2 e3 e4
       ·obtain⟨ad2,b2,off,cap2,d1,d2,d3,d4,d5,d6⟩:=qCB c2 C.heap;cases d1;obtain⟨olds,f1,f2⟩:=d4.vals;have hol:olds.length=rows.length*sz':=by rw[<- f1.length,d5]
        have hold:∀ w':World,w'.heap=w.heap->(Builtin.firstCells sz' rows.length (.slice (some ⟨b,o',none⟩) rows.length cap)).run P w' = .ok olds.toArray w':=λw' hw'=>qDL hol f2 (d6.imp (λe=>by rw[e]; rfl) id) hw'
        have hrl:∀ (i:Nat) r,rows[i]?=some r->r.length=sz':=qGL c2;obtain⟨cv,w',ρ',I',e1,e2,e3,e4⟩:=qEn (rt:=o.type) A hold f1 hol (by omega) hfit (Less.kill hr) hd (qD4 hrl) hch;exact fin (by rw[c1]; exact e1) e2 e3 e4
      ·cases h6
     ·cases h6
    ·cases h6
   ·-- a row of ours,its capacity known
    rename_i r off len cap sz' cs imm;split at h6
    ·rename_i hc;obtain⟨rfl,hfitc⟩:=hc;obtain⟨l,cc,c1,c2,c3,c4,c5⟩:=qEY hxr;have c5':=c5 _ rfl;subst c5';obtain⟨x0,hr,hx0⟩:=hda.some;cases hx0;have hln:=hsrc.len;have hnl:=hnew.length;split at h6
     ·rename_i hroom;split at h6
      ·rename_i hin;cases h6;obtain⟨rfl,rfl⟩:=h3;rw[Nat.add_mul] at hin;obtain⟨w',e1,e2,e3⟩:=qEa (P:=P) C.heap hr c2 (off+len*sz') new news hnew hin.1 (by omega);refine fin (by rw[c1]; exact qCI hu huu hsz hsrc hroom (by rw[Nat.add_assoc]; exact e1)) ?_ e2 e3;exact CRel.sref (ρ:=ρ) (I:=I) r off (len+n) (some cc) sz' cc l c2 hroom c4 (λc e=>by cases e; rfl)
      ·cases h6
     ·rename_i hroom;unfold freshRow at h6;split at h6
      ·rename_i hfit;cases h6;obtain⟨rfl,rfl⟩:=h3;obtain⟨l2,g1,g2⟩:=C.heap.live _ _ hr;rw[c2] at g1; cases g1;obtain⟨olds,f1,f2⟩:=((g2.cellsAt.drop off).take (len*sz')).vals;have hol:olds.length=len*sz':=by rw[<- f1.length]; simp only[List.length_take,List.length_drop]; omega
       obtain⟨cv,w',ρ',e1,e2,e3,e4⟩:=qCr (rt:=o.type) A (λw' hw'=>qCz (len:=len) (cap:=cc) hol f2 hw') f1 hol (by omega) hfit (Less.refl h) hd 0 hp';exact fin (by rw[c1]; exact e1) e2 e3 e4
      ·cases h6
    ·cases h6
   ·-- a row of ours,its capacity not known
    rename_i r off len sz' cs imm;split at h6
    ·rename_i hc;obtain⟨rfl,hfitc,himm⟩:=hc;obtain⟨l,cc,c1,c2,c3,c4,c5⟩:=qEY hxr;obtain⟨x0,hr,hx0⟩:=hda.some;cases hx0;split at h6
     ·rename_i hfit;cases h6;obtain⟨rfl,rfl⟩:=h3;by_cases hroom:len+n<=cc
      ·obtain⟨cv,w',ρ',e1,e2,e3,e4⟩:=qNK (rt:=o.type) A hr c2 c3 c4 hfitc himm hroom hd hp';exact fin (by rw[c1]; exact e1) e2 e3 e4
      ·obtain⟨l2,g1,g2⟩:=C.heap.live _ _ hr;rw[c2] at g1; cases g1;obtain⟨olds,f1,f2⟩:=((g2.cellsAt.drop off).take (len*sz')).vals;have hol:olds.length=len*sz':=by rw[<- f1.length]; simp only[List.length_take,List.length_drop]; omega
       obtain⟨cv,w',ρ',e1,e2,e3,e4⟩:=qCr (rt:=o.type) A (λw' hw'=>qCz (len:=len) (cap:=cc) hol f2 hw') f1 hol (by omega) hfit (Less.kill hr) hd (imm - off) hp';exact fin (by rw[c1]; exact e1) e2 e3 e4
     ·cases h6
    ·cases h6
   ·cases h6
 ·cases hp
theorem qNi{c:Call}{ty e:TypeId}{x y:Operand}{sz:Nat}(C:Here P G ρ I h w tm a)(ho:o.op = .call c)(hb:c.callee = .builtin .copy)(ha:c.args=#[x,y])(ht:c.argTypes[0]?=some ty)
  (hu:P.underlying ty=some (.slice e)) (hsz:szOf P e=some sz) {x' y':X} (hx:compX G x=some x') (hy:compX G y=some y') {p:Plan} (hp:plan tm (.copy sz x' y')=some p) (hg:p.doGo d h=some (v,h',t)):ValOK ρ I h w ((execOp a.eval o).run P w) v h':=by
 have hex:execOp a.eval o=(do pure (.value (<- Builtin.copy_ c.argTypes o.type #[a.eval x,a.eval y])):Sem Next):=by rw[qAq ho hb,ha]; simp only[List.map_toArray,List.map_cons,List.map_nil]; rfl
 simp only[plan] at hp;split at hp
 ·rename_i r off len cap sz' Y hX hY;simp only[Option.some.injEq] at hp;subst hp;have hxr:=C.ev hx hX;have hyr:=C.ev hy hY;obtain⟨l,cc,c1,c2,c3,c4,c5⟩:=qEY hxr;obtain⟨os,res,h1,h2,h3⟩:=qHY hg;simp only[Option.bind_eq_bind,Option.bind_eq_some_iff] at h2;obtain⟨⟨oa,ob⟩,h4,⟨new,n⟩,h5,h6⟩:=h2;dsimp only at h5 h6;obtain⟨hda,hdb⟩:=qFw h1 h4;obtain⟨news,hnew,hsrc⟩:=qLu (P:=P) hyr C.heap hdb h5;split at h6
  ·rename_i cs imm;split at h6
   ·rename_i hc;obtain⟨rfl,hfit,himm⟩:=hc;cases h6;obtain⟨rfl,rfl⟩:=h3;obtain⟨x0,hr,hx0⟩:=hda.some;cases hx0;have hnl:=hnew.length;have hln:=hsrc.len;have hm1:min n len*sz'<=n*sz':=Nat.mul_le_mul_right sz' (by omega);have hm2:min n len*sz'<=len*sz':=Nat.mul_le_mul_right sz' (by omega);obtain⟨w',e1,e2,e3⟩:=qEa (P:=P) C.heap hr c2 off (new.take (min n len*sz')) (news.take (min n len*sz')) (hnew.take _) himm (by simp only[List.length_take]; omega);have hfn:=hsrc.first (min n len) (by omega) w rfl;refine⟨w',ρ,I,.inl ⟨.int .i64 (min n len:Nat),?_,.p _ _ (.int _ _)⟩,e2,e3⟩;have hmin:Nat.min n len=min n len:=rfl;rw[hex,c1];simp[Builtin.copy_,ht,run_underlying hu,qAY hsz,hsrc.lenOf,hmin,hfn,e1,goInt]
   ·cases h6
  ·cases h6
 ·cases hp
theorem qH8{src dst e:TypeId}{x:Operand}(C:Here P G ρ I h w tm a)(hd:d+1<1048576)(ho:o.op = .convert src dst x)(hs:P.underlying src=some .string)(hdt:P.underlying dst=some (.slice e))(he:P.underlying e=some (.int .u8))
  {x':X} (hx:compX G x=some x') {p:Plan} (hp:plan tm (.toBytes x')=some p) (hg:p.doGo d h=some (v,h',t)):ValOK ρ I h w ((execOp a.eval o).run P w) v h':=by
 simp only[plan] at hp;split at hp
 ·rename_i s hX;split at hp
  ·simp only[Option.some.injEq] at hp;subst hp;obtain⟨b,hb,hbs⟩:=qB5 (C.ev hx hX);subst hbs;obtain⟨rfl,rfl⟩:=qBg hg;have hr:(execOp a.eval o).run P w = .ok (.value (.slice (some ⟨w.heap.size,0,none⟩) b.size (grownCap w b.size 0 e))) (Go.Lib.bytesWorld w e b):=by
    unfold execOp; rw[ho];have:=Go.Lib.run_convert_string_bytes w src dst e b hs hdt he;simp[hb,this]
   have hbs:b.data.toList.length=b.size:=rfl;have hge:=grownCap_ge w b.size 0 e;have hsize:(Go.Lib.bytesCells w e b).size=grownCap w b.size 0 e:=by unfold Go.Lib.bytesCells; rw[Array.size_append,Array.size_map,Array.size_replicate,show b.data.size=b.size from rfl]; omega
   obtain⟨ρ',e1,e2,e3⟩:=qCF (w':=Go.Lib.bytesWorld w e b) C.heap (Less.refl h) hd (.cells (byteCells b.data.toList) 0) false ⟨w.heap.size,0,(Go.Lib.bytesCells w e b).size⟩ rfl (I':=I)
    (λk hk=>by
     by_cases hlt:k<w.heap.size
     ·exact Go.Lib.bytesWorld_at_old w e b k hlt
     ·rw[Array.getElem?_eq_none (by rw[Go.Lib.bytesWorld_size]; omega),Array.getElem?_eq_none (by omega)])
    (by rw[Go.Lib.bytesWorld_size]; omega) ⟨rfl,rfl,rfl⟩ (Imm.le_refl _) (λ_ _ _ e _=>e) (λk v e=>absurd (qBu (C.heap.icell _ _ _ e)) (by simp)) rfl
    (λρ' hle=>⟨_,e,_,_,Go.Lib.bytesWorld_at_new w e b,rfl,by simp only[byteCells,List.length_map]; omega,λk c hk=>by
     obtain⟨u,f1,f2⟩:=(qDe (ρ:=ρ) (I:=I) b).get k c hk;refine⟨u,?_,f2.mono hle (Imm.le_refl _)⟩;have hkl:=(List.getElem?_eq_some_iff.1 f1).1;unfold Go.Lib.bytesCells;simp only[Nat.zero_add];rw[Array.getElem?_append_left (by simpa using hkl)]
     simpa using f1,λo h1 h2=>by simp only at h2 ⊢; omega⟩)
   exact⟨_,ρ',I,.inl ⟨_,hr,CRel.sref (ρ:=ρ') (I:=I) _ 0 b.data.toList.length none 1 (grownCap w b.size 0 e) _ e1 (by omega) (by simp only; omega) (λc e=>by cases e)⟩,e2,e3⟩
  ·cases hp
 ·cases hp
end
end Go.AI
namespace Go.AI
variable [Sym]
section
variable {P:Program} {G:Nat->Option (List PVal)} {ρ:Env} {I:Imm} {h:Heap} {w:World} {tm:TM TVal} {a:Act}
variable {heap:Nat->Bool} {d:Nat} {v:TVal} {h':Heap} {t:Touch} {o:Oper}
theorem qL3{c:Call}{ty:TypeId}(h:c.argTypes.toList=[ty]):c.argTypes=#[ty]:=by apply Array.ext'; simpa using h
theorem qPR{c:Call}{ty u:TypeId}(h:c.argTypes.toList=[ty,u]):c.argTypes=#[ty,u]:=by apply Array.ext'; simpa using h
theorem qOV(C:Here P G ρ I h w tm a)(hd:d+1<1048576){c:Call}(ho:o.op = .call c){aop:AOp}(hc:compCall P G heap c=some aop){p:Plan}(hp:plan tm aop=some p)(hg:p.doGo d h=some (v,h',t)):ValOK ρ I h w ((execOp a.eval o).run P w) v h':=by
 unfold compCall at hc;split at hc
 ·simp only[Option.bind_eq_bind,Option.bind_eq_some_iff,Option.pure_def,Option.some.injEq] at hc;obtain⟨f,_,as,_,e⟩:=hc;subst e;simp only[plan] at hp;split at hp
  ·simp only[Option.bind_eq_bind,Option.bind_eq_some_iff,Option.pure_def,Option.some.injEq] at hp;obtain⟨_,_,e⟩:=hp;subst e;simp[Plan.doGo] at hg
  ·cases hp
 ·cases hc
 ·rename_i b hb;simp only[Option.bind_eq_bind,Option.bind_eq_some_iff] at hc;obtain⟨xs,hxs,hc⟩:=hc;split at hc
  ·rename_i x' ty e2;obtain⟨x,e3,e4⟩:=qAb hxs rfl;have e5:=qL3 e2;split at hc
   ·rename_i hu;cases hc;exact qFe C ho hb e3 e5 (.inl ⟨rfl,hu⟩) e4 hp hg
   ·rename_i e hu;cases hc;exact qFe C ho hb e3 e5 (.inr (.inl ⟨rfl,e,hu⟩)) e4 hp hg
   ·rename_i e f hu;cases hc;exact qFe C ho hb e3 e5 (.inr (.inr ⟨rfl,e,f,hu⟩)) e4 hp hg
   ·rename_i n e hu;cases hc;exact qMa C ho hb e3 e5 hu hp hg
   ·cases hc
  ·rename_i x' ty e2;obtain⟨x,e3,e4⟩:=qAb hxs rfl;have e5:=qL3 e2;split at hc
   ·rename_i e hu;cases hc;exact qN6 C ho hb e3 e5 hu e4 hp hg
   ·cases hc
  ·rename_i x' y' ty u e2;obtain⟨x,y,e3,e4,e6⟩:=qNu hxs rfl;have e5:=qPR e2
   have key:∀ e,P.underlying ty=some (.slice e)->((∃ e',P.underlying u=some (.slice e'))\/P.underlying u=some .string)->(do
     let sz <- szOf P e
     let by' <- bytesT P e
     let z <- zeroT P e
     if sz=0\/by'=0\/z.cells.length≠sz then none else pure (.append sz by' (heap sz) x' y'):Option AOp)=some aop->ValOK ρ I h w ((execOp a.eval o).run P w) v h':=by
    intro e hu huu hc;simp only[Option.bind_eq_bind,Option.bind_eq_some_iff] at hc;obtain⟨sz,h1,by',h2,z,h3,hc⟩:=hc;split at hc
    ·cases hc
    ·rename_i hn;cases hc;exact qJ3 C hd ho hb e3 e5 hu huu h1 h2 h3 (λe=>hn (.inr (.inl e))) (Decidable.not_not.1 λe=>hn (.inr (.inr e))) e4 e6 hp hg
   split at hc
   ·rename_i e e' hu huu;exact key e hu (.inl ⟨_,huu⟩) hc
   ·rename_i e hu huu;exact key e hu (.inr huu) hc
   ·cases hc
  ·rename_i x' y' ty l e2;obtain⟨x,y,e3,e4,e6⟩:=qNu hxs rfl;have e5:c.argTypes[0]?=some ty:=by rw[<- Array.getElem?_toList,e2]; rfl
   split at hc
   ·rename_i e hu;simp only[Option.bind_eq_bind,Option.bind_eq_some_iff] at hc;obtain⟨sz,h1,hc⟩:=hc;split at hc
    ·cases hc
    ·cases hc;exact qNi C ho hb e3 e5 hu h1 e4 e6 hp hg
   ·cases hc
  ·cases hc;exact qFW (mx:=false) C ho hb hxs hp hg
  ·cases hc;exact qFW (mx:=true) C ho hb hxs hp hg
  ·cases hc
theorem qQU(C:Here P G ρ I h w tm a)(hd:d+1<1048576){op:Op}(ho:o.op=op){aop:AOp}(hc:compOp P G heap op=some aop){p:Plan}(hp:plan tm aop=some p)(hg:p.doGo d h=some (v,h',t)):ValOK ρ I h w ((execOp a.eval o).run P w) v h':=by
 unfold compOp at hc;split at hc
 case h_27=>exact qOV C hd ho hc hp hg
 all_goals try (cases hc; done)
 all_goals try simp only[Option.bind_eq_bind,Option.bind_eq_some_iff,Option.map_eq_some_iff,Option.pure_def,Option.some.injEq] at hc
 ·obtain⟨x',hx,rfl⟩:=hc;exact qHe C (.inl ho) hx hp hg
 ·obtain⟨x',hx,rfl⟩:=hc;exact qHe C (.inr ho) hx hp hg
 ·obtain⟨c',h1,x',h2,y',h3,rfl⟩:=hc;exact qMw C ho h1 h2 h3 hp hg
 ·obtain⟨z,h1,rfl⟩:=hc;exact qLx C hd ho h1 hp hg
 ·obtain⟨x',h1,rfl⟩:=hc;exact qPK C hd ho h1 hp hg
 ·obtain⟨z,h1,hc⟩:=hc;split at hc
  ·rename_i fields hu;simp only[Option.bind_eq_bind,Option.bind_eq_some_iff,Option.pure_def,Option.some.injEq] at hc;obtain⟨places,h2,ps,h3,rfl⟩:=hc;refine qEb C ho h1 hu h2 (ps:=ps) ?_ hp hg;rw[<- h3]; rfl
  ·rename_i n e hu;simp only[Option.bind_eq_bind,Option.bind_eq_some_iff,Option.pure_def,Option.some.injEq] at hc;obtain⟨sz,h2,ps,h3,rfl⟩:=hc;exact qE9 C ho h1 hu h2 h3 hp hg
  ·cases hc
 ·split at hc
  ·rename_i e hu;simp only[Option.bind_eq_bind,Option.bind_eq_some_iff,Option.pure_def,Option.some.injEq] at hc;obtain⟨sz,h1,z,h2,hc⟩:=hc;split at hc
   ·cases hc
   ·rename_i hn;simp only[Option.bind_eq_bind,Option.bind_eq_some_iff,Option.pure_def,Option.some.injEq] at hc;obtain⟨ps,h3,rfl⟩:=hc;exact qJf C hd ho hu h1 (λe=>hn (.inl e)) (by omega) h2 (Decidable.not_not.1 λe=>hn (.inr (.inr e))) h3 hp hg
  ·cases hc
 ·obtain⟨g,h1,n,h2,x',h3,rfl⟩:=hc;exact qMA C ho h3 h1 h2 hp hg
 ·obtain⟨n,h1,x',h2,y',h3,rfl⟩:=hc;exact qLK C ho h2 h3 h1 hp hg
 ·obtain⟨x',h1,rfl⟩:=hc;exact qKO C ho h1 hp hg
 ·obtain⟨x',h1,y',h2,rfl⟩:=hc;exact qOa C ho h1 h2 hp hg
 ·obtain⟨x',h1,rfl⟩:=hc;exact qPl C ho h1 hp hg
 ·split at hc
  ·rename_i h1 h2;simp only[Option.bind_eq_bind,Option.bind_eq_some_iff,Option.pure_def,Option.some.injEq] at hc;obtain⟨x',h3,rfl⟩:=hc;exact qLX C ho h1 h2 h3 hp hg
  ·rename_i h1 h2;simp only[Option.bind_eq_bind,Option.bind_eq_some_iff,Option.pure_def,Option.some.injEq] at hc;obtain⟨x',h3,rfl⟩:=hc;exact qMI C ho h1 h2 h3 hp hg
  ·rename_i e h1 h2;split at hc
   ·rename_i h4;simp only[Option.bind_eq_bind,Option.bind_eq_some_iff,Option.pure_def,Option.some.injEq] at hc;obtain⟨x',h3,rfl⟩:=hc;exact qK3 C ho h1 h4 h2 h3 hp hg
   ·cases hc
  ·rename_i e h1 h2;split at hc
   ·rename_i h4;simp only[Option.bind_eq_bind,Option.bind_eq_some_iff,Option.pure_def,Option.some.injEq] at hc;obtain⟨x',h3,rfl⟩:=hc;exact qH8 C hd ho h1 h2 h4 h3 hp hg
   ·cases hc
  ·cases hc
 ·split at hc
  ·rename_i f first captured h0;simp only[Option.bind_eq_bind,Option.bind_eq_some_iff,Option.pure_def,Option.some.injEq] at hc;obtain⟨xs,h1,rfl⟩:=hc;obtain rfl:=Array.eq_empty_of_size_eq_zero h0;exact qM7 C ho h1 hp hg
  ·cases hc
 ·subst hc;exact qKq C hd ho hp hg
 ·split at hc
  ·rename_i e hu;simp only[Option.bind_eq_bind,Option.bind_eq_some_iff,Option.pure_def,Option.some.injEq] at hc;obtain⟨sz,h1,z,h2,hc⟩:=hc;split at hc
   ·cases hc
   ·rename_i hn;simp only[Option.bind_eq_bind,Option.bind_eq_some_iff,Option.pure_def,Option.some.injEq] at hc;obtain⟨by',h3,l',h4,c',h5,rfl⟩:=hc;exact qIA C hd ho hu h1 (λe=>hn (.inl e)) h3 h2 (Decidable.not_not.1 λe=>hn (.inr e)) h4 h5 hp hg
  ·cases hc
 ·split at hc
  ·rename_i n e hu;split at hc
   ·simp only[Option.bind_eq_bind,Option.bind_eq_some_iff,Option.pure_def,Option.some.injEq] at hc;obtain⟨sz,h1,x',h2,lo',h3,hi',h4,rfl⟩:=hc;exact qJH C ho hu h1 h2 h3 h4 hp hg
   ·cases hc
  ·rename_i hu;simp only[Option.bind_eq_bind,Option.bind_eq_some_iff,Option.pure_def,Option.some.injEq] at hc;obtain⟨x',h2,lo',h3,hi',h4,mx',h5,rfl⟩:=hc;exact qFx C ho (.inl ⟨rfl,rfl,hu⟩) h2 h3 h4 h5 hp hg
  ·rename_i e hu;simp only[Option.bind_eq_bind,Option.bind_eq_some_iff,Option.pure_def,Option.some.injEq] at hc;obtain⟨sz,h1,x',h2,lo',h3,hi',h4,mx',h5,rfl⟩:=hc;exact qFx C ho (.inr ⟨rfl,e,hu,h1⟩) h2 h3 h4 h5 hp hg
  ·cases hc
 ·split at hc
  ·rename_i fields hu;simp only[Option.bind_eq_bind,Option.bind_eq_some_iff,Option.pure_def,Option.some.injEq] at hc;obtain⟨fd,h1,sz,h2,hc⟩:=hc;split at hc
   ·cases hc
   ·rename_i hn;simp only[Option.bind_eq_bind,Option.bind_eq_some_iff,Option.pure_def,Option.some.injEq] at hc;obtain⟨x',h3,rfl⟩:=hc;exact qLt C ho hu h1 h2 hn h3 hp hg
  ·cases hc
 ·split at hc
  ·rename_i fields hu;simp only[Option.bind_eq_bind,Option.bind_eq_some_iff,Option.pure_def,Option.some.injEq] at hc;obtain⟨fd,h1,sz,h2,g,h3,x',h4,rfl⟩:=hc;exact qLF C ho hu h1 h2 h3 h4 hp hg
  ·cases hc
 ·split at hc
  ·rename_i e hu;simp only[Option.bind_eq_bind,Option.bind_eq_some_iff,Option.pure_def,Option.some.injEq] at hc;obtain⟨sz,h2,hc⟩:=hc;split at hc
   ·cases hc
   ·rename_i hn;simp only[Option.bind_eq_bind,Option.bind_eq_some_iff,Option.pure_def,Option.some.injEq] at hc;obtain⟨x',h3,i',h4,rfl⟩:=hc;exact qKN C ho hu h2 hn h3 h4 hp hg
  ·rename_i n e hu;simp only[Option.bind_eq_bind,Option.bind_eq_some_iff,Option.pure_def,Option.some.injEq] at hc;obtain⟨sz,h2,hc⟩:=hc;split at hc
   ·cases hc
   ·rename_i hn;simp only[Option.bind_eq_bind,Option.bind_eq_some_iff,Option.pure_def,Option.some.injEq] at hc;obtain⟨x',h3,i',h4,rfl⟩:=hc;exact qJQ C ho hu h2 hn h3 h4 hp hg
  ·cases hc
 ·split at hc
  ·rename_i hu;simp only[Option.bind_eq_bind,Option.bind_eq_some_iff,Option.pure_def,Option.some.injEq] at hc;obtain⟨x',h3,i',h4,rfl⟩:=hc;exact qLr C ho hu h3 h4 hp hg
  ·cases hc
 ·split at hc
  ·rename_i kt e hu;simp only[Option.bind_eq_bind,Option.bind_eq_some_iff,Option.pure_def,Option.some.injEq] at hc;obtain⟨kk,h1,z,h2,x',h3,i',h4,rfl⟩:=hc;exact qJp C ho hu h1 h2 h3 h4 hp hg
  ·cases hc
 ·split at hc
  ·rename_i kt e hu;simp only[Option.bind_eq_bind,Option.bind_eq_some_iff,Option.pure_def,Option.some.injEq] at hc;obtain⟨kk,h1,m',h2,k',h3,y',h4,rfl⟩:=hc;exact qLc C ho hu h1 h2 h3 h4 hp hg
  ·cases hc
 ·split at hc
  ·rename_i hu;simp only[Option.bind_eq_bind,Option.bind_eq_some_iff,Option.pure_def,Option.some.injEq] at hc;obtain⟨x',h1,rfl⟩:=hc;exact qI0 C hd ho hu h1 hp hg
  ·cases hc
 ·obtain⟨x',h1,rfl⟩:=hc;exact qLW C ho h1 hp hg
 ·obtain⟨x',h1,rfl⟩:=hc;exact qH3 C ho h1 hp hg
end
end Go.AI
namespace Go.AI
variable [Sym]
section
variable {σ:Ref->Option Ref} {ρ τ:Env} {I:Imm} {w:World}
theorem qEV(hσ:∀ r s l,σ r=some s->ρ r=some l->τ s=some l){c:Cell}{v:Value}(h:CRel ρ I c v):CRel τ I (c.ren σ) v:=by
 cases h with
 |p x v hp=>exact .p x v hp
 |ptr r off l e =>
  show CRel τ I (match σ r with|some s => .ptr s off|none => .junk) _;cases hs:σ r with
  |none=>exact .junk _ rfl
  |some s=>exact .ptr s off l (hσ _ _ _ hs e)
 |sref r off len cap sz cc l e hl ht hc =>
  show CRel τ I (match σ r with|some s => .sref s off len cap sz|none => .junk) _;cases hs:σ r with
  |none=>exact .junk _ rfl
  |some s=>exact .sref s off len cap sz cc l (hσ _ _ _ hs e) hl ht hc
 |mref r l e =>
  show CRel τ I (match σ r with|some s => .mref s|none => .junk) _;cases hs:σ r with
  |none=>exact .junk _ rfl
  |some s=>exact .mref s l (hσ _ _ _ hs e)
 |func f caps ls e =>
  show CRel τ I (match caps.mapM σ with|some rs => .func f rs|none => .junk) _;cases hs:caps.mapM σ with
  |none=>exact .junk _ rfl
  |some rs =>
   refine .func f rs ls ?_;have h1:=qAP hs;clear hs
   induction caps generalizing rs ls with
   |nil=>cases rs with
    |nil=>cases ls with
     |nil=>trivial
     |cons _ _=>exact e.elim
    |cons _ _=>exact h1.elim
   |cons r caps ih=>cases rs with
    |nil=>exact h1.elim
    |cons s rs=>cases ls with
     |nil=>exact e.elim
     |cons l ls=>exact⟨hσ _ _ _ h1.1 e.1,ih ls e.2 rs h1.2⟩
 |tsl sz rows r b o cap l hp e hb ho ht =>
  show CRel τ I (match σ r with|some s => .tsl sz rows s|none => .p (.slice sz false rows)) _;cases hs:σ r with
  |none=>exact .p _ _ hp
  |some s=>exact .tsl sz rows s b o cap l hp (hσ _ _ _ hs e) hb ho ht
 |junk v e=>exact .junk v e
theorem qEc(hσ:∀ r s l,σ r=some s->ρ r=some l->τ s=some l){c:Comp}{v:Value}(h:CompRel ρ I c v):CompRel τ I (c.ren σ) v:=by
 cases c with
 |c x=>exact qEV hσ h
 |agg cs=>obtain⟨arr,e,ha⟩:=h; exact⟨arr,e,ha.mapL (f:=Cell.ren σ) λ_ _=>qEV hσ⟩
theorem qJF(hσ:∀ r s l,σ r=some s->ρ r=some l->τ s=some l){c:TVal}{v:Value}(h:TRel ρ I c v):TRel τ I (c.ren σ) v:=by
 cases c with
 |v x=>exact qEc hσ h
 |tup vs=>obtain⟨arr,e,ha⟩:=h; exact⟨arr,e,ha.mapL (f:=Comp.ren σ) λ_ _=>qEc hσ⟩
theorem qIL(hσ:∀ r s l,σ r=some s->ρ r=some l->τ s=some l){o:AObj}{l:Loc}(h:ObjRel ρ I w l o):ObjRel τ I w l (o.ren σ):=by
 cases o with
 |cells cs imm =>
  obtain⟨arr,elem,lo,hi,h1,h2,h3,h4,h5⟩:=h;refine⟨arr,elem,lo,hi,h1,h2,by simpa using h3,λk c hk => ?_,h5⟩;rw[List.getElem?_map] at hk;cases hc:cs[k]? with
  |none=>rw[hc] at hk; cases hk
  |some c' =>
   rw[hc] at hk; simp at hk; subst hk;obtain⟨v,a,b⟩:=h4 k c' hc;exact⟨v,a,qEV hσ b⟩
 |map es clock =>
  obtain⟨arr,h1,h2⟩:=h;exact⟨arr,h1,h2.mapL λa e x=>⟨x.1,qEc hσ x.2.1,x.2.2⟩⟩
 |siter s pos=>exact h
 |dead=>trivial
theorem qIJ(l:Loc)(o:AObj):ownFrom l (o.ren σ)=ownFrom l o:=by cases o <;> rfl
theorem qEy{c:Cell}{v:Value}(h:CRel ρ I c v):CRel ρ I c.strip v:=by
 cases h with
 |tsl sz rows r b o cap l hp e hb ho ht=>exact .p _ _ hp
 |p x v hp=>exact .p x v hp
 |ptr r off l e=>exact .ptr r off l e
 |sref r off len cap sz cc l e hl ht hc=>exact .sref r off len cap sz cc l e hl ht hc
 |mref r l e=>exact .mref r l e
 |func f caps ls e=>exact .func f caps ls e
 |junk v e=>exact .junk v e
theorem qFD{c:Comp}{v:Value}(h:CompRel ρ I c v):CompRel ρ I c.strip v:=by
 cases c with
 |c x=>exact qEy h
 |agg cs=>obtain⟨arr,e,ha⟩:=h; exact⟨arr,e,ha.mapL (f:=Cell.strip) λ_ _=>qEy⟩
theorem qOj{c:TVal}{v:Value}(h:TRel ρ I c v):TRel ρ I c.strip v:=by
 cases c with
 |v x=>exact qFD h
 |tup vs=>obtain⟨arr,e,ha⟩:=h; exact⟨arr,e,ha.mapL (f:=Comp.strip) λ_ _=>qFD⟩
end
theorem qEU(h:Heap):∀ (n:Nat) (todo seen:List Ref),seen.Nodup->(reach h n todo seen).Nodup/\∃ t,reach h n todo seen=seen++t:=by
 intro n
 induction n with
 |zero=>intro todo seen hs; exact⟨by simpa [reach] using hs,[],by simp[reach]⟩
 |succ n ih =>
  intro todo seen hs;cases todo with
  |nil=>exact⟨by simpa [reach] using hs,[],by simp[reach]⟩
  |cons r todo =>
   unfold reach;cases hc:seen.contains r with
   |true=>exact ih todo seen hs
   |false =>
    simp only[cond_false];cases hg:h.get r with
    |none=>exact ih todo seen hs
    |some o =>
     have hn:(seen++[r]).Nodup:=by
      rw[List.nodup_append];refine⟨hs,by simp,λa ha b hb => ?_⟩;simp at hb;subst hb;intro e;subst e;have:=List.contains_iff_mem.2 ha;rw[hc] at this; cases this
     obtain⟨a,t,b⟩:=ih (o.refs++todo) (seen++[r]) hn;exact⟨a,r::t,b.trans (by simp)⟩
theorem qOX:∀ (rs:List Ref) (r:Ref) (i j:Nat),idx r rs i=some j->i<=j/\rs[j - i]?=some r:=by
 intro rs
 induction rs with
 |nil=>intro r i j h; cases h
 |cons s rs ih =>
  intro r i j h;unfold idx at h;rw[Bool.cond_decide] at h;split at h
  ·rename_i e; cases h; subst e; exact⟨Nat.le_refl _,by simp⟩
  ·obtain⟨a,b⟩:=ih r (i+1) j h;exact⟨by omega,by rw[show j - i=(j - (i+1))+1 by omega]; simpa using b⟩
theorem qOo{rs:List Ref}{r s:Ref}(h:inn rs r=some s):∃ i,s = .im i/\rs[i]?=some r:=by
 unfold inn at h;cases hi:idx r rs 0 with
 |none=>rw[hi] at h; cases h
 |some i=>rw[hi] at h; simp at h; subst h; exact⟨i,rfl,by simpa using (qOX rs r 0 i hi).2⟩
def envOf(ρ:Env)(rs:List Ref):Env
 |.im i=>rs[i]?.bind ρ
 |.own .. => none
noncomputable def objOf(h:Heap)(rs:List Ref)(r:Ref):AObj:=match h.get r with|some o=>o.ren (inn rs)|none => .dead
noncomputable def heapOf(h:Heap)(rs:List Ref):Heap:={ ims:=rs.map (objOf h rs),owns := .nil }
theorem qFg{ρ:Env}{rs:List Ref}:∀ r s l,inn rs r=some s->ρ r=some l->envOf ρ rs s=some l:=λr s l h e=>by
 obtain⟨i,rfl,hi⟩:=qOo h;simp[envOf,hi,e]
theorem qBD{h:Heap}{rs:List Ref}{r:Ref}{o:AObj}(hr:(heapOf h rs).get r=some o):∃ i s x,r = .im i/\rs[i]?=some s/\h.get s=some x/\o=x.ren (inn rs):=by
 cases r with
 |own d g=>simp[heapOf,Heap.get,TM.get] at hr
 |im i =>
  have hnd:=Heap.get_ne_dead hr;unfold Heap.get heapOf at hr;simp only[List.getElem?_map] at hr;cases hs:rs[i]? with
  |none=>rw[hs] at hr; simp at hr
  |some s =>
   rw[hs] at hr;simp only[Option.map_some] at hr;have:o=objOf h rs s:=by
    split at hr
    ·cases hr
    ·simpa using hr.symm
   subst this;unfold objOf at hnd ⊢;cases hx:h.get s with
   |none=>rw[hx] at hnd; exact absurd rfl hnd
   |some x=>exact⟨i,s,x,rfl,hs,hx,rfl⟩
theorem qBU{ρ:Env}{h:Heap}{rs:List Ref}{b:Nat}(ho:owned (envOf ρ rs) (heapOf h rs) b):owned ρ h b:=by
 obtain⟨r,o,l,h1,h2,h3⟩:=ho;obtain⟨i,s,x,rfl,hs,hx,rfl⟩:=qBD h1;simp[envOf,hs] at h2;exact⟨s,x,l,hx,h2,h3⟩
theorem qLN{rs:List Ref}(h:rs.Nodup){i j:Nat}{r:Ref}(hi:rs[i]?=some r)(hj:rs[j]?=some r):i=j:=by
 obtain⟨a,b⟩:=List.getElem?_eq_some_iff.1 hi;obtain⟨c,d⟩:=List.getElem?_eq_some_iff.1 hj;exact(List.getElem_inj h).1 (b.trans d.symm)
theorem WRel.heapOf{ρ:Env}{I:Imm}{h:Heap}{w:World}(H:WRel ρ I h w){rs:List Ref}(hnd:rs.Nodup):WRel (envOf ρ rs) I (heapOf h rs) w where
 live r o hr:=by
  obtain⟨i,s,x,rfl,hs,hx,rfl⟩:=qBD hr;obtain⟨l,e,ho⟩:=H.live s x hx;exact⟨l,by simp[envOf,hs,e],qIL qFg ho⟩
 inj r r' o o' l l' hr hr' hl hl' hne:=by
  obtain⟨i,s,x,rfl,hs,hx,rfl⟩:=qBD hr;obtain⟨i',s',x',rfl,hs',hx',rfl⟩:=qBD hr';simp[envOf,hs] at hl;simp[envOf,hs'] at hl';refine H.inj s s' x x' l l' hx hx' hl hl' λe => ?_
  subst e;exact hne (by rw[qLN hnd hs hs'])
 icell:=H.icell
 imap:=H.imap
 apart r o l hr hl b k v hv hb:=by
  obtain⟨i,s,x,rfl,hs,hx,rfl⟩:=qBD hr;simp[envOf,hs] at hl;rw[qIJ];exact H.apart s x l hx hl b k v hv hb
 apartm r o l hr hl:=by
  obtain⟨i,s,x,rfl,hs,hx,rfl⟩:=qBD hr;simp[envOf,hs] at hl;exact H.apartm s x l hx hl
 fresh d g l e:=by simp[envOf] at e
 freshi i l e:=by
  simp only[envOf,Option.bind_eq_some_iff] at e;obtain⟨s,hs,_⟩:=e;simp only[AI.heapOf,List.length_map];exact(List.getElem?_eq_some_iff.1 hs).1
theorem TM.isSome_set{α:Type}(a:α):∀ (t:TM α) (n:Nat),(t.get n).isSome=true->((TM.set a t n).get n).isSome=true:=by
 intro t
 induction t with
 |nil=>intro n h; cases h
 |node l v r ihl ihr =>
  intro n h;rw[TM.set_node];rw[TM.get_node] at h;by_cases h0:n=0
  ·subst h0; simp[TM.get_node]
  ·rw[if_neg h0] at h ⊢;by_cases ho:n % 2=1
   ·rw[if_pos ho] at h ⊢; rw[TM.get_node,if_neg h0,if_pos ho]; exact ihl _ h
   ·rw[if_neg ho] at h ⊢; rw[TM.get_node,if_neg h0,if_neg ho]; exact ihr _ h
def Has(h:Heap)(r:Ref):Prop:=∀ d g,r = .own d g->∃ x,h.owns.get d=some (g,x)
theorem Has.of_get{h:Heap}{r:Ref}{o:AObj}(hr:h.get r=some o):Has h r:=λd g e=>by subst e; exact⟨o,(Heap.get_own_gen hr).2⟩
theorem Has.put{h:Heap}{r r':Ref}(hr:Has h r)(hr':Has h r')(o:AObj):Has (h.put r o) r':=by
 intro d g e;cases r with
 |im i=>exact hr' d g e
 |own d0 g0 =>
  obtain⟨x0,h0⟩:=hr d0 g0 rfl;obtain⟨x,hx⟩:=hr' d g e;by_cases hd:d0=d
  ·subst hd;rw[h0] at hx; cases hx;have:=TM.isSome_set (g,o) h.owns d0 (by rw[h0]; rfl);show ∃ y,(h.owns.set (g,o) d0).get d0=some (g,y);cases hg:(TM.set (g,o) h.owns d0).get d0 with
   |none=>rw[hg] at this; cases this
   |some p=>have:=TM.get_set_some _ _ _ _ hg; subst this; exact⟨o,rfl⟩
  ·exact⟨x,by show(h.owns.set (g0,o) d0).get d=_; rw[TM.get_set_ne _ _ _ _ hd]; exact hx⟩
theorem Has.gen{h:Heap}{r:Ref}(hr:Has h r)(o:AObj)(e:Nat):(h.put r o).gen e=h.gen e:=by
 cases r with
 |im i=>rfl
 |own d g =>
  obtain⟨x,hx⟩:=hr d g rfl;by_cases hd:d=e
  ·subst hd;obtain⟨y,hy⟩:=Has.put hr hr o d g rfl;unfold Heap.gen;rw[hx,hy]
  ·exact Heap.gen_other _ _ _ _ _ hd
theorem qE4:∀ (rs:List Ref) (os:List AObj) (h:Heap),(∀ r∈rs,Has h r)->(∀ e,(putAll h rs os).gen e=h.gen e)/\(putAll h rs os).ims.length=h.ims.length:=by
 intro rs
 induction rs with
 |nil=>intro os h _; exact⟨λ_=>rfl,rfl⟩
 |cons r rs ih =>
  intro os h hh;cases os with
  |nil=>exact⟨λ_=>rfl,rfl⟩
  |cons o os =>
   obtain⟨a,b⟩:=ih os (h.put r o) λr' hr'=>Has.put (hh r (by simp)) (hh r' (by simp[hr'])) o
   exact⟨λe=>(a e).trans (Has.gen (hh r (by simp)) o e),b.trans (Heap.ims_put _ _ _)⟩
theorem qJS:∀ (rs:List Ref) (os:List AObj) (h:Heap),rs.Nodup->rs.length=os.length->∀ r o,(putAll h rs os).get r=some o->(∃ i:Nat,rs[i]?=some r/\os[i]?=some o)\/(r∉rs/\h.get r=some o):=by
 intro rs
 induction rs with
 |nil=>intro os h _ _ r o hr; exact .inr ⟨by simp,hr⟩
 |cons s rs ih =>
  intro os h hn hl r o hr;cases os with
  |nil=>simp at hl
  |cons x os =>
   rw[List.nodup_cons] at hn
   rcases ih os (h.put s x) hn.2 (by simpa using hl) r o hr with ⟨i,a,b⟩|⟨a,b⟩
   ·exact .inl ⟨i+1,by simpa using a,by simpa using b⟩
   ·rcases Heap.get_put h s x r o b with ⟨rfl,rfl⟩|⟨c,d⟩
    ·exact .inl ⟨0,rfl,rfl⟩
    ·exact .inr ⟨by simp[c,a],d⟩
noncomputable def callHeap(h:Heap)(rs:List Ref)(os:List AObj):Heap :=
 match os.drop rs.length with
 |[]=>putAll h rs (os.take rs.length)
 |_=>{ ims:=(putAll h rs (os.take rs.length)).ims++os.drop rs.length,owns:=(putAll h rs (os.take rs.length)).owns }
theorem qEP(h:Heap)(rs:List Ref)(os:List AObj):callHeap h rs os={ ims:=(putAll h rs (os.take rs.length)).ims++os.drop rs.length,owns:=(putAll h rs (os.take rs.length)).owns }:=by
 unfold callHeap;split
 ·rename_i e; rw[e,List.append_nil]
 ·rfl
theorem qGZ{h:Heap}{rs:List Ref}{os:List AObj}(hn:rs.Nodup)(hl:rs.length<=os.length)(hh:∀ r∈rs,Has h r){r:Ref}{o:AObj}(hr:(callHeap h rs os).get r=some o) :
  (∃ i:Nat,rs[i]?=some r/\os[i]?=some o)\/(∃ j,r=newRef h.ims.length j/\os[rs.length+j]?=some o)\/(r∉rs/\h.get r=some o):=by
 have hput:∀ r o,(putAll h rs (os.take rs.length)).get r=some o->(∃ i:Nat,rs[i]?=some r/\os[i]?=some o)\/(∃ j,r=newRef h.ims.length j/\os[rs.length+j]?=some o)\/(r∉rs/\h.get r=some o):=by
  intro r o hr
  rcases qJS rs _ h hn (by simp; omega) r o hr with ⟨i,a,b⟩|b
  ·refine .inl ⟨i,a,?_⟩;rw[List.getElem?_take] at b;split at b
   ·exact b
   ·cases b
  ·exact .inr (.inr b)
 rw[qEP] at hr;have hlen:=(qE4 rs (os.take rs.length) h hh).2;cases r with
 |own e g=>exact hput (.own e g) o hr
 |im i =>
  by_cases hi:i<h.ims.length
  ·refine hput (.im i) o ?_;unfold Heap.get at hr ⊢;simp only at hr ⊢;rw[List.getElem?_append_left (by omega)] at hr;exact hr
  ·refine .inr (.inl ⟨i - h.ims.length,by simp only[newRef]; congr 1; omega,?_⟩);unfold Heap.get at hr;simp only at hr;rw[List.getElem?_append_right (by omega),hlen,List.getElem?_drop] at hr;split at hr
   ·cases hr
   ·exact hr
theorem qGy{h:Heap}{rs:List Ref}{os:List AObj}(hh:∀ r∈rs,Has h r):(∀ e,h.gen e<=(callHeap h rs os).gen e)/\h.ims.length<=(callHeap h rs os).ims.length /\
  (∀ j,rs.length+j<os.length->(∀ i,newRef h.ims.length j = .im i->i<(callHeap h rs os).ims.length)):=by
 obtain⟨a,b⟩:=qE4 rs (os.take rs.length) h hh;rw[qEP];refine⟨λe=>Nat.le_of_eq (a e).symm,by simp only[List.length_append]; omega,λj hj i hr => ?_⟩;simp only[newRef,Ref.im.injEq] at hr;subst hr;simp only[List.length_append,List.length_drop];omega
end Go.AI
