/- The rules,the contracts,the plain laws that lead to the statement. Own work. Condition: what each theorem names. -/
import Derived.Test.YtlkejchbcchecaaDoorG0
set_option linter.all false
set_option linter.unusedVariables false
set_option linter.unusedSimpArgs false
set_option linter.unusedSectionVars false
set_option maxRecDepth 100000
set_option maxHeartbeats 4000000
open Nat renaming reduceAdd→rA,reduceMul→rB,reduceLT→rC,reduceLeDiff→rD,reduceEqDiff→rE
open Int renaming reduceLT→rF,reduceLE→rG,reduceEq→rH,reduceToNat→rI
open Option renaming some.injEq→rJ,bind_eq_some_iff→rK,bind_eq_bind→rL
namespace Go.Proofs.YtlkejchbcchecaaDoor.Ab
open Go Go.AI
theorem qBv(h:Heap)(d g:Nat)(o:AObj)(C:List AObj):HI (h.own d g o) C=HI h C:=rfl
theorem qPV{V:RS}{N:TyM}{h:Heap}(hi:HI h (rsC V N))(frz:Bool)(x:PVal):vfin frz ((rsLeaves V N).length+1) [.c (.p x)] h=some (.v (.c (.p x)),rsC V N):=qDu hi frz _ rfl
theorem qIJ{V:RS}{N:TyM}{h:Heap}(hi:HI h (rsC V N))(frz:Bool)(r:List PVal):vfin frz ((rsLeaves V N).length+1) [.agg (pcells r)] h=some (.v (.agg (pcells r)),rsC V N):=qDu hi frz _ (by simp only[exP])
section
variable {V:RS} {m:TyM} (F:Fine V m)
include F
theorem u142{n:Nat}(ok:GetOK V m n){β:Type}{k:TVal→Heap→Option β}{h:Heap}{d:Nat}(hi:HI h (rsC V m)){t:TT}(ht:wfT t){w:Int}(h0:0≤w)(hw:w≤1073741824){ys:List VT}(e:getN (fun i=>getF m V n (kidT t i) (atM V (w+(i:Int)))) 0 t.names.len=some ys) :
  vcall Om (.v (.c (.func 142 []))) [kP (.im 0),kA t.row,kW w] h d k=k (kA (VT.mk 5 false 0 [] (grown t.names.list) (grown ys)).row) h :=
 (qA3 hi (qAQ V m) (qBG V m) 142 [kA t.row,kW w] (by simp only[exP]) _ (by simp only[exP]) (qOB F ok t ht w h0 hw ys e)).1 d k
theorem qIS:∀ n,GetOK V m n
 |0=>fun t w x _ _ _ e=>by cases e
 |n+1=>by
  intro t0 w x ht0 h0 h1 e;have ok:=qIS n;refine(qAE rfl).trans ?_;show lim tab.get S 75 (rsC V m).length 0 [kP (.im 0),kA t0.row,kW w] ⟨rsC V m,.nil⟩=_;rw[w75_0,b75_0];have U:=fun(β:Type) (k:TVal→Heap→Option β) (h:Heap) (d:Nat) (hi:HI h (rsC V m))=>u134 F (k:=k) (d:=d) hi t0
  have ht:wfT (fopen m t0):=qIm F.ty ht0;have H0:=hi0 V m;have FC:=fun(h:Heap) (hi:HI h (rsC V m)) (x:PVal)=>qPV hi true x
  have FA:=fun(h:Heap) (hi:HI h (rsC V m)) (r:List PVal)=>qIJ hi true r
  have e':getT (getF m V n) V (fopen m t0) w=some x:=e;clear e;generalize fopen m t0=t at U ht e';unfold getT at e';obtain⟨hn6,hk6,h8,_⟩:=qAn ht;have D:∀ (h:Heap) (cs:List Cell) (r:List PVal),HI h (rsC V m)→cs=pcells r→vfin true ((rsLeaves V m).length+1) [.agg cs] h=some (kA r,rsC V m):=fun h cs r hi hc=>by rw[hc]; exact qIJ hi true r
  by_cases k1:t.kind=1
  ·rw[if_pos k1] at e'; cases e';rw[VT.row_eq];simp (maxSteps:=9999999) +contextual only[exa,rA,rB,rC,rD,rE,rF,rG,rH,rI,U,qBv,H0,k1,oneOf];exact D _ _ _ H0 rfl
  rw[if_neg k1] at e';by_cases k2:t.kind=2
  ·rw[if_pos k2] at e'; cases e';rw[VT.row_eq];simp (maxSteps:=9999999) +contextual only[exa,rA,rB,rC,rD,rE,rF,rG,rH,rI,U,qBv,H0,k1,k2,oneOf];exact D _ _ _ H0 rfl
  rw[if_neg k2] at e';by_cases k3:t.kind=3
  ·rw[if_pos k3] at e'; cases e';rw[VT.row_eq];have U3:=fun(β:Type) (k:TVal→Heap→Option β) (h:Heap) (d:Nat) (hi:HI h (rsC V m))=>u140 F (k:=k) (d:=d) hi w h0
   simp (maxSteps:=9999999) +contextual only[exa,rA,rB,rC,rD,rE,rF,rG,rH,rI,U,qBv,H0,k1,k2,k3,oneOf];refine(U3 _ _ _ _ ?_).trans ?_
   ·exact H0
   simp (maxSteps:=9999999) +contextual only[exa,rA,rB,rC,rD,rE,rF,rG,rH,rI,oneOf];exact D _ _ _ H0 rfl
  rw[if_neg k3] at e';by_cases k6:t.kind=6
  ·rw[if_pos k6] at e';by_cases hw:w=0
   ·rw[if_pos hw] at e'; cases e';rw[VT.row_eq];simp (maxSteps:=9999999) +contextual only[exa,rA,rB,rC,rD,rE,rF,rG,rH,rI,U,qBv,H0,k1,k2,k3,k6,hw,oneOf];exact D _ _ _ H0 rfl
   ·rw[if_neg hw] at e';have a1:=F.at (w - 1);have W1:IntKind.u64.wrap (w - 1)=w - 1:=qAz _ (by omega) (by omega);have U0:∀ (β:Type) (k:TVal→Heap→Option β) (h:Heap) (d:Nat),vcall Om (.v (.c (.func 137 []))) [kA t.row,kI 0] h d k=k (kA (kidT t 0).row) h:=fun β k h d=>u137 t 0 (by omega)
    have U1:=fun(β:Type) (k:TVal→Heap→Option β) (h:Heap) (d:Nat) (hi:HI h (rsC V m))=>u141 F (k:=k) (d:=d) hi (w - 1) (by omega)
    have U2:=fun(β:Type) (k:TVal→Heap→Option β) (h:Heap) (d:Nat) (hi:HI h (rsC V m))=>u75 ok (k:=k) (d:=d) hi (qBT ht 0) a1.1 a1.2 e'
    simp (maxSteps:=9999999) +contextual only[exa,rA,rB,rC,rD,rE,rF,rG,rH,rI,U,U0,W1,qBv,H0,k1,k2,k3,k6,hw,oneOf];refine(U1 _ _ _ _ ?_).trans ?_
    ·exact H0
    refine(U2 _ _ _ _ ?_).trans ?_
    ·exact H0
    simp (maxSteps:=9999999) +contextual only[exa,rA,rB,rC,rD,rE,rF,rG,rH,rI,oneOf,qAl _ (VT.row_len x)];exact D _ _ _ H0 rfl
  rw[if_neg k6] at e';by_cases hwl:(V.W.length:Int)<w
  ·rw[if_pos hwl] at e'; cases e'
  rw[if_neg hwl] at e';have hw:w≤1073741824:=by have:=F.w; omega
  by_cases k7:t.kind=7
  ·rw[if_pos (.inl k7)] at e';unfold tabG at e';rw[if_neg h8] at e';obtain⟨ys,e1,e2⟩:=Option.map_eq_some_iff.1 e';subst e2;have U7:=fun(β:Type) (k:TVal→Heap→Option β) (h:Heap) (d:Nat) (hi:HI h (rsC V m))=>u142 F ok (k:=k) (d:=d) hi ht h0 hw e1
   simp (maxSteps:=9999999) +contextual only[exa,rA,rB,rC,rD,rE,rF,rG,rH,rI,U,qBv,H0,k1,k2,k3,k6,k7,w75_1,b75_1,oneOf];refine(U7 _ _ _ _ ?_).trans ?_
   ·exact H0
   simp (maxSteps:=9999999) +contextual only[exa,rA,rB,rC,rD,rE,rF,rG,rH,rI,oneOf,qAl _ (VT.row_len _)];exact D _ _ _ H0 rfl
  rw[if_neg (by omega)] at e';have a1:=F.at w;by_cases hc:1000000<atM V w
  ·rw[if_pos hc] at e'; cases e'
  rw[if_neg hc] at e';have U1:=fun(β:Type) (k:TVal→Heap→Option β) (h:Heap) (d:Nat) (hi:HI h (rsC V m))=>u141 F (k:=k) (d:=d) hi w h0
  obtain⟨c,hcn⟩:∃ c:Nat,atM V w=(c:Int):=⟨(atM V w).toNat,by omega⟩;rw[hcn,Int.toNat_natCast] at e';have hc':c≤1000000:=by omega
  by_cases k4:t.kind=4
  ·rw[if_pos k4] at e';obtain⟨ys,e1,e2⟩:=Option.map_eq_some_iff.1 e';subst e2;simp (maxSteps:=9999999) +contextual only[exa,rA,rB,rC,rD,rE,rF,rG,rH,rI,U,U1,hcn,qBv,H0,k1,k2,k3,k6,k7,h8,k4,w75_1,b75_1];refine(U1 _ _ _ _ ?_).trans ?_
   ·exact H0
   rw[hcn];exact qNa F ok t ht w h0 hw c hc' 0 [] ys (.p .nilslice) _ (Nat.le_refl _) ⟨H0,by simp only[exa,rA,rB,rC,rD,rE,rF,rG,rH,rI],by simp only[exa,rA,rB,rC,rD,rE,rF,rG,rH,rI],by simp only[exa,rA,rB,rC,rD,rE,rF,rG,rH,rI]⟩ (.inl ⟨rfl,rfl⟩) (fun _=>rfl) (fun e=>absurd rfl e) e1
  rw[if_neg k4] at e';by_cases k5:t.kind=5
  ·rw[if_pos k5] at e';obtain⟨ys,e1,e2⟩:=Option.map_eq_some_iff.1 e';subst e2;simp (maxSteps:=9999999) +contextual only[exa,rA,rB,rC,rD,rE,rF,rG,rH,rI,U,U1,hcn,qBv,H0,k1,k2,k3,k6,k7,h8,k4,k5,w75_1,b75_1];refine(U1 _ _ _ _ ?_).trans ?_
   ·exact H0
   rw[hcn];exact qPS F ok t ht w h0 hw c hc' 0 [] [] ys (.p .nilslice) (.p .nilslice) _ (Nat.le_refl _) (Nat.le_refl _) ⟨H0,by simp only[exa,rA,rB,rC,rD,rE,rF,rG,rH,rI],by simp only[exa,rA,rB,rC,rD,rE,rF,rG,rH,rI],by simp only[exa,rA,rB,rC,rD,rE,rF,rG,rH,rI]⟩ (.inl ⟨rfl,rfl⟩) (fun _=>rfl) (fun e=>absurd rfl e) (.inl ⟨rfl,rfl⟩) (fun _=>rfl) (fun e=>absurd rfl e) e1
  rw[if_neg k5] at e'; cases e';rw[VT.row_eq];simp (maxSteps:=9999999) +contextual only[exa,rA,rB,rC,rD,rE,rF,rG,rH,rI,U,qBv,H0,k1,k2,k3,k6,k7,h8,k4,k5,w75_1,b75_1,w75_6,b75_6,oneOf];exact D _ _ _ H0 rfl
end
abbrev RsAt(h:Heap)(r:Nat)(V:RS)(m:TyM)(n:Nat):Prop:=StarAt h r (rsRoot V) (rsLeaves V m) n
abbrev RsDo(g:FuncId)(ps:List TVal)(V:RS)(m:TyM)(v:TVal)(V':RS):Prop:=StarDo Om g ps (rsRoot V) (rsLeaves V m) v (rsRoot V') (rsLeaves V' m)
theorem qGO(g:FuncId)(hg:g<100000000)(ps:List TVal)(V V':RS)(m:TyM)(x:PVal)(ho:∀ W:AI.Mach,True)
  (hO:Om g (kP (.im 0)::ps) (rsC V m)=lim tab.get S g ((rsLeaves V m).length+1) 0 (kP (.im 0)::ps) ⟨rsC V m,.nil⟩)
  (h':Heap) (X:RsAt h' 0 V' m ((rsLeaves V m).length+1)) (frz:Bool)
  (e:lim tab.get S g ((rsLeaves V m).length+1) 0 (kP (.im 0)::ps) ⟨rsC V m,.nil⟩=vfin frz ((rsLeaves V m).length+1) [.c (.p x)] h'):RsDo g ps V m (.v (.c (.p x))) V':=by
 obtain⟨qs,ρ',h1,h2,h3,h4,h5,h6⟩:=qK8 (qAa V' m) X frz [.c (.p x)] rfl;exact⟨qs,ρ',hO.trans (e.trans h1),h2,h3,h4,h5,h6⟩
theorem qC3(V:RS)(m:TyM):RsAt ⟨rsC V m,.nil⟩ 0 V m ((rsLeaves V m).length+1):=by
 refine⟨⟨_,qFK (hi0 V m) (qAa V m).closed,qBP (qBG V m),qFE _⟩,fun _ j h0 hj o ho => ?_,Nat.le_refl _⟩;obtain⟨h1,_⟩:=Heap.get_im_some ho;obtain⟨j',rfl⟩:∃ j',j=j'+1:=⟨j - 1,by omega⟩;have:(rsLeaves V m)[j']?=some o:=h1;exact((qAa V m).leaf o (List.mem_of_getElem? this)).2
theorem qBd{h:Heap}{cw ct:Cell}{rw rt:List Ref}{b n k:Nat}{V:RS}{m:TyM}(hn:(Ref.im 0::(rw++(rt++[.im b,.im n]))).Nodup)(hr:h.get (.im 0)=some (.cells [cw,ct,.mref (.im b),.mref (.im n)] 0))(hw:Slot h cw (wR V) rw)(ht:Slot h ct (tR V) rt)
  (hb:h.get (.im b)=some (byO V.T)) (hy:h.get (.im n)=some (tyO m)) (hf:∀ j,0<j→j<k→∀ o,h.get (.im j)=some o→o.refs=[]) (hk:k≤h.ims.length):RsAt h 0 V m k:=by
 obtain⟨A,e0,him⟩:=RSH.at (⟨rfl,hn,hr,hw,ht,hb,hy⟩:RSH h _ 0 cw ct rw rt b n V m);exact⟨⟨_,A,e0,him⟩,fun _=>hf,hk⟩
theorem qOj{β:Type}{O:Oracle}{h:Heap}{d:Nat}{k:TVal→Heap→Option β}(by':Nat)(b:PVal)(hb:SrcR 1 b []):vop O (.append 1 by' true (.k (.v (.c (.p .nilslice)))) (.k (.v (.c (.p b))))) h d k=k (.v (.c (.p .nilslice))) h:=by
 show opK O _ .nil h d k=_;rw[qAV];have hs:srcRef (.v (.c (.p b)))=none:=by rcases hb with ⟨rfl,_⟩|⟨t,rfl⟩ <;> rfl
 have hc:=hb.cells;have:slow O (.append 1 by' true (.k (.v (.c (.p .nilslice)))) (.k (.v (.c (.p b))))) .nil h d=some (.v (.c (.p .nilslice)),h):=by
  unfold slow;show((Plan.go (zipNeeds (dstRef (.v (.c (.p .nilslice)))) (srcRef (.v (.c (.p b))))) _).exec O d h).map _=_;rw[hs];simp only[Plan.exec,goOp,dstRef,zipNeeds,List.mapM_nil,Option.pure_def,splitNeeds,rL,Option.bind_some,hc];rfl
 rw[this]; rfl
theorem qOh{β:Type}{O:Oracle}{h:Heap}{d:Nat}{k:TVal→Heap→Option β}(by':Nat)(b:PVal)(hb:SrcR 1 b [])(i len:Nat)(o:AObj)(hg:h.get (.im i)=some o):vop O (.append 1 by' true (.k (.v (.c (.sref (.im i) 0 len none 1)))) (.k (.v (.c (.p b))))) h d k=k (.v (.c (.sref (.im i) 0 len none 1))) h:=by
 show opK O _ .nil h d k=_;rw[qAV];have hs:srcRef (.v (.c (.p b)))=none:=by rcases hb with ⟨rfl,_⟩|⟨t,rfl⟩ <;> rfl
 have hc:=hb.cells;have:slow O (.append 1 by' true (.k (.v (.c (.sref (.im i) 0 len none 1)))) (.k (.v (.c (.p b))))) .nil h d=some (.v (.c (.sref (.im i) 0 len none 1)),h):=by
  unfold slow;show((Plan.go (zipNeeds (dstRef (.v (.c (.sref (.im i) 0 len none 1)))) (srcRef (.v (.c (.p b))))) _).exec O d h).map _=_;rw[hs];simp only[Plan.exec,goOp,dstRef,zipNeeds,qBV,hg,Option.map_some,splitNeeds,rL,Option.bind_some,hc];rfl
 rw[this]; rfl
theorem qQN(l:List Int):∀ r∈l.map ruRow,r.length=1:=fun r hr=>by obtain⟨a,_,rfl⟩:=List.mem_map.1 hr; rfl
theorem qAs{h:Heap}{k:Nat}(H:∀ o∈(h.ims.drop 1).take (k - 1),o.refs=[]):∀ j,0<j→j<k→∀ o,h.get (.im j)=some o→o.refs=[]:=by
 intro j h0 hj o ho;obtain⟨h1,_⟩:=Heap.get_im_some ho;refine H o (List.mem_of_getElem? (i:=j - 1) ?_);rw[List.getElem?_take,if_pos (by omega),List.getElem?_drop,show 1+(j - 1)=j by omega,h1]
theorem qBF(T:List (List UInt8)):(byO T).refs=[]:=qET _ _
theorem qBJ(N:TyM):(tyO N).refs=[]:=qEN _
theorem qDl{β:Type}{O:Oracle}{h:Heap}{d:Nat}{k:TVal→Heap→Option β}(r:Ref)(off len:Nat)(cap:Option Nat)(sz:Nat):vlen O 2 (.v (.c (.sref r off len cap sz))) h d k=k (kI (len:Int)) h:=rfl
theorem qHW(V:RS)(m:TyM)(l:List Int)(b:PVal)(hb:SrcR 1 b (l.map ruRow))(hl:V.W.length+l.length≤1073741824):RsDo 74 [.v (.c (.p b))] V m (kW (layM l V).1) (layM l V).2:=by
 have hO:Om 74 [kP (.im 0),.v (.c (.p b))] (rsC V m)=lim tab.get S 74 ((rsLeaves V m).length+1) 0 [kP (.im 0),.v (.c (.p b))] ⟨rsC V m,.nil⟩:=qAE rfl;have hw':wR (layM l V).2=wR V++l.map ruRow:=by unfold wR layM; simp
 have ht':tR (layM l V).2=tR V:=rfl;have hT':(layM l V).2.T=V.T:=rfl;have hlen:=qDe V;have W1:=qFJ V.W.length (by omega);have g0:=qCO (hi0 V m);have key:∃ h',RsAt h' 0 (layM l V).2 m ((rsLeaves V m).length+1)∧lim tab.get S 74 ((rsLeaves V m).length+1) 0 [kP (.im 0),.v (.c (.p b))] ⟨rsC V m,.nil⟩=vfin true ((rsLeaves V m).length+1) [.c (.p (.int .u64 (V.W.length:Int)))] h':=by
  by_cases hn:l=[]
  ·subst hn;have hV:(layM [] V).2=V:=by unfold layM; simp
   rw[hV];refine⟨_,qC3 V m,?_⟩;rw[w74_0,b74_0];cases hw:wR V with
   |nil =>
    have e0:V.W.length=0:=by rw[← hlen,hw]; rfl
    simp (maxSteps:=9999999) +contextual only[exa,rA,rB,rC,rD,rE,rF,rG,rH,rI,g0,rsRoot,hw,qHK,qOj 8 b hb];rw[e0];exact congrArg _ (qDs (by rw[g0]; unfold rsRoot; rw[hw]; rfl))
   |cons a r =>
    have gw:=qFa (hi0 V m) (by rw[hw]; simp);have e0:V.W.length=r.length+1:=by rw[← hlen,hw]; rfl
    rw[e0] at W1;simp (maxSteps:=9999999) +contextual only[exa,rA,rB,rC,rD,rE,rF,rG,rH,rI,g0,rsRoot,hw,qFu,qDl,W1,qOh 8 b hb 1 (r.length+1) _ gw];rw[e0];exact congrArg _ (qDs (by rw[g0]; unfold rsRoot; rw[hw]; rfl))
  ·have hne:l.map ruRow≠[]:=by simpa using hn
   obtain⟨t,rfl⟩:∃ t,b = .slice 1 t (l.map ruRow):=by
    rcases hb with ⟨_,h2⟩|h2
    ·exact absurd h2 hne
    ·exact h2
   obtain⟨a,r,har⟩:∃ a r,l.map ruRow=a::r:=by cases h:l.map ruRow with|nil=>exact absurd h hne|cons a r=>exact⟨a,r,rfl⟩
   have hml:(l.map ruRow).length=l.length:=by simp
   cases hw:wR V with
   |nil =>
    have e0:V.W.length=0:=by rw[← hlen,hw]; rfl
    have A1:=fun(β:Type) (O:Oracle) (k:TVal→Heap→Option β) (h:Heap) (d:Nat)=>qGc (sz:=1) (by':=8) t hne (by rw[hml]; omega) (d:=d) (h:=h) β O k
    rw[hw,List.nil_append] at hw';refine⟨(Heap.mk (rsC V m++[rowO (l.map ruRow)]) .nil).put (.im 0) (.cells [.sref (.im (rsC V m).length) 0 (l.map ruRow).length none 1,rowC (tR V) (1+(rowL (wR V)).length),.mref (.im (1+(rowL (wR V)).length+(rowL (tR V)).length)),.mref (.im (2+(rowL (wR V)).length+(rowL (tR V)).length))] 0),?_,?_⟩
    ·have hne':wR (layM l V).2≠[]:=by rw[hw']; exact hne
     unfold rsC rsLeaves;rw[hw];cases htr:tR V with
     |nil =>
      exact qBd (cw := .sref (.im 3) 0 (l.map ruRow).length none 1) (ct := .p .nilslice) (rw:=[.im 3]) (rt:=[]) (b:=1) (n:=2) (by decide) rfl (.inr ⟨hne',3,by rw[hw'],rfl,by rw[hw']; rfl⟩) (.inl ⟨by rw[ht',htr],rfl,rfl⟩) rfl rfl
       (qAs (fun o ho=>by simp[Heap.put,rowL] at ho; rcases ho with rfl|rfl; exact qBF _; exact qBJ _)) (by simp[Heap.put,rowL])
     |cons x y =>
      exact qBd (cw := .sref (.im 4) 0 (l.map ruRow).length none 1) (ct := .sref (.im 1) 0 (y.length+1) none 1) (rw:=[.im 4]) (rt:=[.im 1]) (b:=2) (n:=3) (by decide) rfl (.inr ⟨hne',4,by rw[hw'],rfl,by rw[hw']; rfl⟩) (.inr ⟨by rw[ht',htr]; simp,1,by rw[ht',htr]; rfl,rfl,by rw[ht',htr]; rfl⟩) rfl rfl
       (qAs (fun o ho=>by simp[Heap.put,rowL] at ho; rcases ho with rfl|rfl|rfl; exact qBg _; exact qBF _; exact qBJ _)) (by simp[Heap.put,rowL])
    ·rw[w74_0,b74_0];have g1:(Heap.mk (rsC V m++[.cells (pcells (l.map ruRow).flatten) 0]) .nil).get (.im 0)=some (rsRoot V):=rfl;simp (maxSteps:=9999999) +contextual only[exa,rA,rB,rC,rD,rE,rF,rG,rH,rI,g0,g1,rsRoot,hw,qHK,A1];rw[e0]; rfl
   |cons x y =>
    have e0:V.W.length=y.length+1:=by rw[← hlen,hw]; rfl
    have gw:=qFa (hi0 V m) (by rw[hw]; simp);rw[hw] at gw hw';have A1:=fun(β:Type) (O:Oracle) (k:TVal→Heap→Option β) (d:Nat)=>qGK (sz:=1) (by':=8) (rows:=x::y) t hne (by decide) (by rw[← hw]; exact qQN _) (by rw[hml,← hw,hlen]; omega) (d:=d) gw β O k
    have hne':wR (layM l V).2≠[]:=by rw[hw']; simp
    refine⟨(Heap.mk ((rsC V m).set 1 .dead++[rowO (x::y++l.map ruRow)]) .nil).put (.im 0) (.cells [.sref (.im (rsC V m).length) 0 ((x::y).length+(l.map ruRow).length) none 1,rowC (tR V) (1+(rowL (wR V)).length),.mref (.im (1+(rowL (wR V)).length+(rowL (tR V)).length)),.mref (.im (2+(rowL (wR V)).length+(rowL (tR V)).length))] 0),?_,?_⟩
    ·have hlw:((x::y).length+(l.map ruRow).length)=(wR (layM l V).2).length:=by rw[hw',List.length_append]
     rw[hlw];unfold rsC rsLeaves;rw[hw];cases htr:tR V with
     |nil =>
      exact qBd (cw := .sref (.im 4) 0 (wR (layM l V).2).length none 1) (ct := .p .nilslice) (rw:=[.im 4]) (rt:=[]) (b:=2) (n:=3) (by decide) rfl (.inr ⟨hne',4,rfl,rfl,by rw[hw']; rfl⟩) (.inl ⟨by rw[ht',htr],rfl,rfl⟩) rfl rfl
       (qAs (fun o ho=>by simp[Heap.put,rowL] at ho; rcases ho with rfl|rfl|rfl; rfl; exact qBF _; exact qBJ _)) (by simp[Heap.put,rowL])
     |cons x' y' =>
      exact qBd (cw := .sref (.im 5) 0 (wR (layM l V).2).length none 1) (ct := .sref (.im 2) 0 (y'.length+1) none 1) (rw:=[.im 5]) (rt:=[.im 2]) (b:=3) (n:=4) (by decide) rfl (.inr ⟨hne',5,rfl,rfl,by rw[hw']; rfl⟩) (.inr ⟨by rw[ht',htr]; simp,2,by rw[ht',htr]; rfl,rfl,by rw[ht',htr]; rfl⟩) rfl rfl
       (qAs (fun o ho=>by simp[Heap.put,rowL] at ho; rcases ho with rfl|rfl|rfl|rfl; rfl; exact qBg _; exact qBF _; exact qBJ _)) (by simp[Heap.put,rowL])
    ·rw[w74_0,b74_0];rw[e0] at W1;have A2:∀ (β:Type) (O:Oracle) (k:TVal→Heap→Option β) (d:Nat),vop O (.append 1 8 true (.k (.v (.c (.sref (.im 1) 0 (y.length+1) none 1)))) (.k (kSl 1 t (l.map ruRow)))) ⟨rsC V m,.nil⟩ d k=k (.v (.c (.sref (.im (rsC V m).length) 0 ((x::y).length+(l.map ruRow).length) none 1))) (Heap.mk ((rsC V m).set 1 .dead++[rowO (x::y++l.map ruRow)]) .nil):=A1;have g1:(Heap.mk ((rsC V m).set 1 .dead++[rowO (x::y++l.map ruRow)]) .nil).get (.im 0)=some (rsRoot V):=rfl;simp (maxSteps:=9999999) +contextual only[exa,rA,rB,rC,rD,rE,rF,rG,rH,rI,g0,g1,rsRoot,hw,qFu,qDl,W1,A2];rw[e0]
 obtain⟨h',X,e⟩:=key;exact qGO 74 (by decide) _ V _ m _ (fun _=>trivial) hO h' X true e
abbrev litO(s:List UInt8):AObj := .cells (pcells [.str s]) 0
theorem qKl{β:Type}{O:Oracle}{h:Heap}{d:Nat}{k:TVal→Heap→Option β}(s:List UInt8):vop O (.bslice 1 1 [.p (.str [])] [(0,.k (kS s))] true) h d k=k (.v (.c (.sref (.im h.ims.length) 0 1 (some 1) 1))) (h.push (litO s)) :=
 qQh _ (litO s) (fun r => .v (.c (.sref r 0 1 (some 1) 1))) rfl
theorem qCZ(h:Heap)(i:Nat)(o:AObj):(h.put (.im i) o).ims.length=h.ims.length:=Heap.put_len h i o
theorem qIh(C:List AObj)(cw:Cell)(iB iN:Nat)(s:List UInt8)(q:Nat)(hC:C[0]?=some (.cells [cw,.p .nilslice,.mref (.im iB),.mref (.im iN)] 0))(hB:C[iB]?=some (byO []))(h0:0≠iB) :
  lim tab.get S 135 q 0 [kP (.im 0),kS s] ⟨C,.nil⟩=vfin true q [.c (.p (.int .u64 0))] (((((Heap.mk C .nil).put (.im iB) (byO [s])).push (litO s)).push (litO s)).put (.im 0) (.cells [cw,.sref (.im (C.length+1)) 0 1 none 1,.mref (.im iB),.mref (.im iN)] 0)):=by
 rw[w135_0,b135_0];have g0:(Heap.mk C .nil).get (.im 0)=some (.cells [cw,.p .nilslice,.mref (.im iB),.mref (.im iN)] 0):=Heap.get_im_of hC (fun e=>by cases e);have gB:(Heap.mk C .nil).get (.im iB)=some (byO []):=Heap.get_im_of hB (fun e=>by cases e);have hlt:0<C.length:=(List.getElem?_eq_some_iff.1 hC).1;have L:=fun(β:Type) (O:Oracle) (k:TVal→Heap→Option β) (d:Nat)=>qEe (O:=O) (k:=k) (d:=d) .u64 (byF [] 0) 0 (.im iB) s gB
 have M:∀ (β:Type) (O:Oracle) (k:TVal→Heap→Option β) (d:Nat),vop O (.mapup 2 (.k (.v (.c (.mref (.im iB))))) (.k (kS s)) (.k (kW 0))) (Heap.mk C .nil) d k=k .undef ((Heap.mk C .nil).put (.im iB) (byO [s])):=fun β O k d=>qKw (O:=O) (k:=k) (d:=d) .u64 (byF [] 0) (.im iB) s 0 gB rfl
 have W0:IntKind.u64.wrap 0=0:=by decide
 have N0:lookR s (byF [] 0)=none:=rfl;have g1:((Heap.mk C .nil).put (.im iB) (byO [s])).get (.im 0)=some (.cells [cw,.p .nilslice,.mref (.im iB),.mref (.im iN)] 0):=(Heap.get_put_ne _ _ (fun e=>h0 e.symm)).trans g0;have g2:(((Heap.mk C .nil).put (.im iB) (byO [s])).push (litO s)).get (.im 0)=some (.cells [cw,.p .nilslice,.mref (.im iB),.mref (.im iN)] 0):=(Heap.get_push_lt _ _ (by rw[qCZ]; exact hlt)).trans g1;have g3:((((Heap.mk C .nil).put (.im iB) (byO [s])).push (litO s)).push (litO s)).get (.im 0)=some (.cells [cw,.p .nilslice,.mref (.im iB),.mref (.im iN)] 0):=(Heap.get_push_lt _ _ (by rw[Heap.push_len,qCZ]; exact Nat.lt_succ_of_lt hlt)).trans g2;have L1:((Heap.mk C .nil).put (.im iB) (byO [s])).ims.length=C.length:=qCZ _ _ _;have P1:∀ (β:Type) (O:Oracle) (k:TVal→Heap→Option β) (d:Nat),vop O (.bslice 1 1 [.p (.str [])] [(0,.k (kS s))] true) ((Heap.mk C .nil).put (.im iB) (byO [s])) d k=k (.v (.c (.sref (.im C.length) 0 1 (some 1) 1))) (((Heap.mk C .nil).put (.im iB) (byO [s])).push (litO s)):=fun β O k d=>by
  rw[qKl,L1]
 have A1:∀ (β:Type) (O:Oracle) (k:TVal→Heap→Option β) (d:Nat),vop O (.append 1 16 true (.k (.v (.c (.p .nilslice)))) (.k (.v (.c (.sref (.im C.length) 0 1 (some 1) 1))))) (((Heap.mk C .nil).put (.im iB) (byO [s])).push (litO s)) d k=k (.v (.c (.sref (.im (C.length+1)) 0 1 none 1))) ((((Heap.mk C .nil).put (.im iB) (byO [s])).push (litO s)).push (litO s)):=fun β O k d=>by
  have gl:=Heap.get_push_eq ((Heap.mk C .nil).put (.im iB) (byO [s])) (o:=litO s) (fun e=>by cases e);rw[L1] at gl;rw[qJy (row:=[.str s]) rfl (by decide) C.length gl,Heap.push_len,L1]
 simp (maxSteps:=9999999) +contextual only[exa,rA,rB,rC,rD,rE,rF,rG,rH,rI,g0,L,M,W0,N0,Option.isSome_none,g1,g2,g3,P1,A1]
theorem qGo(C:List AObj)(cw:Cell)(iB iN iT:Nat)(s:List UInt8)(T:List (List UInt8))(q:Nat)(hT:T≠[])(hC:C[0]?=some (.cells [cw,.sref (.im iT) 0 T.length none 1,.mref (.im iB),.mref (.im iN)] 0))(hB:C[iB]?=some (byO T))(h0:0≠iB)
  (hi:C[iT]?=some (rowO (T.map sRow))) (h1:0≠iT) (h2:iB≠iT) (hs:idxM s T=none) (hl:T.length<1073741824) :
  lim tab.get S 135 q 0 [kP (.im 0),kS s] ⟨C,.nil⟩=vfin true q [.c (.p (.int .u64 (T.length:Int)))] ((((((Heap.mk C .nil).put (.im iB) (byO (T++[s]))).push (litO s)).put (.im iT) .dead).push (rowO ((T++[s]).map sRow))).put (.im 0) (.cells [cw,.sref (.im (C.length+1)) 0 (T.length+1) none 1,.mref (.im iB),.mref (.im iN)] 0)):=by
 rw[w135_0,b135_0];have g0:(Heap.mk C .nil).get (.im 0)=some (.cells [cw,.sref (.im iT) 0 T.length none 1,.mref (.im iB),.mref (.im iN)] 0):=Heap.get_im_of hC (fun e=>by cases e);have gB:(Heap.mk C .nil).get (.im iB)=some (byO T):=Heap.get_im_of hB (fun e=>by cases e);have gT:(Heap.mk C .nil).get (.im iT)=some (rowO (T.map sRow)):=Heap.get_im_of hi (fun e=>by cases e);have hlt:0<C.length:=(List.getElem?_eq_some_iff.1 hC).1;have hltT:iT<C.length:=(List.getElem?_eq_some_iff.1 hi).1;have N0:lookR s (byF T 0)=none:=by rw[qEQ,hs]; rfl
 have L:=fun(β:Type) (O:Oracle) (k:TVal→Heap→Option β) (d:Nat)=>qEe (O:=O) (k:=k) (d:=d) .u64 (byF T 0) 0 (.im iB) s gB
 have M:∀ (β:Type) (O:Oracle) (k:TVal→Heap→Option β) (d:Nat),vop O (.mapup 2 (.k (.v (.c (.mref (.im iB))))) (.k (kS s)) (.k (kW (T.length:Int)))) (Heap.mk C .nil) d k=k .undef ((Heap.mk C .nil).put (.im iB) (byO (T++[s]))):=fun β O k d=>by
  rw[qKw (O:=O) (k:=k) (d:=d) .u64 (byF T 0) (.im iB) s (T.length:Int) gB N0];unfold byO;rw[qGh,Nat.zero_add]
 have W0:=qFJ T.length (by omega);generalize hh1:(Heap.mk C .nil).put (.im iB) (byO (T++[s]))=h1' at M ⊢;have L1:h1'.ims.length=C.length:=by rw[← hh1]; exact qCZ _ _ _
 have g1:h1'.get (.im 0)=some (.cells [cw,.sref (.im iT) 0 T.length none 1,.mref (.im iB),.mref (.im iN)] 0):=by rw[← hh1]; exact(Heap.get_put_ne _ _ (fun e=>h0 e.symm)).trans g0
 have t1:h1'.get (.im iT)=some (rowO (T.map sRow)):=by rw[← hh1]; exact(Heap.get_put_ne _ _ h2).trans gT
 have g2:(h1'.push (litO s)).get (.im 0)=some (.cells [cw,.sref (.im iT) 0 T.length none 1,.mref (.im iB),.mref (.im iN)] 0):=(Heap.get_push_lt _ _ (by rw[L1]; exact hlt)).trans g1;have t2:(h1'.push (litO s)).get (.im iT)=some (rowO (T.map sRow)):=(Heap.get_push_lt _ _ (by rw[L1]; exact hltT)).trans t1;have g3:(((h1'.push (litO s)).put (.im iT) .dead).push (rowO ((T++[s]).map sRow))).get (.im 0)=some (.cells [cw,.sref (.im iT) 0 T.length none 1,.mref (.im iB),.mref (.im iN)] 0) :=
  (Heap.get_push_lt _ _ (by rw[qCZ,Heap.push_len,L1]; exact Nat.lt_succ_of_lt hlt)).trans ((Heap.get_put_ne _ _ (fun e=>h1 e.symm)).trans g2)
 have P1:∀ (β:Type) (O:Oracle) (k:TVal→Heap→Option β) (d:Nat),vop O (.bslice 1 1 [.p (.str [])] [(0,.k (kS s))] true) h1' d k=k (.v (.c (.sref (.im C.length) 0 1 (some 1) 1))) (h1'.push (litO s)):=fun β O k d=>by
  rw[qKl,L1]
 have A1:∀ (β:Type) (O:Oracle) (k:TVal→Heap→Option β) (d:Nat),vop O (.append 1 16 true (.k (.v (.c (.sref (.im iT) 0 T.length none 1)))) (.k (.v (.c (.sref (.im C.length) 0 1 (some 1) 1))))) (h1'.push (litO s)) d k=k (.v (.c (.sref (.im (C.length+1)) 0 (T.length+1) none 1))) (((h1'.push (litO s)).put (.im iT) .dead).push (rowO ((T++[s]).map sRow))):=fun β O k d=>by
  have gl:=Heap.get_push_eq h1' (o:=litO s) (fun e=>by cases e);rw[L1] at gl;have:=qHf (O:=O) (d:=d) (k:=k) (by':=16) (row:=[.str s]) (rows:=T.map sRow) rfl (fun r hr=>by obtain⟨a,_,rfl⟩:=List.mem_map.1 hr; rfl) (by rw[List.length_map]; omega) iT C.length t2 gl;rw[List.length_map,Heap.push_len,L1] at this;rw[this,List.map_append]; rfl
 simp (maxSteps:=9999999) +contextual only[exa,rA,rB,rC,rD,rE,rF,rG,rH,rI,g0,L,M,W0,N0,qDl,Option.isSome_none,g1,g2,g3,P1,A1]
theorem qKZ(V:RS)(m:TyM)(s:List UInt8)(hl:V.T.length<1073741824):RsDo 135 [kS s] V m (kW (numM s V).1) (numM s V).2:=by
 have hO:Om 135 [kP (.im 0),kS s] (rsC V m)=lim tab.get S 135 ((rsLeaves V m).length+1) 0 [kP (.im 0),kS s] ⟨rsC V m,.nil⟩:=qAE rfl;have g0:=qCO (hi0 V m);have gB:=qOq (hi0 V m);have key:∃ h',RsAt h' 0 (numM s V).2 m ((rsLeaves V m).length+1)∧lim tab.get S 135 ((rsLeaves V m).length+1) 0 [kP (.im 0),kS s] ⟨rsC V m,.nil⟩=vfin true ((rsLeaves V m).length+1) [.c (.p (.int .u64 (numM s V).1))] h':=by
  cases hs:idxM s V.T with
  |some k =>
   have e1:numM s V=((k:Int),V):=by unfold numM; rw[hs]
   rw[e1];refine⟨_,qC3 V m,?_⟩;rw[w135_0,b135_0];have N0:lookR s (byF V.T 0)=some ((k:Nat):Int):=by rw[qEQ,hs,Option.map_some,Nat.zero_add]
   have L:=fun(β:Type) (O:Oracle) (k:TVal→Heap→Option β) (d:Nat)=>qEe (O:=O) (k:=k) (d:=d) .u64 (byF V.T 0) 0 _ s gB
   simp (maxSteps:=9999999) +contextual only[exa,rA,rB,rC,rD,rE,rF,rG,rH,rI,g0,rsRoot,L,N0,Option.isSome_some,Option.getD_some]
  |none =>
   have e1:numM s V=((V.T.length:Int),⟨V.W,V.T++[s]⟩):=by unfold numM; rw[hs]
   rw[e1];have hw':wR ⟨V.W,V.T++[s]⟩=wR V:=rfl;have ht':tR ⟨V.W,V.T++[s]⟩=tR V++[sRow s]:=by unfold tR; simp
   have hlen:=qDY V;cases hw:wR V with
   |nil =>
    cases ht:tR V with
    |nil =>
     have hT:V.T=[]:=by rw[← List.length_eq_zero_iff,← hlen,ht]; rfl
     have hC:rsC V m=[.cells [.p .nilslice,.p .nilslice,.mref (.im 1),.mref (.im 2)] 0,byO [],tyO m]:=by unfold rsC rsRoot rsLeaves; rw[hw,ht,hT]; rfl
     have hL:(rsLeaves V m).length+1=3:=by unfold rsLeaves; rw[hw,ht]; rfl
     rw[hL];refine⟨_,?_,by rw[hC,qIh _ (.p .nilslice) 1 2 s 3 rfl rfl (by decide),hT]; rfl⟩;exact qBd (cw := .p .nilslice) (ct := .sref (.im 4) 0 1 none 1) (rw:=[]) (rt:=[.im 4]) (b:=1) (n:=2) (by decide) rfl (.inl ⟨by rw[hw',hw],rfl,rfl⟩) (.inr ⟨by rw[ht']; simp,4,by rw[ht',ht]; rfl,rfl,by rw[ht',ht]; rfl⟩) (by rw[hT]; rfl) rfl
      (qAs (fun o ho=>by simp[Heap.put,Heap.push] at ho; rcases ho with rfl|rfl; exact qBF _; exact qBJ _)) (by simp[Heap.put,Heap.push])
    |cons x y =>
     have hne:V.T≠[]:=fun e=>by rw[e] at hlen; rw[ht] at hlen; simp at hlen
     have hyl:y.length+1=V.T.length:=by rw[← hlen,ht]; rfl
     have hC:rsC V m=[.cells [.p .nilslice,.sref (.im 1) 0 V.T.length none 1,.mref (.im 2),.mref (.im 3)] 0,rowO (V.T.map sRow),byO V.T,tyO m]:=by
      unfold rsC rsRoot rsLeaves; rw[hw,ht]; rw[show V.T.map sRow=x::y from ht,← hyl]; rfl
     have hL:(rsLeaves V m).length+1=4:=by unfold rsLeaves; rw[hw,ht]; rfl
     rw[hL];refine⟨_,?_,by rw[hC,qGo _ (.p .nilslice) 2 3 1 s V.T 4 hne rfl rfl (by decide) rfl (by decide) (by decide) hs hl]⟩;exact qBd (cw := .p .nilslice) (ct := .sref (.im 5) 0 (V.T.length+1) none 1) (rw:=[]) (rt:=[.im 5]) (b:=2) (n:=3) (by decide) rfl (.inl ⟨by rw[hw',hw],rfl,rfl⟩) (.inr ⟨by rw[ht']; simp,5,by rw[ht',List.length_append,hlen]; rfl,rfl,rfl⟩) rfl rfl
      (qAs (fun o ho=>by simp[Heap.put,Heap.push] at ho; rcases ho with rfl|rfl|rfl; rfl; exact qBF _; exact qBJ _)) (by simp[Heap.put,Heap.push])
   |cons a r =>
    have har:(a::r).length=(wR V).length:=by rw[hw]
    cases ht:tR V with
    |nil =>
     have hT:V.T=[]:=by rw[← List.length_eq_zero_iff,← hlen,ht]; rfl
     have hC:rsC V m=[.cells [.sref (.im 1) 0 (r.length+1) none 1,.p .nilslice,.mref (.im 2),.mref (.im 3)] 0,rowO (a::r),byO [],tyO m]:=by unfold rsC rsRoot rsLeaves; rw[hw,ht,hT]; rfl
     have hL:(rsLeaves V m).length+1=4:=by unfold rsLeaves; rw[hw,ht]; rfl
     rw[hL];refine⟨_,?_,by rw[hC,qIh _ (.sref (.im 1) 0 (r.length+1) none 1) 2 3 s 4 rfl rfl (by decide),hT]; rfl⟩;exact qBd (cw := .sref (.im 1) 0 (r.length+1) none 1) (ct := .sref (.im 5) 0 1 none 1) (rw:=[.im 1]) (rt:=[.im 5]) (b:=2) (n:=3) (by decide) rfl (.inr ⟨by rw[hw',hw]; simp,1,by rw[hw',hw]; rfl,rfl,by rw[hw',hw]; rfl⟩) (.inr ⟨by rw[ht']; simp,5,by rw[ht',ht]; rfl,rfl,by rw[ht',ht]; rfl⟩) (by rw[hT]; rfl) rfl
      (qAs (fun o ho=>by simp[Heap.put,Heap.push] at ho; rcases ho with rfl|rfl|rfl; exact qBg _; exact qBF _; exact qBJ _)) (by simp[Heap.put,Heap.push])
    |cons x y =>
     have hne:V.T≠[]:=fun e=>by rw[e] at hlen; rw[ht] at hlen; simp at hlen
     have hyl:y.length+1=V.T.length:=by rw[← hlen,ht]; rfl
     have hC:rsC V m=[.cells [.sref (.im 1) 0 (r.length+1) none 1,.sref (.im 2) 0 V.T.length none 1,.mref (.im 3),.mref (.im 4)] 0,rowO (a::r),rowO (V.T.map sRow),byO V.T,tyO m]:=by
      unfold rsC rsRoot rsLeaves; rw[hw,ht]; rw[show V.T.map sRow=x::y from ht,← hyl]; rfl
     have hL:(rsLeaves V m).length+1=5:=by unfold rsLeaves; rw[hw,ht]; rfl
     rw[hL];refine⟨_,?_,by rw[hC,qGo _ (.sref (.im 1) 0 (r.length+1) none 1) 3 4 2 s V.T 5 hne rfl rfl (by decide) rfl (by decide) (by decide) hs hl]⟩;exact qBd (cw := .sref (.im 1) 0 (r.length+1) none 1) (ct := .sref (.im 6) 0 (V.T.length+1) none 1) (rw:=[.im 1]) (rt:=[.im 6]) (b:=3) (n:=4) (by decide) rfl (.inr ⟨by rw[hw',hw]; simp,1,by rw[hw',hw]; rfl,rfl,by rw[hw',hw]; rfl⟩) (.inr ⟨by rw[ht']; simp,6,by rw[ht',List.length_append,hlen]; rfl,rfl,rfl⟩) rfl rfl
      (qAs (fun o ho=>by simp[Heap.put,Heap.push] at ho; rcases ho with rfl|rfl|rfl|rfl; exact qBg _; rfl; exact qBF _; exact qBJ _)) (by simp[Heap.put,Heap.push])
 obtain⟨h',X,e⟩:=key;exact qGO 135 (by decide) _ V _ m _ (fun _=>trivial) hO h' X true e
theorem GS.src{D:List Nat}{sz:Nat}{v:Cell}{rows:List (List PVal)}{h:Heap}(G:GS D sz v rows h):∃ b,v.strip = .p b∧SrcR sz b rows:=by
 rcases G with ⟨rfl,rfl⟩|rfl|⟨e,g,_,rfl,_⟩
 ·exact⟨.nilslice,rfl,.inl ⟨rfl,rfl⟩⟩
 ·exact⟨_,rfl,.inr ⟨_,rfl⟩⟩
 ·exact⟨.slice sz false rows,rfl,.inr ⟨_,rfl⟩⟩
theorem qPY{h:Heap}{r n:Nat}{V:RS}{m:TyM}(X:RsAt h r V m n)(g:FuncId)(ps:List TVal)(hp:allB pT ps=true)(v:TVal)(hv:pT v=true)(hc:Om g (kP (.im 0)::ps) (rsC V m)=some (v,rsC V m)){β:Type}(d:Nat)(k:TVal→Heap→Option β):vcall Om (.v (.c (.func g []))) (kP (.im r)::ps) h d k=k v h:=by
 obtain⟨ρ,A,e0,him⟩:=X.at';exact(qC9 A (qAQ V m) him e0 g ps hp v hv hc).1 d k
theorem qBC{g:FuncId}{ps:List TVal}{V V':RS}{m:TyM}{v:TVal}(M:RsDo g ps V m v V')(hp:allB pT ps=true)(hv:pT v=true){h:Heap}{r n:Nat}(X:RsAt h r V m n) :
  ∃ h' t,(∀ {β:Type}(d:Nat)(k:TVal→Heap→Option β),vcall Om (.v (.c (.func g []))) (kP (.im r)::ps) h d k=k v h') ∧
   (∀ {β:Type}(d:Nat)(kt:TVal→Heap→AI.Touch→Option β),vtouch Om (.call (.k (.v (.c (.func g [])))) (.k (kP (.im r))::ps.map .k)) h d kt=kt v h' t) ∧
   RsAt h' r V' m n∧(∀ d g o,h.get (.own d g)=some o→h'.get (.own d g)=some o)∧(∀ d,h'.gen d=h.gen d) :=
 qKY M (qAa V m) (qAa V' m) hp hv X
theorem qIn{V:RS}{m:TyM}{l:List Int}{D:List Nat}{c:Cell}{h:Heap}{n:Nat}(X:RsAt h 0 V m n)(G:GS D 1 c (l.map ruRow) h)(hl:V.W.length+l.length≤1073741824) :
  ∃ h',RsAt h' 0 (layM l V).2 m n∧∀ (β:Type) (d:Nat) (k:TVal→Heap→Option β),vcall Om (.v (.c (.func 74 []))) [kP (.im 0),.v (.c c)] h d k=k (kW (layM l V).1) h':=by
 obtain⟨b,hb,hs⟩:=GS.src G;obtain⟨h',t,c1,_,X',_,_⟩:=qBC (qHW V m l b hs hl) rfl rfl X;refine⟨h',X',fun β d k => ?_⟩;rw[qHi];show vcall Om _ [kP (.im 0),.v (.c c.strip)] h d k=_;rw[hb];exact c1 d k
def PutC(m:TyM)(n:Nat):Prop:=∀ (t:TT) (v:VT) (V:RS) (q:Int×RS),wfT t→smV v→putF m n t v V=some q→q.2.W.length≤1073741824→q.2.T.length<1073741824→RsDo 73 [kA t.row,kA v.row] V m (kW q.1) q.2
theorem le_w{A B:RS}(h:A.le B):A.W.length≤B.W.length:=by obtain⟨⟨w,e⟩,_⟩:=h; rw[e,List.length_append]; omega
theorem qG1{A B:RS}(h:A.le B):A.T.length≤B.T.length:=by obtain⟨_,t,e⟩:=h; rw[e,List.length_append]; omega
abbrev r5:TVal := .v (.c (.ptr (.own 5 1) 0))
section
variable {m:TyM} {n:Nat} (PC:PutC m n) (t:TT) (ht:wfT t) (v:VT) (sv:smV v) (n0:Nat)
include PC ht sv
theorem qGZ(x:VT)(hx:x∈v.l.list)(i g9:Nat)(acc:List Int)(c':Cell)(h:Heap)(V1:RS)(q:Int×RS)(p:List Int×RS)
  (next:∀ (acc:List Int) (c':Cell) (h:Heap) (V1:RS),acc.length≤1+2*(i+1)→RsAt h 0 V1 m n0→h.get (.own 4 1)=some (.cells (pcells t.row) 0)→h.get (.own 5 1)=some (.cells (pcells v.row) 0)→GS [42,50] 1 c' (acc.map ruRow) h →
   listP (putF m n) t v (v.l.list.drop (i+1)) (i+1) acc V1=some p→∃ h',RsAt h' 0 (layM p.1 p.2).2 m n0∧lim tab.get S 136 n0 1 [kP (.im 0),r4,r5,.v (.c c'),.v (.c (.p (slP 6 VT.row v.l))),kI (v.l.len:Int),kI ((i+1:Nat):Int)] h=vfin true n0 [.c (.p (.int .u64 (layM p.1 p.2).1))] h')
  (hi:i<1000000) (ha:acc.length≤2+2*i) (X:RsAt h 0 V1 m n0) (a4:h.get (.own 4 1)=some (.cells (pcells t.row) 0)) (a5:h.get (.own 5 1)=some (.cells (pcells v.row) 0)) (a9:h.get (.own 9 g9)=some (.cells (pcells x.row) 0)) (G:GS [42,50] 1 c' (acc.map ruRow) h)
  (e:putF m n (kidT t 0) x V1=some q) (e2:listP (putF m n) t v (v.l.list.drop (i+1)) (i+1) (acc++[q.1]) q.2=some p) (bw:p.2.W.length+p.1.length≤1073741824) (bt:p.2.T.length<1073741824) :
  ∃ h',RsAt h' 0 (layM p.1 p.2).2 m n0∧lim tab.get S 136 n0 3 [kP (.im 0),r4,r5,.v (.c c'),.v (.c (.ptr (.own 9 g9) 0)),.v (.c (.p (slP 6 VT.row v.l))),kI (v.l.len:Int),kI (i:Int)] h=vfin true n0 [.c (.p (.int .u64 (layM p.1 p.2).1))] h':=by
 have hle:=(qCU (qBl m n) t v _ _ _ _ _ e2).1;have M:=PC (kidT t 0) x V1 q (qBT ht 0) (((qAW v).1 sv).2.2.2 x hx) e (by have:=le_w hle; omega) (by have:=qG1 hle; omega);obtain⟨h1,t1,c1,c1t,X1,K1,G1⟩:=qBC M (by simp only[exP]) rfl X;have GB:GS [42,50] 1 c' (acc.map ruRow) h1:=G.keep fun e _ g hg=>K1 e g _ hg
 obtain⟨c2,h2,t2,G2,e5,T2,K2,I2,X2⟩:=qBO (d:=50) (by':=8) (new:=[ruRow q.1]) (b := .slice 1 true [ruRow q.1]) (.inr ⟨_,rfl⟩) GB (by decide) (fun r hr=>by simp at hr; rw[hr]; rfl) (by simp <;> omega) (by decide);have e5':∀ (β:Type) (O:Oracle) (kt:TVal→Heap→AI.Touch→Option β),vtouch O (.append 1 8 false (.k (.v (.c c'))) (.k (kSl 1 true [[.int .u64 q.1]]))) h1 50 kt=kt (.v (.c c2)) h2 t2:=e5;rw[w136_3,b136_3];have Y0:∀ (β:Type) (kt:TVal→Heap→AI.Touch→Option β) (h:Heap) (d:Nat),vtouch Om (.call (.k (.v (.c (.func 137 [])))) [.k (kA t.row),.k (kI 0)]) h d kt=kt (kA (kidT t 0).row) h noTouch:=fun β kt h d=>qFS t 0 (by have:=(qAn ht).2.1; omega)
 have Y1:∀ (β:Type) (kt:TVal→Heap→AI.Touch→Option β) (d:Nat),vtouch Om (.call (.k (.v (.c (.func 73 [])))) [.k (kP (.im 0)),.k (kA (kidT t 0).row),.k (kA x.row)]) h d kt=kt (kW q.1) h1 t1:=fun β kt d=>c1t d kt
 simp (maxSteps:=9999999) +contextual only[exa,rA,rB,rC,rD,rE,rF,rG,rH,rI,exW,exY,a4,a9,Y0,Y1,qAo,e5',qAS i (by omega)];exact next (acc++[q.1]) c2 h2 q.2 (by simp; omega) (X1.of I2 (by rw[qFW e5]; exact X1.few)) (K2 4 1 _ (by decide) (K1 4 1 _ a4)) (K2 5 1 _ (by decide) (K1 5 1 _ a5)) (by rw[List.map_append]; exact G2) e2
theorem qKL(hl:v.l.len≤1000000)(hn0:0<n0)(p:List Int×RS)(bw:p.2.W.length+p.1.length≤1073741824)(bt:p.2.T.length<1073741824) :
  ∀ (i:Nat) (acc:List Int) (c':Cell) (h:Heap) (V1:RS),acc.length≤1+2*i→RsAt h 0 V1 m n0→h.get (.own 4 1)=some (.cells (pcells t.row) 0)→h.get (.own 5 1)=some (.cells (pcells v.row) 0)→GS [42,50] 1 c' (acc.map ruRow) h →
   listP (putF m n) t v (v.l.list.drop i) i acc V1=some p→∃ h',RsAt h' 0 (layM p.1 p.2).2 m n0∧lim tab.get S 136 n0 1 [kP (.im 0),r4,r5,.v (.c c'),.v (.c (.p (slP 6 VT.row v.l))),kI (v.l.len:Int),kI (i:Int)] h=vfin true n0 [.c (.p (.int .u64 (layM p.1 p.2).1))] h':=by
 refine qAL v.l.len (fun i hi acc c' h V1 ha X a4 a5 G e => ?_) (fun i hi ih acc c' h V1 ha X a4 a5 G e => ?_)
 ·have h1:¬ (i:Int)<(v.l.len:Int):=by omega
  rw[qAX hi] at e;cases e;obtain⟨h',X',c1⟩:=qIn X G bw;refine⟨h',X',?_⟩;rw[w136_1,b136_1];simp (maxSteps:=9999999) +contextual only[exa,rA,rB,rC,rD,rE,rF,rG,rH,rI,h1,w136_4,b136_4,c1]
 ·have h1:(i:Int)<(v.l.len:Int):=by omega
  obtain⟨x,hs,h2,hx⟩:=qAO hi;rw[h2] at e;have hil:i<1000000:=by omega
  rw[w136_1,b136_1];have NX:=fun acc c' h V1 ha X a4 a5 G e=>ih acc c' h V1 ha X a4 a5 G e
  have hz:put1 zc 0 (pcells x.row)=pcells x.row:=qAl _ (VT.row_len x);by_cases hk:t.kind=5
  ·unfold listP at e;rw[if_pos hk] at e;obtain⟨q,e1,e2⟩:=Option.bind_eq_some_iff.1 e;have hle:=(qCU (qBl m n) t v _ _ _ _ _ e2).1;have hqt:=qG1 (RS.le_trans (qBl m n _ _ _ _ e1) hle);have hnt:=qG1 (qDa (keyT v i) V1);have key:∀ (g9:Nat) (h:Heap),RsAt h 0 V1 m n0→h.get (.own 4 1)=some (.cells (pcells t.row) 0)→h.get (.own 5 1)=some (.cells (pcells v.row) 0)→h.get (.own 9 g9)=some (.cells (pcells x.row) 0)→GS [42,50] 1 c' (acc.map ruRow) h →
     ∃ h',RsAt h' 0 (layM p.1 p.2).2 m n0∧lim tab.get S 136 n0 2 [kP (.im 0),r4,r5,.v (.c c'),.v (.c (.ptr (.own 9 g9) 0)),kS (keyT v i),.v (.c (.p (slP 6 VT.row v.l))),kI (v.l.len:Int),kI (i:Int)] h=vfin true n0 [.c (.p (.int .u64 (layM p.1 p.2).1))] h':=by
    intro g9 h X a4 a5 a9 G;obtain⟨h1,t1,c1,_,X1,K1,G1⟩:=qBC (qKZ V1 m (keyT v i) (by omega)) rfl rfl X;have GB:GS [42,50] 1 c' (acc.map ruRow) h1:=G.keep fun e _ g hg=>K1 e g _ hg
    obtain⟨c2,h2',t2,G2,e5,T2,K2,I2,X2⟩:=qBO (d:=42) (by':=8) (new:=[ruRow (numM (keyT v i) V1).1]) (b := .slice 1 true [ruRow (numM (keyT v i) V1).1]) (.inr ⟨_,rfl⟩) GB (by decide) (fun r hr=>by simp at hr; rw[hr]; rfl) (by simp <;> omega) (by decide);have e5':∀ (β:Type) (O:Oracle) (k:TVal→Heap→Option β),vop O (.append 1 8 false (.k (.v (.c c'))) (.k (kSl 1 true [[.int .u64 (numM (keyT v i) V1).1]]))) h1 42 k=k (.v (.c c2)) h2':=fun β O k=>by
     rw[qAt]; exact e5 β O _
    rw[w136_2,b136_2];have C1:∀ (β:Type) (k:TVal→Heap→Option β) (d:Nat),vcall Om (.v (.c (.func 135 []))) [kP (.im 0),kS (keyT v i)] h d k=k (kW (numM (keyT v i) V1).1) h1:=fun β k d=>c1 d k
    simp (maxSteps:=9999999) +contextual only[exa,rA,rB,rC,rD,rE,rF,rG,rH,rI,exW,C1,e5'];exact qGZ PC t ht v sv n0 x hx i g9 (acc++[(numM (keyT v i) V1).1]) c2 h2' _ q p (fun acc c' h V1 ha X a4 a5 G e=>ih acc c' h V1 ha X a4 a5 G e) hil (by simp; omega) (X1.of I2 (by rw[qFW e5]; exact X1.few)) (K2 4 1 _ (by decide) (K1 4 1 _ a4)) (K2 5 1 _ (by decide) (K1 5 1 _ a5)) (K2 9 g9 _ (by decide) (K1 9 g9 _ a9))
     (by rw[List.map_append]; exact G2) e1 (by rw[List.append_assoc]; exact e2) bw bt
   cases hky:v.keys.list[i]? with
   |none =>
    have hkl:¬ (i:Int)<(v.keys.len:Int):=by have:=List.getElem?_eq_none_iff.1 hky; unfold Sl.len; omega
    have hkt:keyT v i=[]:=by unfold keyT; rw[hky]; rfl
    obtain⟨h',X',e'⟩:=key (h.gen 9+1) _ ((X.own 9 (h.gen 9+1) (.cells zc 0)).own 9 (h.gen 9+1) (.cells (pcells x.row) 0)) (by simp only[exa,rA,rB,rC,rD,rE,rF,rG,rH,rI,a4]) (by simp only[exa,rA,rB,rC,rD,rE,rF,rG,rH,rI,a5]) (by simp only[exa,rA,rB,rC,rD,rE,rF,rG,rH,rI]) ((G.own _ _ (by decide)).own _ _ (by decide));refine⟨h',X',?_⟩;rw[hkt] at e';simp (maxSteps:=9999999) +contextual only[exa,rA,rB,rC,rD,rE,rF,rG,rH,rI,h1,hs,hk,hkl,hz,a4,a5,e']
   |some ky =>
    have hkl:(i:Int)<(v.keys.len:Int):=by have:=(List.getElem?_eq_some_iff.1 hky).1; unfold Sl.len; omega
    have hkt:keyT v i=ky:=by unfold keyT; rw[hky]; rfl
    obtain⟨h',X',e'⟩:=key (h.gen 9+1) _ ((X.own 9 (h.gen 9+1) (.cells zc 0)).own 9 (h.gen 9+1) (.cells (pcells x.row) 0)) (by simp only[exa,rA,rB,rC,rD,rE,rF,rG,rH,rI,a4]) (by simp only[exa,rA,rB,rC,rD,rE,rF,rG,rH,rI,a5]) (by simp only[exa,rA,rB,rC,rD,rE,rF,rG,rH,rI]) ((G.own _ _ (by decide)).own _ _ (by decide));refine⟨h',X',?_⟩;rw[hkt] at e';simp (maxSteps:=9999999) +contextual only[exa,rA,rB,rC,rD,rE,rF,rG,rH,rI,h1,hs,hk,hkl,hz,hky,a4,a5,e']
  ·unfold listP at e;rw[if_neg hk] at e;obtain⟨q,e1,e2⟩:=Option.bind_eq_some_iff.1 e;obtain⟨h',X',e'⟩:=qGZ PC t ht v sv n0 x hx i (h.gen 9+1) acc c' _ V1 q p (fun acc c' h V1 ha X a4 a5 G e=>ih acc c' h V1 ha X a4 a5 G e) hil (by omega) ((X.own 9 (h.gen 9+1) (.cells zc 0)).own 9 (h.gen 9+1) (.cells (pcells x.row) 0)) (by simp only[exa,rA,rB,rC,rD,rE,rF,rG,rH,rI,a4]) (by simp only[exa,rA,rB,rC,rD,rE,rF,rG,rH,rI,a5]) (by simp only[exa,rA,rB,rC,rD,rE,rF,rG,rH,rI])
    ((G.own _ _ (by decide)).own _ _ (by decide)) e1 e2 bw bt
   refine⟨h',X',?_⟩;simp (maxSteps:=9999999) +contextual only[exa,rA,rB,rC,rD,rE,rF,rG,rH,rI,h1,hs,hk,hz,a4,a5,e']
theorem qPI(V:RS)(p:List Int×RS)(e:listP (putF m n) t v v.l.list 0 [(v.l.len:Int)] V=some p)(bw:p.2.W.length+p.1.length≤1073741824)(bt:p.2.T.length<1073741824):RsDo 136 [kA t.row,kA v.row] V m (kW (layM p.1 p.2).1) (layM p.1 p.2).2:=by
 have hl:v.l.len≤1000:=((qAW v).1 sv).2.2.1;have hO:Om 136 [kP (.im 0),kA t.row,kA v.row] (rsC V m)=lim tab.get S 136 ((rsLeaves V m).length+1) 0 [kP (.im 0),kA t.row,kA v.row] ⟨rsC V m,.nil⟩:=qAE rfl;have W1:=qFJ v.l.len (by omega);obtain⟨h',X',e'⟩:=qKL PC t ht v sv ((rsLeaves V m).length+1) (by omega) (Nat.succ_pos _) p bw bt 0 [(v.l.len:Int)] (.p (.slice 1 true [ruRow (v.l.len:Int)])) _ V (by simp) (((qC3 V m).own 4 1 (.cells (pcells t.row) 0)).own 5 1 (.cells (pcells v.row) 0)) (by simp only[exa,rA,rB,rC,rD,rE,rF,rG,rH,rI]) (by simp only[exa,rA,rB,rC,rD,rE,rF,rG,rH,rI]) (.inr (.inl rfl)) e;refine qGO 136 (by decide) _ V _ m _ (fun _=>trivial) hO h' X' true ?_;rw[w136_0,b136_0];have B0:∀ (β:Type) (O:Oracle) (h:Heap) (d:Nat) (k:TVal→Heap→Option β),vop O (.bslice 1 1 [.p (.int .u64 0)] [(0,.k (kW (v.l.len:Int)))] false) h d k=k (kSl 1 true [ruRow (v.l.len:Int)]) h:=fun β O h d k=>by
  rw[qAt,qAo _ _ rfl]; rfl
 simp (maxSteps:=9999999) +contextual only[exa,rA,rB,rC,rD,rE,rF,rG,rH,rI,W1,B0];exact e'
end
theorem qLf:smV .nul:=(qAW _).2 ⟨by show 0≤100000; decide,by show 0≤1000; decide,by show 0≤1000; decide,fun x hx=>by cases hx⟩
theorem qNZ{v:VT}(sv:smV v)(a:List UInt8):smV (fieldM v a):=by
 unfold fieldM;cases h:(idxM a v.keys.list).bind fun k=>v.l.list[k]? with
 |none=>exact qLf
 |some x =>
  obtain⟨k,_,hk⟩:=Option.bind_eq_some_iff.1 h;exact((qAW v).1 sv).2.2.2 x (List.mem_of_getElem? hk)
section
variable {m:TyM} {n:Nat} (PC:PutC m n) (t:TT) (ht:wfT t) (v:VT) (sv:smV v) (n0:Nat)
include PC ht sv
theorem qMZ(p:List Int×RS)(bw:p.2.W.length+p.1.length≤1073741824)(bt:p.2.T.length<1073741824) :
  ∀ (i:Nat) (acc:List Int) (c':Cell) (h:Heap) (V1:RS),acc.length≤i→RsAt h 0 V1 m n0→h.get (.own 4 1)=some (.cells (pcells t.row) 0)→h.get (.own 5 1)=some (.cells (pcells v.row) 0)→GS [73] 1 c' (acc.map ruRow) h →
   recP (putF m n) t v (t.names.list.drop i) i acc V1=some p→∃ h',RsAt h' 0 (layM p.1 p.2).2 m n0∧lim tab.get S 73 n0 2 [kP (.im 0),r4,r5,.v (.c c'),.v (.c (.p (slP 1 sRow t.names))),kI (t.names.len:Int),kI (i:Int)] h=vfin true n0 [.c (.p (.int .u64 (layM p.1 p.2).1))] h':=by
 have hnl:=(qAn ht).1;refine qAL t.names.len (fun i hi acc c' h V1 ha X a4 a5 G e => ?_) (fun i hi ih acc c' h V1 ha X a4 a5 G e => ?_)
 ·have h1:¬ (i:Int)<(t.names.len:Int):=by omega
  rw[qAX hi] at e;cases e;obtain⟨h',X',c1⟩:=qIn X G bw;refine⟨h',X',?_⟩;rw[w73_2,b73_2];simp (maxSteps:=9999999) +contextual only[exa,rA,rB,rC,rD,rE,rF,rG,rH,rI,h1,w73_3,b73_3,c1]
 ·have h1:(i:Int)<(t.names.len:Int):=by omega
  obtain⟨a,hs,h2,hx⟩:=qAO hi;rw[h2] at e;unfold recP at e;obtain⟨q,e1,e2⟩:=Option.bind_eq_some_iff.1 e;have hle:=(qFj (qBl m n) t v _ _ _ _ _ e2).1;have M:=PC (kidT t i) (fieldM v a) V1 q (qBT ht i) (qNZ sv a) e1 (by have:=le_w hle; omega) (by have:=qG1 hle; omega);obtain⟨h1',t1,c1,c1t,X1,K1,G1⟩:=qBC M (by simp only[exP]) rfl X;have GB:GS [73] 1 c' (acc.map ruRow) h1':=G.keep fun e _ g hg=>K1 e g _ hg
  obtain⟨c2,h2',t2,G2,e5,T2,K2,I2,X2⟩:=qBO (d:=73) (by':=8) (new:=[ruRow q.1]) (b := .slice 1 true [ruRow q.1]) (.inr ⟨_,rfl⟩) GB (by decide) (fun r hr=>by simp at hr; rw[hr]; rfl) (by simp <;> omega) (by decide);have e5':∀ (β:Type) (O:Oracle) (kt:TVal→Heap→AI.Touch→Option β),vtouch O (.append 1 8 false (.k (.v (.c c'))) (.k (kSl 1 true [[.int .u64 q.1]]))) h1' 73 kt=kt (.v (.c c2)) h2' t2:=e5;rw[w73_2,b73_2];have Y0:=fun(β:Type) (kt:TVal→Heap→AI.Touch→Option β) (h:Heap) (d:Nat)=>qFS (kt:=kt) (h:=h) (d:=d) t i (by have:=(qAn ht).2.1; omega)
  have Y2:=fun(β:Type) (kt:TVal→Heap→AI.Touch→Option β) (h:Heap) (d:Nat)=>y138 (kt:=kt) (h:=h) (d:=d) v a (by have:=((qAW v).1 sv).2.1; omega) (by have:=((qAW v).1 sv).2.2.1; omega)
  have Y1:∀ (β:Type) (kt:TVal→Heap→AI.Touch→Option β) (d:Nat),vtouch Om (.call (.k (.v (.c (.func 73 [])))) [.k (kP (.im 0)),.k (kA (kidT t i).row),.k (kA (fieldM v a).row)]) h d kt=kt (kW q.1) h1' t1:=fun β kt d=>c1t d kt
  simp (maxSteps:=9999999) +contextual only[exa,rA,rB,rC,rD,rE,rF,rG,rH,rI,exW,exY,h1,hs,a4,a5,Y0,Y1,Y2,qAo,e5',qAS i (by omega)];exact ih (acc++[q.1]) c2 h2' q.2 (by simp; omega) (X1.of I2 (by rw[qFW e5]; exact X1.few)) (K2 4 1 _ (by decide) (K1 4 1 _ a4)) (K2 5 1 _ (by decide) (K1 5 1 _ a5)) (by rw[List.map_append]; exact G2) e2
end
theorem qN0(m:TyM)(hm:m.length<4611686018427387904)(hty:∀ e∈m,wfT e.2):∀ n,PutC m n
 |0=>fun t v V q _ _ e=>by cases e
 |n+1=>by
  intro t0 v V q ht0 sv e bw bt;have PC:=qN0 m hm hty n;have hO:Om 73 [kP (.im 0),kA t0.row,kA v.row] (rsC V m)=lim tab.get S 73 ((rsLeaves V m).length+1) 0 [kP (.im 0),kA t0.row,kA v.row] ⟨rsC V m,.nil⟩:=qAE rfl;have ht:wfT (fopen m t0):=qIm hty ht0;have hop:=qGt V m t0 hm;have e':putT (putF m n) (fopen m t0) v V=some q:=e;clear e;obtain⟨s1,s2,s3,s4⟩:=(qAW v).1 sv;generalize fopen m t0=t at ht hop e';obtain⟨hn6,hk6,h8,_⟩:=qAn ht;have key:∃ h',RsAt h' 0 q.2 m ((rsLeaves V m).length+1)∧lim tab.get S 73 ((rsLeaves V m).length+1) 0 [kP (.im 0),kA t0.row,kA v.row] ⟨rsC V m,.nil⟩=vfin true ((rsLeaves V m).length+1) [.c (.p (.int .u64 q.1))] h':=by
   have X0:=((qC3 V m).own 4 1 (.cells (pcells t0.row) 0)).own 5 1 (.cells (pcells v.row) 0);have X:=X0.own 4 1 (.cells (pcells t.row) 0);have hz:put1 (pcells t0.row) 0 (pcells t.row)=pcells t.row:=qBY _ _ (by rw[qAp,qAp,TT.row_len,TT.row_len]);have U:=fun(β:Type) (k:TVal→Heap→Option β) (d:Nat)=>qPY X0 134 [kA t0.row] (by simp only[exP]) (kA t.row) (by simp only[exP]) hop d k
   unfold putT at e';rw[w73_0,b73_0];by_cases k1:t.kind=1
   ·rw[if_pos k1] at e'; cases e';refine⟨_,X,?_⟩;cases hb:v.b <;> simp (maxSteps:=9999999) +contextual only[exa,rA,rB,rC,rD,rE,rF,rG,rH,rI,U,hz,k1,hb,if_true,if_false,Bool.false_eq_true]
   rw[if_neg k1] at e';by_cases k2:t.kind=2
   ·rw[if_pos k2] at e'; cases e';refine⟨_,X,?_⟩;simp (maxSteps:=9999999) +contextual only[exa,rA,rB,rC,rD,rE,rF,rG,rH,rI,U,hz,k1,k2];rfl
   rw[if_neg k2] at e';by_cases k3:t.kind=3
   ·rw[if_pos k3] at e'; cases e';obtain⟨h1,t1,c1,_,X1,K1,G1⟩:=qBC (qKZ V m v.s (by have:=qG1 (qDa v.s V); omega)) rfl rfl X;refine⟨h1,X1,?_⟩;have C1:=fun(β:Type) (k:TVal→Heap→Option β) (d:Nat)=>c1 (β:=β) d k
    simp (maxSteps:=9999999) +contextual only[exa,rA,rB,rC,rD,rE,rF,rG,rH,rI,U,hz,k1,k2,k3,C1]
   rw[if_neg k3] at e';have K45:t.kind=4∨t.kind=5→∃ h',RsAt h' 0 q.2 m ((rsLeaves V m).length+1)∧lim tab.get S 73 ((rsLeaves V m).length+1) 1 [kP (.im 0),r4,r5,kI t.kind,kB true] (((Heap.mk (rsC V m) .nil).own 4 1 (.cells (pcells t0.row) 0)).own 5 1 (.cells (pcells v.row) 0) |>.own 4 1 (.cells (pcells t.row) 0))=vfin true ((rsLeaves V m).length+1) [.c (.p (.int .u64 q.1))] h':=by
    intro h45;rw[if_pos h45] at e';obtain⟨p,e1,e2⟩:=Option.map_eq_some_iff.1 e';subst e2;have hb2:p.2.W.length+p.1.length≤1073741824:=by have:(layM p.1 p.2).2.W.length=p.2.W.length+p.1.length:=List.length_append; omega
    obtain⟨h1,t1,c1,_,X1,K1,G1⟩:=qBC (qPI PC t ht v sv V p e1 hb2 bt) (by simp only[exP]) rfl X;refine⟨h1,X1,?_⟩;have C1:=fun(β:Type) (k:TVal→Heap→Option β) (d:Nat)=>c1 (β:=β) d k
    rw[w73_1,b73_1];simp (maxSteps:=9999999) +contextual only[exa,rA,rB,rC,rD,rE,rF,rG,rH,rI,C1]
   by_cases k4:t.kind=4
   ·obtain⟨h1,X1,c1⟩:=K45 (.inl k4);refine⟨h1,X1,?_⟩;rw[k4] at c1;simp (maxSteps:=9999999) +contextual only[exa,rA,rB,rC,rD,rE,rF,rG,rH,rI,U,hz,k1,k2,k3,k4];exact c1
   by_cases k5:t.kind=5
   ·obtain⟨h1,X1,c1⟩:=K45 (.inr k5);refine⟨h1,X1,?_⟩;rw[k5] at c1;simp (maxSteps:=9999999) +contextual only[exa,rA,rB,rC,rD,rE,rF,rG,rH,rI,U,hz,k1,k2,k3,k4,k5];exact c1
   rw[if_neg (by omega)] at e';by_cases k6:t.kind=6
   ·rw[if_pos k6] at e';by_cases hv:v.kind=0
    ·rw[if_pos hv] at e'; cases e';refine⟨_,X,?_⟩;simp (maxSteps:=9999999) +contextual only[exa,rA,rB,rC,rD,rE,rF,rG,rH,rI,U,hz,k1,k2,k3,k4,k5,k6,hv,w73_1,b73_1]
    ·rw[if_neg hv] at e';obtain⟨p,e1,e2⟩:=Option.map_eq_some_iff.1 e';subst e2;have hb2:p.2.W.length+1≤1073741824:=by have:(layM [p.1] p.2).2.W.length=p.2.W.length+1:=List.length_append; simp only at bw; omega
     obtain⟨h1,t1,c1,c1t,X1,K1,G1⟩:=qBC (PC (kidT t 0) v V p (qBT ht 0) sv e1 (by omega) bt) (by simp only[exP]) rfl X;obtain⟨h2,t2,c2,c2t,X2,K2,G2⟩:=qBC (qHW p.2 m [p.1] (.slice 1 true [[.int .u64 p.1]]) (.inr ⟨_,rfl⟩) hb2) rfl rfl X1;refine⟨h2,X2,?_⟩;have W1:IntKind.u64.wrap ((layM [p.1] p.2).1+1)=(layM [p.1] p.2).1+1:=qAz _ (by unfold layM; simp; omega) (by unfold layM; simp; omega);have Y0:∀ (β:Type) (kt:TVal→Heap→AI.Touch→Option β) (h:Heap) (d:Nat),vtouch Om (.call (.k (.v (.c (.func 137 [])))) [.k (kA t.row),.k (kI 0)]) h d kt=kt (kA (kidT t 0).row) h noTouch:=fun β kt h d=>qFS t 0 (by omega)
     have C1:∀ (β:Type) (kt:TVal→Heap→AI.Touch→Option β) (d:Nat),vtouch Om (.call (.k (.v (.c (.func 73 [])))) [.k (kP (.im 0)),.k (kA (kidT t 0).row),.k (kA v.row)]) _ d kt=kt (kW p.1) h1 t1:=fun β kt d=>c1t d kt
     have C2:∀ (β:Type) (kt:TVal→Heap→AI.Touch→Option β) (d:Nat),vtouch Om (.call (.k (.v (.c (.func 74 [])))) [.k (kP (.im 0)),.k (kSl 1 true [[.int .u64 p.1]])]) h1 d kt=kt (kW (layM [p.1] p.2).1) h2 t2:=fun β kt d=>c2t d kt
     simp (maxSteps:=9999999) +contextual only[exa,rA,rB,rC,rD,rE,rF,rG,rH,rI,exW,exY,U,hz,k1,k2,k3,k4,k5,k6,hv,w73_1,b73_1,Y0,C1,C2,qAo,W1]
   rw[if_neg k6] at e';by_cases k7:t.kind=7
   ·rw[if_pos k7] at e';obtain⟨p,e1,e2⟩:=Option.map_eq_some_iff.1 e';subst e2;have hb2:p.2.W.length+p.1.length≤1073741824:=by have:(layM p.1 p.2).2.W.length=p.2.W.length+p.1.length:=List.length_append; omega
    obtain⟨h1,X1,c1⟩:=qMZ PC t ht v sv ((rsLeaves V m).length+1) p hb2 bt 0 [] (.p .nilslice) _ V (Nat.le_refl _) X (by simp only[exa,rA,rB,rC,rD,rE,rF,rG,rH,rI]) (by simp only[exa,rA,rB,rC,rD,rE,rF,rG,rH,rI]) (.inl ⟨rfl,rfl⟩) e1;refine⟨h1,X1,?_⟩;simp (maxSteps:=9999999) +contextual only[exa,rA,rB,rC,rD,rE,rF,rG,rH,rI,U,hz,k1,k2,k3,k4,k5,k6,k7,w73_1,b73_1];exact c1
   rw[if_neg k7,if_neg h8] at e';cases e';refine⟨_,X,?_⟩;simp (maxSteps:=9999999) +contextual only[exa,rA,rB,rC,rD,rE,rF,rG,rH,rI,U,hz,k1,k2,k3,k4,k5,k6,k7,h8,w73_1,b73_1]
  obtain⟨h',X,e⟩:=key;exact qGO 73 (by decide) _ V _ m _ (fun _=>trivial) hO h' X true e
abbrev V0:RS:=⟨[],[]⟩
theorem qJE(s:ST)(hs:s.types = .nil):Om 72 [kA s.row] []=some (kP (.im 0),rsC V0 []):=by
 refine(qAE rfl).trans ?_;show lim tab.get S 72 0 0 [kA s.row] h0=_;rw[w72_0,b72_0];have h1:(s.types.len:Int)=0:=by rw[hs]; rfl
 simp (maxSteps:=9999999) +contextual only[exa,rA,rB,rC,rD,rE,rF,rG,rH,rI,h1];rw[w72_1,b72_1];simp (maxSteps:=9999999) +contextual only[exa,rA,rB,rC,rD,rE,rF,rG,rH,rI];have A:At ((((h0.own 1 1 (AObj.cells (pcells s.row) 0)).own 6 1 (AObj.map [] 0)).own 7 1 (AObj.map [] 0)).own 9 1 (AObj.cells [Cell.p PVal.nilslice,Cell.p PVal.nilslice,Cell.mref (Ref.own 6 1),Cell.mref (Ref.own 7 1)] 0)) [.own 9 1,.own 6 1,.own 7 1] (rsC V0 []):=by
  refine⟨by decide,rfl,fun i r o e1 e2 => ?_⟩
  match i,e1,e2 with
  |0,e1,e2=>cases e1; cases e2; rfl
  |1,e1,e2=>cases e1; cases e2; rfl
  |2,e1,e2=>cases e1; cases e2; rfl
 exact qIK A (qAQ V0 []) rfl false [.c (.ptr (.own 9 1) 0)] _ rfl rfl
def blkO(t:TT)(w:Int):AObj := .cells (.ptr (.im 1) 0::(pcells t.row++[.p (.int .u64 w)])) 0
abbrev rowsC(V:RS)(m:TyM)(t:TT)(w:Int):List AObj:=blkO t w::shO (rsRoot V)::rsLeaves V m
theorem qNL(t:TT)(w:Int):(blkO t w).refs=[.im 1]:=by
 show [Ref.im 1]++(pcells t.row++[Cell.p (.int .u64 w)]).flatMap Cell.refs=[.im 1];rw[List.flatMap_append,qCp]; rfl
theorem qB7(V:RS)(m:TyM)(t:TT)(w:Int):Rooted (rowsC V m t w):=qG7 (qAa V m) (qNL t w) (fun e=>by cases e)
theorem qOR(t:TT)(w:Int)(σ:Ref→Option Ref)(r:Ref)(h:σ (.im 1)=some r):(blkO t w).ren σ = .cells (.ptr r 0::(pcells t.row++[.p (.int .u64 w)])) 0:=by
 unfold blkO;simp only[AObj.ren,List.map_cons,Cell.ren,h]
 congr 2
 have:∀ l:List PVal,(pcells l).map (Cell.ren σ)=pcells l:=fun l=>by
  induction l with
  |nil=>rfl
  |cons a l ih=>exact congrArg _ ih
 rw[List.map_append,this]; rfl
theorem qOD(s:ST)(hs:s.types = .nil)(t:TT)(ht:wfT t)(v:VT)(sv:smV v)(n:Nat)(r:List UInt8×Bool)(he:fitF [] n t v=some r)(hr:r.2=true)(n':Nat)(q:Int×RS)(hq:putF [] n' t v V0=some q)(bw:q.2.W.length+1≤1073741824)(bt:q.2.T.length<1073741824) :
  Om 23 [kA s.row,kA t.row,kA v.row] []=some (.tup [.c (.ptr (.im 0) 0),.c (.p (.str [])),.c (.p (.int .i64 0))],rowsC (layM [q.1] q.2).2 [] t q.1):=by
 refine(qAE rfl).trans ?_;show lim tab.get S 23 0 0 [kA s.row,kA t.row,kA v.row] h0=_;rw[w23_0,b23_0];have hl0:s.types.list=[]:=by rw[hs]; rfl
 have F17:=qQY s t v n (by unfold Sl.len; rw[hl0]; decide) (fun i j a b _ h=>by rw[hl0] at h; simp at h) r (by rw[hl0]; exact he);rw[if_pos hr,if_pos hr] at F17;have U17:=fun(β:Type) (k:TVal→Heap→Option β) (h:Heap) (d:Nat)=>qAH (k:=k) (h:=h) (d:=d) 17 [kA s.row,kA t.row,kA v.row] _ (by simp only[exP]) F17 rfl
 generalize hH:(((h0.own 3 1 (.cells (pcells s.row) 0)).own 4 1 (.cells (pcells t.row) 0)).own 5 1 (.cells (pcells v.row) 0))=H;have a3:H.get (.own 3 1)=some (.cells (pcells s.row) 0):=by rw[← hH]; simp only[exa,rA,rB,rC,rD,rE,rF,rG,rH,rI]
 have a4:H.get (.own 4 1)=some (.cells (pcells t.row) 0):=by rw[← hH]; simp only[exa,rA,rB,rC,rD,rE,rF,rG,rH,rI]
 have a5:H.get (.own 5 1)=some (.cells (pcells v.row) 0):=by rw[← hH]; simp only[exa,rA,rB,rC,rD,rE,rF,rG,rH,rI]
 have hi:H.ims.length=0:=by rw[← hH]; rfl
 have hg:H.gen 38=0:=by rw[← hH]; rfl
 obtain⟨h1,c1,A1,K1,G1,L1⟩:=qGi (az:=[kA s.row]) (by simp only[exP]) (qJE s hs) (qAQ V0 []).1 H;rw[hi] at c1 A1;have c1':∀ (β:Type) (k:TVal→Heap→Option β) (d:Nat),vcall Om (.v (.c (.func 72 []))) [kA s.row] H d k=k (kP (.im 0)) h1:=fun β k d=>c1 d k
 have X1:RsAt h1 0 V0 [] 0:=⟨⟨_,A1,rfl,fun x hx=>by obtain⟨i,_,rfl⟩:=List.mem_map.1 hx; exact⟨_,rfl⟩⟩,fun _ j _ hj=>absurd hj (by omega),Nat.zero_le _⟩;obtain⟨h2,t2,c2,_,X2,K2,G2⟩:=qBC (qN0 [] (by decide) (fun e he=>by cases he) n' t v V0 q ht sv hq (by omega) bt) (by simp only[exP]) rfl X1;have c2':=fun(β:Type) (k:TVal→Heap→Option β) (d:Nat)=>c2 (β:=β) d k
 obtain⟨h3,t3,c3,_,X3,K3,G3⟩:=qBC (qHW q.2 [] [q.1] (.slice 1 true [[.int .u64 q.1]]) (.inr ⟨_,rfl⟩) bw) rfl rfl X2;have c3':=fun(β:Type) (k:TVal→Heap→Option β) (d:Nat)=>c3 (β:=β) d k
 have b4:=K3 4 1 _ (K2 4 1 _ (K1 _ _ a4));have g3:h3.gen 38=0:=by rw[G3,G2,G1,hg]
 have B0:∀ (β:Type) (O:Oracle) (h:Heap) (d:Nat) (k:TVal→Heap→Option β),vop O (.bslice 1 1 [.p (.int .u64 0)] [(0,.k (kW q.1))] false) h d k=k (kSl 1 true [[.int .u64 q.1]]) h:=fun β O h d k=>by
  rw[qAt,qAo _ _ rfl]
 have a4':=K1 _ _ a4;have a5':=K1 _ _ a5;simp (maxSteps:=9999999) +contextual only[exa,rA,rB,rC,rD,rE,rF,rG,rH,rI,U17,hH,a3,a4,a5,c1',a4',a5',c2',B0,c3',b4,g3];have e5:put1 (pcells (t.row++[PVal.int .u64 0])) 4 [Cell.p (.int .u64 q.1)]=pcells t.row++[Cell.p (.int .u64 q.1)]:=by rw[TT.row_eq]; rfl
 have e6:(t.row++[PVal.int IntKind.u64 0]).length=5:=by rw[List.length_append,TT.row_len]; rfl
 rw[e5,e6];obtain⟨ρ,A3,e0,him⟩:=(X3.own 38 1 (.cells (.ptr (.im 0) 0::(pcells t.row++[Cell.p (.int .u64 q.1)])) 0)).at';have hnm:Ref.own 38 1∉ρ:=fun hm=>by obtain⟨i,e⟩:=him _ hm; cases e
 have e01:outR (Ref.own 38 1::ρ) (.im 1)=some (.im 0):=e0;have A4:=qNm (r := .own 38 1) (blk:=blkO t q.1) (qAa _ _) A3 hnm (by rw[qOR t q.1 _ _ e01]; exact Heap.own_get _ _ _ _ (by decide) (fun e=>by cases e));refine(qIK A4 (qB7 _ _ t q.1) rfl false [.c (.ptr (.own 38 1) 0),.c (.p (.str [])),.c (.p (.int .i64 0))] _ rfl rfl).trans ?_;have hin:inn (Ref.own 38 1::ρ) (.own 38 1)=some (.im 0):=qA8 A4.nodup rfl;show some (TVal.tup [.c (match inn (Ref.own 38 1::ρ) (.own 38 1) with|some s => .ptr s 0|none => .junk),_,_],_)=_;rw[hin]; rfl
theorem qKK(r:List PVal):(pcells r).map Cell.strip=pcells r:=by unfold pcells; rw[List.map_map]; rfl
theorem qQB(r:List PVal):compPT (.agg (pcells r))=true:=by show(pcells r).all isPT=true; unfold pcells; rw[List.all_map,List.all_eq_true]; intro x _; rfl
theorem qL1(V:RS)(m:TyM)(F:Fine V m)(n:Nat)(t:TT)(ht:wfT t)(w:Int)(h0:0≤w)(h1:w<18446744073709551616)(x:VT)(e:getF m V n t w=some x) :
  Om 25 [kP (.im 0)] (rowsC V m t w)=some (kA x.row,rowsC V m t w):=by
 have hO:Om 25 [kP (.im 0)] (rowsC V m t w)=lim tab.get S 25 (rowsC V m t w).length 0 [kP (.im 0)] ⟨rowsC V m t w,.nil⟩:=qAE rfl;rw[hO,w25_0,b25_0];have K:=(qB7 V m t w).1;have H0:=HI.start K;have g0:(Heap.mk (rowsC V m t w) .nil).get (.im 0)=some (blkO t w):=Heap.get_im_of rfl (fun e=>by cases e);have A0:=qFK (HI.own H0 2 1 (.cells zc 0)) K;rw[show(rowsC V m t w).length=((rsLeaves V m).length+1)+1 from rfl,qMx] at A0;have A1:=qNO (qAa V m) A0;have U:=fun(β:Type) (k:TVal→Heap→Option β) (d:Nat)=>(qC9 A1 (qAQ V m) (fun r hr=>by obtain⟨i,_,rfl⟩:=List.mem_map.1 hr; exact⟨_,rfl⟩) (r := .im 1) (by rw[List.getElem?_map,List.getElem?_range (Nat.succ_pos _)]; rfl) 75 [kA t.row,kW w] (by simp only[exP]) (kA x.row) (by simp only[exP]) (qIS F n t w x ht h0 h1 e)).1 (β:=β) d k
 have P1:(t.row++[PVal.int .u64 w]).length=5:=by rw[List.length_append,TT.row_len]; rfl
 have P2:(pcells (t.row++[PVal.int .u64 w])).take 4=pcells t.row:=by rw[TT.row_eq]; rfl
 have P3:(t.row++[PVal.int .u64 w])[4]?=some (.int .u64 w):=by rw[TT.row_eq]; rfl
 have P4:(pcells t.row).length=4:=by rw[qAp,TT.row_len]
 simp (maxSteps:=9999999) +contextual only[exa,rA,rB,rC,rD,rE,rF,rG,rH,rI,g0,blkO,P2,P3,P4,Option.map_some,U,qAl _ (VT.row_len x)]
 exact qPc K ((HI.own H0 2 1 _).own 2 1 _) true [.agg (pcells x.row)] (kA x.row) (by simp only[exP]) (by
  have:=qCN ((Heap.mk (rowsC V m t w) .nil).own 2 1 (.cells zc 0) |>.own 2 1 (.cells (pcells x.row) 0)) (.agg (pcells x.row)) (qQB x.row);show(freezeC _ (.agg (pcells x.row))).map (fun y=>(TVal.v y.1,y.2))=_;rw[this.1];show some (TVal.v (.agg ((pcells x.row).map Cell.strip)),([]:List Ref))=_
  rw[qKK])
theorem qOo:Om 22 [] []=some (kB true,[]):=(qAE rfl).trans (qC2 blks_ok 500 22 0 0 _ _ _ (by kernel_rfl))
def optT(k:Int):TT := .mk 6 [] .nil (.mk true [.mk k [] .nil .nil])
def recT:TT := .mk 7 [] (.mk false [[110],[115],[116]]) (.mk false [optT 2,optT 3,optT 1])
def mainT:TT := .mk 4 [] .nil (.mk true [recT])
def schS:ST:=⟨mainT,.nil,.nil⟩
theorem qOm:Om 18 [kS z7699737d] []=some (.tup [.agg (pcells schS.row),.c (.p (.int .i64 0))],[]):=(qAE rfl).trans (qC2 blks_ok 3000 18 0 0 _ _ _ (by kernel_rfl))
open Go Go.AI
def rgF(v:VT)(key:List UInt8)(i:Nat):Option VT:=if v.kind=5 then (idxM key (v.keys.list.drop i)).bind fun j=>(v.l.list.drop i)[j]? else none
theorem qNA(v:VT)(key:List UInt8):rgF v key 0=getM v key:=by unfold rgF getM; rw[List.drop_zero,List.drop_zero]
theorem qDn(h:Heap)(a4:h.get (.own 4 1)=some (.cells [.p (.int .i64 0),.p (.bool false),.p (.int .i64 0),.p (.str []),.p .nilslice,.p .nilslice] 0)):lim tab.get S 39 0 2 [.v (.c (.ptr (.own 4 1) 0))] h=some (ansG none,[]):=by
 rw[w39_2,b39_2];simp (maxSteps:=9999999) +contextual only[exa,rA,rB,rC,rD,rE,rF,rG,rH,rI,a4];rfl
theorem qLV(v:VT)(key:List UInt8)(h:Heap)(a2:h.get (.own 2 1)=some (.cells (pcells v.row) 0))(a4:h.get (.own 4 1)=some (.cells [.p (.int .i64 0),.p (.bool false),.p (.int .i64 0),.p (.str []),.p .nilslice,.p .nilslice] 0))(hb:v.keys.len≤1000) :
  ∀ i:Nat,lim tab.get S 39 0 1 [kS key,s2,.v (.c (.ptr (.own 4 1) 0)),kI (i:Int)] h=some (ansG (rgF v key i),[]):=by
 refine qAL v.keys.len (fun i hi => ?_) (fun i hi ih => ?_) <;> rw[w39_1,b39_1]
 ·have h1:¬ (i:Int)<(v.keys.len:Int):=by omega
  have:rgF v key i=none:=by unfold rgF; rw[qAX hi]; split <;> rfl
  rw[this];simp (maxSteps:=9999999) +contextual only[exa,rA,rB,rC,rD,rE,rF,rG,rH,rI,a2,a4,h1];exact qDn h a4
 ·have h1:(i:Int)<(v.keys.len:Int):=by omega
  obtain⟨x,hx,e1,_⟩:=qAO hi;by_cases hl:i<v.l.len
  ·have hl':(i:Int)<(v.l.len:Int):=by omega
   obtain⟨y,hy,e2,_⟩:=qAO (l:=v.l.list) (i:=i) hl;by_cases hk:v.kind=5
   ·by_cases hxy:x=key
    ·have:rgF v key i=some y:=by unfold rgF; rw[if_pos hk,e1,e2,idxM,if_pos hxy.symm]; rfl
     rw[this];simp (maxSteps:=9999999) +contextual only[exa,rA,rB,rC,rD,rE,rF,rG,rH,rI,a2,a4,h1,hl',hk,hx,hy,hxy,qAl _ (VT.row_len y)];rfl
    ·have:rgF v key i=rgF v key (i+1):=by
      unfold rgF;rw[if_pos hk,if_pos hk,e1,e2,idxM,if_neg (fun e=>hxy e.symm)];cases idxM key (v.keys.list.drop (i+1)) <;> rfl
     rw[this];simp (maxSteps:=9999999) +contextual only[exa,rA,rB,rC,rD,rE,rF,rG,rH,rI,a2,a4,h1,hl',hk,hx,hy,hxy,qAS i (by omega),ih]
   ·have:rgF v key i=none:=by unfold rgF; rw[if_neg hk]
    rw[this];simp (maxSteps:=9999999) +contextual only[exa,rA,rB,rC,rD,rE,rF,rG,rH,rI,a2,a4,h1,hl',hk];exact qDn h a4
  ·have hl':¬ (i:Int)<(v.l.len:Int):=by omega
   have:rgF v key i=none:=by
    unfold rgF;rw[qAX (l:=v.l.list) (i:=i) (by unfold Sl.len at hl; omega)];split
    ·cases idxM key (v.keys.list.drop i) <;> rfl
    ·rfl
   rw[this];simp (maxSteps:=9999999) +contextual only[exa,rA,rB,rC,rD,rE,rF,rG,rH,rI,a2,a4,h1,hl'];exact qDn h a4
theorem qOX(v:VT)(key:List UInt8)(hb:v.keys.len≤1000):Om 39 [kA v.row,kS key] []=some (ansG (getM v key),[]):=by
 refine(qAE rfl).trans ?_;show lim tab.get S 39 0 0 [kA v.row,kS key] h0=_;rw[w39_0,b39_0];simp (maxSteps:=9999999) +contextual only[exa,rA,rB,rC,rD,rE,rF,rG,rH,rI];rw[← qNA];exact qLV v key _ rfl rfl hb 0
abbrev fitOK(x:VT):TVal := .tup [.agg (pcells x.row),.c (.p (.str [])),.c (.p (.bool true))]
def OKf(n:Nat)(t:TT)(v:VT):Prop:=(∃ r,fitF [] n t v=some r∧r.2=true)∨(t.kind=6∧v = .nul)
def RF(s:ST)(n:Nat):Prop:=∀ (t:TT) (v x:VT),wfT t→smV v→OKf n t v→fullF [] (n+1) t v=some x→Om 76 [kA s.row,kA t.row,kA v.row] []=some (fitOK x,[])
structure EH (s:ST) (t:TT) (v:VT) (cs:List Cell) (h:Heap):Prop where
 a3:h.get (.own 3 1)=some (.cells (pcells s.row) 0)
 a4:h.get (.own 4 1)=some (.cells (pcells t.row) 0)
 a5:h.get (.own 5 1)=some (.cells (pcells v.row) 0)
 a6:h.get (.own 6 1)=some (.cells zc 0)
 a9:h.get (.own 9 1)=some (.cells cs 0)
abbrev r3:TVal := .v (.c (.ptr (.own 3 1) 0))
theorem qGa(e g d:Nat):AI.Touch.apart ⟨[(Ref.own e g).site],[],false⟩ ⟨[],[.own d],false⟩ = !decide (e=d):=by
 unfold AI.Touch.apart disj;simp[Ref.site,eq_comm]
section
variable (s:ST) (n:Nat) (R:RF s n) (t:TT) (ht:wfT t) (v:VT) (sv:smV v)
include R ht sv
theorem qJt(kt:TT)(hk:t.kids.list[0]?=some kt)(hok:∀ x∈v.l.list,OKf n kt x) :
  ∀ (i:Nat) (acc ys:List VT) (c':Cell) (h:Heap),acc.length≤i→EH s t v [.p (.int .i64 v.kind),.p (.bool false),.p (.int .i64 0),.p (.str []),.p (slP 1 sRow v.keys),c'] h→GS [90] 6 c' (acc.map VT.row) h→(acc=[]→c' = .p .nilslice)→(acc≠[]→∃ q,c' = .tsl 6 (acc.map VT.row) q) →
   fullL (fullF [] (n+1)) t (v.l.list.drop i)=some ys →
   lim tab.get S 143 0 1 [r3,r4,r5,r6,r9,kI (i:Int)] h=some (fitOK (.mk v.kind false 0 [] v.keys (grown (acc++ys))),[]):=by
 have hvl:=((qAW v).1 sv).2.2.1;have hkt:kidT t 0=kt:=by unfold kidT; rw[hk]; rfl
 refine qAL v.l.len (fun i hi acc ys c' h ha H G c0 c1 e => ?_) (fun i hi ih acc ys c' h ha H G c0 c1 e => ?_) <;> rw[w143_1,b143_1]
 ·have h1:¬ (i:Int)<(v.l.len:Int):=by omega
  rw[qAX hi] at e;cases e;have e4:c'.strip = .p (slP 6 VT.row (grown acc)):=by
   cases acc with
   |nil=>rw[c0 rfl]; rfl
   |cons a l=>obtain⟨q,e⟩:=c1 (by simp); rw[e]; rfl
  have hz:∀ a b c d e f:Cell,put1 zc 0 [a,b,c,d,e,f]=[a,b,c,d,e,f]:=fun _ _ _ _ _ _=>rfl
  simp (maxSteps:=9999999) +contextual only[exa,rA,rB,rC,rD,rE,rF,rG,rH,rI,exW,exY,h1,H.a5,H.a6,H.a9,hz,w143_2,b143_2];rw[qHR _ (by simp only[List.all_cons,List.all_nil,Bool.and_true]; show((_&&_)&&_)=true; simp only[compPT,List.all_cons,List.all_nil,G.pt,Bool.and_true]; rfl)];rw[List.append_nil];show some (TVal.tup [.agg [_,_,_,_,_,c'.strip],_,_],_)=_;rw[e4];unfold fitOK;rw[VT.row_eq]; rfl
 ·have h1:(i:Int)<(v.l.len:Int):=by omega
  obtain⟨x,hs,h2,hx⟩:=qAO hi;rw[h2] at e;unfold fullL at e;obtain⟨y,e1,e2⟩:=Option.bind_eq_some_iff.1 e;obtain⟨zs,e3,e4⟩:=Option.map_eq_some_iff.1 e2;subst e4;rw[hkt] at e1;have wk:wfT kt:=hkt▸qBT ht 0;have C1:=R kt x y wk (((qAW v).1 sv).2.2.2 x hx) (hok x hx) e1;have Y1:∀ (β:Type) (kt':TVal→Heap→AI.Touch→Option β) (h:Heap) (d:Nat),vtouch Om (.call (.k (.v (.c (.func 76 [])))) [.k (kA s.row),.k (kA kt.row),.k (kA x.row)]) h d kt'=kt' (fitOK y) h noTouch:=fun β kt' h d=>qBM 76 [kA s.row,kA kt.row,kA x.row] _ (by simp only[exP]) C1 (by simp only[exP])
  have hz:put1 zc 0 (pcells y.row)=pcells y.row:=qAl _ (VT.row_len y);simp (maxSteps:=9999999) +contextual only[exa,rA,rB,rC,rD,rE,rF,rG,rH,rI,exW,exY,h1,hs,hk,H.a3,H.a4,H.a5,H.a6,H.a9,Y1,qGa,hz,qBt,qAk];generalize hh1:((h.own 11 (h.gen 11+1) (.cells zc 0)).own 11 (h.gen 11+1) (.cells (pcells y.row) 0))=h1';have H1:EH s t v [.p (.int .i64 v.kind),.p (.bool false),.p (.int .i64 0),.p (.str []),.p (slP 1 sRow v.keys),c'] h1':=by
   subst hh1; exact⟨by simp only[exa,rA,rB,rC,rD,rE,rF,rG,rH,rI,H.a3],by simp only[exa,rA,rB,rC,rD,rE,rF,rG,rH,rI,H.a4],by simp only[exa,rA,rB,rC,rD,rE,rF,rG,rH,rI,H.a5],by simp only[exa,rA,rB,rC,rD,rE,rF,rG,rH,rI,H.a6],by simp only[exa,rA,rB,rC,rD,rE,rF,rG,rH,rI,H.a9]⟩
  have GB:GS [90] 6 c' (acc.map VT.row) h1':=by subst hh1; exact(G.own _ _ (by decide)).own _ _ (by decide)
  obtain⟨c2,h',t',G',e',T',K',I',X'⟩:=qBO (d:=90) (by':=88) (new:=[y.row]) (b := .slice 6 true [y.row]) (.inr ⟨_,rfl⟩) GB (by decide) (fun r hr=>by simp at hr; rw[hr]; exact VT.row_len _) (by simp <;> omega) (by decide);obtain⟨q,eq⟩:=X' (.inl (by simp));have e5:∀ (β:Type) (O:Oracle) (k:TVal→Heap→Option β),vop O (.append 6 88 false (.k (.v (.c c'))) (.k (kSl 6 true [y.row]))) h1' 90 k=k (.v (.c c2)) h':=fun β O k=>by
   rw[qAt]; exact e' β O _
  have H':EH s t v [.p (.int .i64 v.kind),.p (.bool false),.p (.int .i64 0),.p (.str []),.p (slP 1 sRow v.keys),c'] h':=⟨K' 3 1 _ (by decide) H1.a3,K' 4 1 _ (by decide) H1.a4,K' 5 1 _ (by decide) H1.a5,K' 6 1 _ (by decide) H1.a6,K' 9 1 _ (by decide) H1.a9⟩;have P1:∀ a b c d f g:Cell,put1 [a,b,c,d,f,g] 5 [c2]=[a,b,c,d,f,c2]:=fun _ _ _ _ _ _=>rfl
  simp (maxSteps:=9999999) +contextual only[exa,rA,rB,rC,rD,rE,rF,rG,rH,rI,e5,H'.a9,P1,qAS i (by omega)];have G2:GS [90] 6 c2 ((acc++[y]).map VT.row) h':=by rw[List.map_append]; exact G'
  have:=ih (acc++[y]) zs c2 (h'.own 9 1 (.cells [.p (.int .i64 v.kind),.p (.bool false),.p (.int .i64 0),.p (.str []),.p (slP 1 sRow v.keys),c2] 0)) (by simp; omega) ⟨by simp only[exa,rA,rB,rC,rD,rE,rF,rG,rH,rI,H'.a3],by simp only[exa,rA,rB,rC,rD,rE,rF,rG,rH,rI,H'.a4],by simp only[exa,rA,rB,rC,rD,rE,rF,rG,rH,rI,H'.a5],by simp only[exa,rA,rB,rC,rD,rE,rF,rG,rH,rI,H'.a6],qBW _ 9 1 _ 0 (by decide)⟩ (G2.own 1 _ (by decide)) (fun e=>absurd e (by simp)) (fun _=>⟨q,by rw[eq,List.map_append]; rfl⟩) e3;rw[List.append_assoc] at this;exact this
theorem qOr(kt:TT)(hk:t.kids.list[0]?=some kt)(hok:∀ x∈v.l.list,OKf n kt x)(hkd:t.kind=4∨t.kind=5)(hv:v.kind=t.kind)(ys:List VT)(e:fullL (fullF [] (n+1)) t v.l.list=some ys) :
  Om 143 [kA s.row,kA t.row,kA v.row] []=some (fitOK (.mk v.kind false 0 [] v.keys (grown ys)),[]):=by
 refine(qAE rfl).trans ?_;show lim tab.get S 143 0 0 [kA s.row,kA t.row,kA v.row] h0=_;rw[w143_0,b143_0];have hz:∀ a b c d e f:Cell,put1 zc 0 [a,b,c,d,e,f]=[a,b,c,d,e,f]:=fun _ _ _ _ _ _=>rfl
 have key:=qJt s n R t ht v sv kt hk hok 0 [] ys (.p .nilslice) (((((h0.own 3 1 (.cells (pcells s.row) 0)).own 4 1 (.cells (pcells t.row) 0)).own 5 1 (.cells (pcells v.row) 0)).own 6 1 (.cells zc 0)).own 9 1 (.cells zc 0) |>.own 9 1 (.cells [.p (.int .i64 v.kind),.p (.bool false),.p (.int .i64 0),.p (.str []),.p (slP 1 sRow v.keys),.p .nilslice] 0)) (Nat.le_refl _)
  ⟨by simp only[exa,rA,rB,rC,rD,rE,rF,rG,rH,rI],by simp only[exa,rA,rB,rC,rD,rE,rF,rG,rH,rI],by simp only[exa,rA,rB,rC,rD,rE,rF,rG,rH,rI],by simp only[exa,rA,rB,rC,rD,rE,rF,rG,rH,rI],by simp only[exa,rA,rB,rC,rD,rE,rF,rG,rH,rI]⟩ (.inl ⟨rfl,rfl⟩) (fun _=>rfl) (fun e=>absurd rfl e) e
 rcases hkd with h4|h5
 ·rw[h4] at hv;rw[hv] at key ⊢;simp (maxSteps:=9999999) +contextual only[exa,rA,rB,rC,rD,rE,rF,rG,rH,rI,exW,h4,hv,hz];exact key
 ·rw[h5] at hv;rw[hv] at key ⊢;simp (maxSteps:=9999999) +contextual only[exa,rA,rB,rC,rD,rE,rF,rG,rH,rI,exW,h5,hv,hz];exact key
end
theorem qQj(s:ST)(t:TT)(h:t.kind=6):openM s t=t:=by
 unfold openM openN;rw[if_neg (by omega)]
section
variable (s:ST) (hs:s.types = .nil) (n:Nat) (R:RF s n) (t:TT) (ht:wfT t) (v:VT) (sv:smV v)
include ht sv
theorem qNQ(h:Heap)(a4:h.get (.own 4 1)=some (.cells (pcells t.row) 0))(a5:h.get (.own 5 1)=some (.cells (pcells v.row) 0))(i:Nat)(key:List UInt8)(hk:v.keys.list[i]?=some key) :
  ∀ (k:Nat) (b:Bool),lim tab.get S 144 0 4 [r4,r5,r6,r9,kI (i:Int),kB b,kI (k:Int)] h=lim tab.get S 144 0 5 [r4,r5,r6,r9,kI (i:Int),kB (b||(t.names.list.drop k).any fun a=>decide (a=key))] h:=by
 have hnl:=(qAn ht).1;refine qAL t.names.len (fun k hi b => ?_) (fun k hi ih b => ?_)
 ·have h1:¬ (k:Int)<(t.names.len:Int):=by omega
  rw[w144_4,b144_4];simp (maxSteps:=9999999) +contextual only[exa,rA,rB,rC,rD,rE,rF,rG,rH,rI,h1,a4,qAX hi,List.any_nil,Bool.or_false]
 ·have h1:(k:Int)<(t.names.len:Int):=by omega
  obtain⟨a,hs,h2,hx⟩:=qAO hi;rw[w144_4,b144_4];have hb:(b||(t.names.list.drop k).any fun a=>decide (a=key))=((b||decide (a=key))||(t.names.list.drop (k+1)).any fun a=>decide (a=key)):=by
   rw[h2,List.any_cons,Bool.or_assoc]
  rw[hb];cases b
  ·simp (maxSteps:=9999999) +contextual only[exa,rA,rB,rC,rD,rE,rF,rG,rH,rI,exW,h1,a4,a5,hs,hk,Int.toNat_natCast,qAS k (by omega)];rw[ih]; try rfl
  ·simp (maxSteps:=9999999) +contextual only[exa,rA,rB,rC,rD,rE,rF,rG,rH,rI,exW,h1,a4,a5,hs,hk,qAS k (by omega)];rw[ih]; try rfl
theorem qO8(h:Heap)(cs:List Cell)(H:EH s t v cs h)(hc:cs.length=6)(hp:cs.all isPT=true)(hin:∀ key∈v.keys.list,(t.names.list.any fun a=>decide (a=key))=true) :
  ∀ i:Nat,lim tab.get S 144 0 3 [r4,r5,r6,r9,kI (i:Int)] h=some (.tup [.agg (cs.map Cell.strip),.c (.p (.str [])),.c (.p (.bool true))],[]):=by
 have hkl:=((qAW v).1 sv).2.1;have ht6:cs.take 6=cs:=List.take_of_length_le (by omega);have hz:put1 zc 0 cs=cs:=qBY _ _ hc;refine qAL v.keys.len (fun i hi => ?_) (fun i hi ih => ?_) <;> rw[w144_3,b144_3]
 ·have h1:¬ (i:Int)<(v.keys.len:Int):=by omega
  simp (maxSteps:=9999999) +contextual only[exa,rA,rB,rC,rD,rE,rF,rG,rH,rI,h1,H.a5,w144_7,b144_7,H.a6,H.a9,ht6,hz,hc];rw[qHR _ (by simp only[List.all_cons,List.all_nil,Bool.and_true]; show(cs.all isPT&&_)=true; rw[hp]; rfl)];rfl
 ·have h1:(i:Int)<(v.keys.len:Int):=by omega
  obtain⟨key,hs,h2,hx⟩:=qAO hi;have hany:=hin key hx;have I0:=qNQ t ht v sv h H.a4 H.a5 i key hs 0 false;rw[List.drop_zero,hany] at I0;simp (maxSteps:=9999999) +contextual only[exa,rA,rB,rC,rD,rE,rF,rG,rH,rI,h1,H.a5];refine I0.trans ?_;rw[w144_5,b144_5];simp (maxSteps:=9999999) +contextual only[exa,rA,rB,rC,rD,rE,rF,rG,rH,rI,Bool.or_true];rw[w144_6,b144_6];simp (maxSteps:=9999999) +contextual only[exa,rA,rB,rC,rD,rE,rF,rG,rH,rI,qAS i (by omega)];exact ih
include R hs
theorem qLn(hv5:v.kind=5)(hall:∀ (j:Nat) (a:List UInt8),t.names.list[j]?=some a→∃ kt,t.kids.list[j]?=some kt∧OKf n kt ((getM v a).getD .nul)∧(getM v a=none→kt.kind=6))
  (hin:∀ key∈v.keys.list,(t.names.list.any fun a=>decide (a=key))=true) :
  ∀ (i:Nat) (ka:List (List UInt8)) (acc ys:List VT) (c3 c':Cell) (h:Heap),ka.length≤i→acc.length≤i→EH s t v [.p (.int .i64 5),.p (.bool false),.p (.int .i64 0),.p (.str []),c3,c'] h →
   GS [92] 1 c3 (ka.map sRow) h→(ka=[]→c3 = .p .nilslice)→(ka≠[]→∃ q,c3 = .tsl 1 (ka.map sRow) q)→GS [98] 6 c' (acc.map VT.row) h→(acc=[]→c' = .p .nilslice)→(acc≠[]→∃ q,c' = .tsl 6 (acc.map VT.row) q) →
   fullN (fullF [] (n+1)) t v (t.names.list.drop i) i=some ys →
   lim tab.get S 144 0 1 [r3,r4,r5,r6,r9,kI (i:Int)] h=some (fitOK (.mk 5 false 0 [] (grown (ka++t.names.list.drop i)) (grown (acc++ys))),[]):=by
 have hnl:=(qAn ht).1;have hkb:=((qAW v).1 sv).2.1;refine qAL t.names.len (fun i hi ka acc ys c3 c' h hka ha H G3 k0 k1 G c0 c1 e => ?_) (fun i hi ih ka acc ys c3 c' h hka ha H G3 k0 k1 G c0 c1 e => ?_) <;> rw[w144_1,b144_1]
 ·have h1:¬ (i:Int)<(t.names.len:Int):=by omega
  rw[qAX hi] at e ⊢;cases e;simp (maxSteps:=9999999) +contextual only[exa,rA,rB,rC,rD,rE,rF,rG,rH,rI,h1,H.a4,w144_2,b144_2];refine(qO8 s t ht v sv h _ H rfl (by simp only[List.all_cons,List.all_nil,G.pt,G3.pt,Bool.and_true]; rfl) hin 0).trans ?_;have e3:c3.strip = .p (slP 1 sRow (grown (ka++[]))):=by
   cases ka with
   |nil=>rw[k0 rfl]; rfl
   |cons a l=>obtain⟨q,e⟩:=k1 (by simp); rw[e,List.append_nil]; rfl
  have e4:c'.strip = .p (slP 6 VT.row (grown (acc++[]))):=by
   cases acc with
   |nil=>rw[c0 rfl]; rfl
   |cons a l=>obtain⟨q,e⟩:=c1 (by simp); rw[e,List.append_nil]; rfl
  show some (TVal.tup [.agg [_,_,_,_,c3.strip,c'.strip],_,_],_)=_;rw[e3,e4];unfold fitOK;rw[VT.row_eq]; rfl
 ·have h1:(i:Int)<(t.names.len:Int):=by omega
  obtain⟨a,hsn,h2,hx⟩:=qAO hi;rw[h2] at e;unfold fullN at e;obtain⟨y,e1,e2⟩:=Option.bind_eq_some_iff.1 e;obtain⟨zs,e3,e4⟩:=Option.map_eq_some_iff.1 e2;subst e4;obtain⟨kt,hk,hok,h6⟩:=hall i a hsn;have hkt:kidT t i=kt:=by unfold kidT; rw[hk]; rfl
  rw[hkt] at e1;have wk:wfT kt:=hkt▸qBT ht i;have sx:smV ((getM v a).getD .nul):=by
   cases hg:getM v a with
   |none=>exact qLf
   |some x =>
    unfold getM at hg;rw[if_pos hv5] at hg;obtain⟨k,_,hk'⟩:=Option.bind_eq_some_iff.1 hg;exact((qAW v).1 sv).2.2.2 x (List.mem_of_getElem? hk')
  have C1:=R kt ((getM v a).getD .nul) y wk sx hok e1;have Y1:∀ (β:Type) (kt':TVal→Heap→AI.Touch→Option β) (h:Heap) (d:Nat),vtouch Om (.call (.k (.v (.c (.func 76 [])))) [.k (kA s.row),.k (kA kt.row),.k (kA ((getM v a).getD .nul).row)]) h d kt'=kt' (fitOK y) h noTouch:=fun β kt' h d=>qBM 76 [kA s.row,kA kt.row,kA ((getM v a).getD .nul).row] _ (by simp only[exP]) C1 (by simp only[exP])
  have Y0:∀ (β:Type) (kt':TVal→Heap→AI.Touch→Option β) (h:Heap) (d:Nat),vtouch Om (.call (.k (.v (.c (.func 39 [])))) [.k (kA v.row),.k (kS a)]) h d kt'=kt' (.tup [.agg (pcells ((getM v a).getD .nul).row),.c (.p (.bool (getM v a).isSome))]) h noTouch:=fun β kt' h d=>by
   have:=qBM (kt:=kt') (h:=h) (d:=d) 39 [kA v.row,kS a] _ (by simp only[exP]) (qOX v a hkb) (by cases getM v a <;> simp only[ansG,exP]);refine this.trans ?_;cases getM v a <;> rfl
  have U1:=fun(β:Type) (k:TVal→Heap→Option β) (h:Heap) (d:Nat)=>u111 (k:=k) (h:=h) (d:=d) s kt (by rw[hs]; decide)
  have hzx:put1 zc 0 (pcells ((getM v a).getD .nul).row)=pcells ((getM v a).getD .nul).row:=qAl _ (VT.row_len _);have hzy:put1 zc 0 (pcells y.row)=pcells y.row:=qAl _ (VT.row_len y);generalize hx0:(getM v a).getD .nul=x0 at C1 Y1 Y0 hzx;have GO:lim tab.get S 144 0 1 [r3,r4,r5,r6,r9,kI (i:Int)] h=some (fitOK (.mk 5 false 0 [] (grown (ka++t.names.list.drop i)) (grown (acc++(y::zs)))),[]):=by
   rw[w144_1,b144_1];cases hg:getM v a with
   |none =>
    have k6:=h6 hg;rw[hg] at Y0;rw[qQj s kt k6] at U1;simp (maxSteps:=9999999) +contextual only[exa,rA,rB,rC,rD,rE,rF,rG,rH,rI,exW,exY,h1,hsn,hk,k6,H.a3,H.a4,H.a5,H.a6,H.a9,Y0,Y1,U1,qGa,hzx,hzy,qBt,qAk,Option.isSome_none];generalize hh1:((((h.own 11 (h.gen 11+1) (.cells zc 0)).own 11 (h.gen 11+1) (.cells (pcells x0.row) 0)).own 13 (h.gen 13+1) (.cells zc 0)).own 13 (h.gen 13+1) (.cells (pcells y.row) 0))=hb;have HB:EH s t v [.p (.int .i64 5),.p (.bool false),.p (.int .i64 0),.p (.str []),c3,c'] hb:=by
     subst hh1; exact⟨by simp only[exa,rA,rB,rC,rD,rE,rF,rG,rH,rI,H.a3],by simp only[exa,rA,rB,rC,rD,rE,rF,rG,rH,rI,H.a4],by simp only[exa,rA,rB,rC,rD,rE,rF,rG,rH,rI,H.a5],by simp only[exa,rA,rB,rC,rD,rE,rF,rG,rH,rI,H.a6],by simp only[exa,rA,rB,rC,rD,rE,rF,rG,rH,rI,H.a9]⟩
    have b13:hb.get (.own 13 (h.gen 13+1))=some (.cells (pcells y.row) 0):=by subst hh1; simp only[exa,rA,rB,rC,rD,rE,rF,rG,rH,rI]
    have GB3:GS [92] 1 c3 (ka.map sRow) hb:=by subst hh1; exact(((G3.own _ _ (by decide)).own _ _ (by decide)).own _ _ (by decide)).own _ _ (by decide)
    have GB:GS [98] 6 c' (acc.map VT.row) hb:=by subst hh1; exact(((G.own _ _ (by decide)).own _ _ (by decide)).own _ _ (by decide)).own _ _ (by decide)
    obtain⟨c4,ha1,t1,G4,e5,T1,K1,I1,X1⟩:=qBO (d:=92) (by':=16) (new:=[sRow a]) (b := .slice 1 true [sRow a]) (.inr ⟨_,rfl⟩) GB3 (by decide) (fun r hr=>by simp at hr; rw[hr]; rfl) (by simp <;> omega) (by decide);have e5':∀ (β:Type) (O:Oracle) (kt:TVal→Heap→AI.Touch→Option β),vtouch O (.append 1 16 false (.k (.v (.c c3))) (.k (kSl 1 true [[.str a]]))) hb 92 kt=kt (.v (.c c4)) ha1 t1:=e5;have H1:EH s t v [.p (.int .i64 5),.p (.bool false),.p (.int .i64 0),.p (.str []),c3,c'] ha1:=⟨K1 3 1 _ (by decide) HB.a3,K1 4 1 _ (by decide) HB.a4,K1 5 1 _ (by decide) HB.a5,K1 6 1 _ (by decide) HB.a6,K1 9 1 _ (by decide) HB.a9⟩;have c13:=K1 13 (h.gen 13+1) _ (by decide) b13;have P1:∀ a b c d f g:Cell,put1 [a,b,c,d,f,g] 4 [c4]=[a,b,c,d,c4,g]:=fun _ _ _ _ _ _=>rfl
    generalize hh2:ha1.own 9 1 (.cells [.p (.int .i64 5),.p (.bool false),.p (.int .i64 0),.p (.str []),c4,c'] 0)=hc;have H2:EH s t v [.p (.int .i64 5),.p (.bool false),.p (.int .i64 0),.p (.str []),c4,c'] hc:=by
     subst hh2; exact⟨by simp only[exa,rA,rB,rC,rD,rE,rF,rG,rH,rI,H1.a3],by simp only[exa,rA,rB,rC,rD,rE,rF,rG,rH,rI,H1.a4],by simp only[exa,rA,rB,rC,rD,rE,rF,rG,rH,rI,H1.a5],by simp only[exa,rA,rB,rC,rD,rE,rF,rG,rH,rI,H1.a6],by simp only[exa,rA,rB,rC,rD,rE,rF,rG,rH,rI]⟩
    have d13:hc.get (.own 13 (h.gen 13+1))=some (.cells (pcells y.row) 0):=by subst hh2; simp only[exa,rA,rB,rC,rD,rE,rF,rG,rH,rI,c13]
    have GC3:GS [92] 1 c4 ((ka++[a]).map sRow) hc:=by subst hh2; rw[List.map_append]; exact G4.own _ _ (by decide)
    have GC:GS [98] 6 c' (acc.map VT.row) hc:=by
     subst hh2; exact(GB.keep fun e he g hg=>K1 e g _ (by simp at he; subst he; decide) hg).own _ _ (by decide)
    obtain⟨c2,h',t',G',e',T',K',I',X'⟩:=qBO (d:=98) (by':=88) (new:=[y.row]) (b := .slice 6 true [y.row]) (.inr ⟨_,rfl⟩) GC (by decide) (fun r hr=>by simp at hr; rw[hr]; exact VT.row_len _) (by simp <;> omega) (by decide);have e6:∀ (β:Type) (O:Oracle) (k:TVal→Heap→Option β),vop O (.append 6 88 false (.k (.v (.c c'))) (.k (kSl 6 true [y.row]))) hc 98 k=k (.v (.c c2)) h':=fun β O k=>by
     rw[qAt]; exact e' β O _
    have H':EH s t v [.p (.int .i64 5),.p (.bool false),.p (.int .i64 0),.p (.str []),c4,c'] h':=⟨K' 3 1 _ (by decide) H2.a3,K' 4 1 _ (by decide) H2.a4,K' 5 1 _ (by decide) H2.a5,K' 6 1 _ (by decide) H2.a6,K' 9 1 _ (by decide) H2.a9⟩;have P2:∀ a b c d f g:Cell,put1 [a,b,c,d,f,g] 5 [c2]=[a,b,c,d,f,c2]:=fun _ _ _ _ _ _=>rfl
    obtain⟨q,eq⟩:=X' (.inl (by simp));obtain⟨q1,eq1⟩:=X1 (.inl (by simp));have GC3':GS [92] 1 c4 ((ka++[a]).map sRow) h':=GC3.keep fun e he g hg=>K' e g _ (by simp at he; subst he; decide) hg
    simp (maxSteps:=9999999) +contextual only[exa,rA,rB,rC,rD,rE,rF,rG,rH,rI,exW,exY,qAo,e5',H1.a9,c13,P1,qAk,hh2,H2.a9,d13,e6,H'.a9,P2,qAS i (by omega)];have G2:GS [98] 6 c2 ((acc++[y]).map VT.row) h':=by rw[List.map_append]; exact G'
    have:=ih (ka++[a]) (acc++[y]) zs c4 c2 (h'.own 9 1 (.cells [.p (.int .i64 5),.p (.bool false),.p (.int .i64 0),.p (.str []),c4,c2] 0)) (by simp; omega) (by simp; omega) ⟨by simp only[exa,rA,rB,rC,rD,rE,rF,rG,rH,rI,H'.a3],by simp only[exa,rA,rB,rC,rD,rE,rF,rG,rH,rI,H'.a4],by simp only[exa,rA,rB,rC,rD,rE,rF,rG,rH,rI,H'.a5],by simp only[exa,rA,rB,rC,rD,rE,rF,rG,rH,rI,H'.a6],qBW _ 9 1 _ 0 (by decide)⟩
     (GC3'.own 1 _ (by decide)) (fun e=>absurd e (by simp)) (fun _=>⟨q1,by rw[eq1,List.map_append]; rfl⟩) (G2.own 1 _ (by decide)) (fun e=>absurd e (by simp)) (fun _=>⟨q,by rw[eq,List.map_append]; rfl⟩) e3
    rw[List.append_assoc,List.append_assoc] at this;rw[h2];exact this
   |some x =>
    rw[hg] at Y0;simp (maxSteps:=9999999) +contextual only[exa,rA,rB,rC,rD,rE,rF,rG,rH,rI,exW,exY,h1,hsn,hk,H.a3,H.a4,H.a5,H.a6,H.a9,Y0,Y1,qGa,hzx,hzy,qBt,qAk,Option.isSome_some];generalize hh1:((((h.own 11 (h.gen 11+1) (.cells zc 0)).own 11 (h.gen 11+1) (.cells (pcells x0.row) 0)).own 13 (h.gen 13+1) (.cells zc 0)).own 13 (h.gen 13+1) (.cells (pcells y.row) 0))=hb;have HB:EH s t v [.p (.int .i64 5),.p (.bool false),.p (.int .i64 0),.p (.str []),c3,c'] hb:=by
     subst hh1; exact⟨by simp only[exa,rA,rB,rC,rD,rE,rF,rG,rH,rI,H.a3],by simp only[exa,rA,rB,rC,rD,rE,rF,rG,rH,rI,H.a4],by simp only[exa,rA,rB,rC,rD,rE,rF,rG,rH,rI,H.a5],by simp only[exa,rA,rB,rC,rD,rE,rF,rG,rH,rI,H.a6],by simp only[exa,rA,rB,rC,rD,rE,rF,rG,rH,rI,H.a9]⟩
    have b13:hb.get (.own 13 (h.gen 13+1))=some (.cells (pcells y.row) 0):=by subst hh1; simp only[exa,rA,rB,rC,rD,rE,rF,rG,rH,rI]
    have GB3:GS [92] 1 c3 (ka.map sRow) hb:=by subst hh1; exact(((G3.own _ _ (by decide)).own _ _ (by decide)).own _ _ (by decide)).own _ _ (by decide)
    have GB:GS [98] 6 c' (acc.map VT.row) hb:=by subst hh1; exact(((G.own _ _ (by decide)).own _ _ (by decide)).own _ _ (by decide)).own _ _ (by decide)
    obtain⟨c4,ha1,t1,G4,e5,T1,K1,I1,X1⟩:=qBO (d:=92) (by':=16) (new:=[sRow a]) (b := .slice 1 true [sRow a]) (.inr ⟨_,rfl⟩) GB3 (by decide) (fun r hr=>by simp at hr; rw[hr]; rfl) (by simp <;> omega) (by decide);have e5':∀ (β:Type) (O:Oracle) (kt:TVal→Heap→AI.Touch→Option β),vtouch O (.append 1 16 false (.k (.v (.c c3))) (.k (kSl 1 true [[.str a]]))) hb 92 kt=kt (.v (.c c4)) ha1 t1:=e5;have H1:EH s t v [.p (.int .i64 5),.p (.bool false),.p (.int .i64 0),.p (.str []),c3,c'] ha1:=⟨K1 3 1 _ (by decide) HB.a3,K1 4 1 _ (by decide) HB.a4,K1 5 1 _ (by decide) HB.a5,K1 6 1 _ (by decide) HB.a6,K1 9 1 _ (by decide) HB.a9⟩;have c13:=K1 13 (h.gen 13+1) _ (by decide) b13;have P1:∀ a b c d f g:Cell,put1 [a,b,c,d,f,g] 4 [c4]=[a,b,c,d,c4,g]:=fun _ _ _ _ _ _=>rfl
    generalize hh2:ha1.own 9 1 (.cells [.p (.int .i64 5),.p (.bool false),.p (.int .i64 0),.p (.str []),c4,c'] 0)=hc;have H2:EH s t v [.p (.int .i64 5),.p (.bool false),.p (.int .i64 0),.p (.str []),c4,c'] hc:=by
     subst hh2; exact⟨by simp only[exa,rA,rB,rC,rD,rE,rF,rG,rH,rI,H1.a3],by simp only[exa,rA,rB,rC,rD,rE,rF,rG,rH,rI,H1.a4],by simp only[exa,rA,rB,rC,rD,rE,rF,rG,rH,rI,H1.a5],by simp only[exa,rA,rB,rC,rD,rE,rF,rG,rH,rI,H1.a6],by simp only[exa,rA,rB,rC,rD,rE,rF,rG,rH,rI]⟩
    have d13:hc.get (.own 13 (h.gen 13+1))=some (.cells (pcells y.row) 0):=by subst hh2; simp only[exa,rA,rB,rC,rD,rE,rF,rG,rH,rI,c13]
    have GC3:GS [92] 1 c4 ((ka++[a]).map sRow) hc:=by subst hh2; rw[List.map_append]; exact G4.own _ _ (by decide)
    have GC:GS [98] 6 c' (acc.map VT.row) hc:=by
     subst hh2; exact(GB.keep fun e he g hg=>K1 e g _ (by simp at he; subst he; decide) hg).own _ _ (by decide)
    obtain⟨c2,h',t',G',e',T',K',I',X'⟩:=qBO (d:=98) (by':=88) (new:=[y.row]) (b := .slice 6 true [y.row]) (.inr ⟨_,rfl⟩) GC (by decide) (fun r hr=>by simp at hr; rw[hr]; exact VT.row_len _) (by simp <;> omega) (by decide);have e6:∀ (β:Type) (O:Oracle) (k:TVal→Heap→Option β),vop O (.append 6 88 false (.k (.v (.c c'))) (.k (kSl 6 true [y.row]))) hc 98 k=k (.v (.c c2)) h':=fun β O k=>by
     rw[qAt]; exact e' β O _
    have H':EH s t v [.p (.int .i64 5),.p (.bool false),.p (.int .i64 0),.p (.str []),c4,c'] h':=⟨K' 3 1 _ (by decide) H2.a3,K' 4 1 _ (by decide) H2.a4,K' 5 1 _ (by decide) H2.a5,K' 6 1 _ (by decide) H2.a6,K' 9 1 _ (by decide) H2.a9⟩;have P2:∀ a b c d f g:Cell,put1 [a,b,c,d,f,g] 5 [c2]=[a,b,c,d,f,c2]:=fun _ _ _ _ _ _=>rfl
    obtain⟨q,eq⟩:=X' (.inl (by simp));obtain⟨q1,eq1⟩:=X1 (.inl (by simp));have GC3':GS [92] 1 c4 ((ka++[a]).map sRow) h':=GC3.keep fun e he g hg=>K' e g _ (by simp at he; subst he; decide) hg
    simp (maxSteps:=9999999) +contextual only[exa,rA,rB,rC,rD,rE,rF,rG,rH,rI,exW,exY,qAo,e5',H1.a9,c13,P1,qAk,hh2,H2.a9,d13,e6,H'.a9,P2,qAS i (by omega)];have G2:GS [98] 6 c2 ((acc++[y]).map VT.row) h':=by rw[List.map_append]; exact G'
    have:=ih (ka++[a]) (acc++[y]) zs c4 c2 (h'.own 9 1 (.cells [.p (.int .i64 5),.p (.bool false),.p (.int .i64 0),.p (.str []),c4,c2] 0)) (by simp; omega) (by simp; omega) ⟨by simp only[exa,rA,rB,rC,rD,rE,rF,rG,rH,rI,H'.a3],by simp only[exa,rA,rB,rC,rD,rE,rF,rG,rH,rI,H'.a4],by simp only[exa,rA,rB,rC,rD,rE,rF,rG,rH,rI,H'.a5],by simp only[exa,rA,rB,rC,rD,rE,rF,rG,rH,rI,H'.a6],qBW _ 9 1 _ 0 (by decide)⟩
     (GC3'.own 1 _ (by decide)) (fun e=>absurd e (by simp)) (fun _=>⟨q1,by rw[eq1,List.map_append]; rfl⟩) (G2.own 1 _ (by decide)) (fun e=>absurd e (by simp)) (fun _=>⟨q,by rw[eq,List.map_append]; rfl⟩) e3
    rw[List.append_assoc,List.append_assoc] at this;rw[h2];exact this
  rw[w144_1,b144_1] at GO;exact GO
end
theorem qF6{t:TT}:∀ {l:List (List UInt8)},keysF t l=some none→∀ key∈l,(t.names.list.any fun a=>decide (a=key))=true
 |[],_,key,hk=>by cases hk
 |k::l,e,key,hk=>by
  unfold keysF at e;by_cases h:(idxM k t.names.list).isSome=true
  ·rw[if_pos h] at e
   rcases List.mem_cons.1 hk with rfl|hk
   ·obtain⟨i,hi⟩:=Option.isSome_iff_exists.1 h;rw[List.any_eq_true];exact⟨key,List.mem_of_getElem? (qCu hi),by simp⟩
   ·exact qF6 e key hk
  ·rw[if_neg h] at e;obtain⟨p,_,e2⟩:=Option.map_eq_some_iff.1 e;cases e2
section
variable (s:ST) (hs:s.types = .nil) (n:Nat) (R:RF s n) (t:TT) (ht:wfT t) (v:VT) (sv:smV v)
include R hs ht sv
theorem qKh(hv5:v.kind=5)(hall:∀ (j:Nat) (a:List UInt8),t.names.list[j]?=some a→∃ kt,t.kids.list[j]?=some kt∧OKf n kt ((getM v a).getD .nul)∧(getM v a=none→kt.kind=6))
  (hin:∀ key∈v.keys.list,(t.names.list.any fun a=>decide (a=key))=true) (ys:List VT) (e:fullN (fullF [] (n+1)) t v t.names.list 0=some ys) :
  Om 144 [kA s.row,kA t.row,kA v.row] []=some (fitOK (.mk 5 false 0 [] (grown t.names.list) (grown ys)),[]):=by
 refine(qAE rfl).trans ?_;show lim tab.get S 144 0 0 [kA s.row,kA t.row,kA v.row] h0=_;rw[w144_0,b144_0];have hz:∀ a b c d e f:Cell,put1 zc 0 [a,b,c,d,e,f]=[a,b,c,d,e,f]:=fun _ _ _ _ _ _=>rfl
 simp (maxSteps:=9999999) +contextual only[exa,rA,rB,rC,rD,rE,rF,rG,rH,rI,exW,hv5,hz];exact qLn s hs n R t ht v sv hv5 hall hin 0 [] [] ys (.p .nilslice) (.p .nilslice) _ (Nat.le_refl _) (Nat.le_refl _)
  ⟨by simp only[exa,rA,rB,rC,rD,rE,rF,rG,rH,rI],by simp only[exa,rA,rB,rC,rD,rE,rF,rG,rH,rI],by simp only[exa,rA,rB,rC,rD,rE,rF,rG,rH,rI],by simp only[exa,rA,rB,rC,rD,rE,rF,rG,rH,rI],by simp only[exa,rA,rB,rC,rD,rE,rF,rG,rH,rI]⟩ (.inl ⟨rfl,rfl⟩) (fun _=>rfl) (fun e=>absurd rfl e) (.inl ⟨rfl,rfl⟩) (fun _=>rfl) (fun e=>absurd rfl e) e
end
theorem qPk(s:ST)(hs:s.types = .nil):∀ n,RF s n:=by
 intro n
 induction n with
 |zero =>
  intro t v x ht sv ok e
  rcases ok with ⟨r,e1,_⟩|⟨k6,rfl⟩
  ·cases e1
  ·have hx:x = .nul:=by
    have e':fullT (fullF [] 0) t .nul=some x:=e;unfold fullT at e';rw[if_neg (by simp[VT.kind]),if_neg (by omega),if_neg (by omega),if_neg (by omega)] at e';exact(Option.some.inj e').symm
   subst hx;refine(qAE rfl).trans ?_;show lim tab.get S 76 0 0 [kA s.row,kA t.row,kA VT.nul.row] h0=_;rw[w76_0,b76_0];have hz:put1 zc 0 (pcells VT.nul.row)=pcells VT.nul.row:=qAl _ (VT.row_len _);have hn0:VT.nul.kind=0:=rfl;simp (maxSteps:=9999999) +contextual only[exa,rA,rB,rC,rD,rE,rF,rG,rH,rI,k6,hn0,hz,w76_1,b76_1,w76_2,b76_2,oneOf]
 |succ n ih =>
  intro t v x ht sv ok e;refine(qAE rfl).trans ?_;show lim tab.get S 76 0 0 [kA s.row,kA t.row,kA v.row] h0=_;rw[w76_0,b76_0];have e':fullT (fullF [] (n+1)) t v=some x:=e;unfold fullT at e';obtain⟨hn6,hk6,h8,_⟩:=qAn ht;have hz:put1 zc 0 (pcells x.row)=pcells x.row:=qAl _ (VT.row_len x);by_cases hnul:t.kind=6∧v.kind=0
  ·obtain⟨k6,hv⟩:=hnul;rw[if_neg (by simp[hv]),if_neg (by omega),if_neg (by omega),if_neg (by omega)] at e';cases e';simp (maxSteps:=9999999) +contextual only[exa,rA,rB,rC,rD,rE,rF,rG,rH,rI,k6,hv,hz,w76_1,b76_1,w76_2,b76_2,oneOf]
  obtain⟨r,e1,hr⟩:∃ r,fitF [] (n+1) t v=some r∧r.2=true:=by
   rcases ok with h|⟨k6,rfl⟩
   ·exact h
   ·exact absurd ⟨k6,rfl⟩ hnul
  unfold fitF at e1;rw[show fopen [] t=t from rfl] at e1;cases hb:bigB t v with
  |true=>rw[hb,if_pos rfl] at e1; cases e1
  |false =>
  rw[hb] at e1;simp only[Bool.false_eq_true,if_false] at e1;by_cases k1:t.kind=1
  ·rw[if_pos k1] at e1; cases e1;have hv:v.kind=1:=by simpa using hr
   rw[if_neg (by omega),if_neg (by omega),if_neg (by omega),if_neg (by omega)] at e';cases e';simp (maxSteps:=9999999) +contextual only[exa,rA,rB,rC,rD,rE,rF,rG,rH,rI,exW,k1,hv,hz,w76_1,b76_1,w76_2,b76_2,qAk,oneOf];rfl
  rw[if_neg k1] at e1;by_cases k2:t.kind=2
  ·rw[if_pos k2] at e1; cases e1;have hv:v.kind=2:=by simpa using hr
   rw[if_neg (by omega),if_neg (by omega),if_neg (by omega),if_neg (by omega)] at e';cases e';simp (maxSteps:=9999999) +contextual only[exa,rA,rB,rC,rD,rE,rF,rG,rH,rI,exW,k2,hv,hz,w76_1,b76_1,w76_2,b76_2,qAk,oneOf];rfl
  rw[if_neg k2] at e1;by_cases k3:t.kind=3
  ·rw[if_pos k3] at e1; cases e1;have hv:v.kind=3:=by simpa using hr
   rw[if_neg (by omega),if_neg (by omega),if_neg (by omega),if_neg (by omega)] at e';cases e';simp (maxSteps:=9999999) +contextual only[exa,rA,rB,rC,rD,rE,rF,rG,rH,rI,exW,k3,hv,hz,w76_1,b76_1,w76_2,b76_2,qAk,oneOf];rfl
  rw[if_neg k3] at e1;have each:∀ (kd:Int) (place:Nat→Option (List UInt8)),t.kind=kd→(kd=4∨kd=5)→eachF (fitF [] n) place t v kd=some r→v.kind=t.kind∧∃ kt,t.kids.list[0]?=some kt∧∀ y∈v.l.list,OKf n kt y:=by
   intro kd place hkd _ h;unfold eachF at h;by_cases hg:(!decide (v.kind=kd) || !decide ((t.kids.len:Int)=1))=true
   ·rw[if_pos hg] at h; cases h; cases hr
   rw[if_neg hg] at h;simp only[Bool.or_eq_true,Bool.not_eq_true',decide_eq_false_iff_not,not_or,Classical.not_not] at hg;obtain⟨hv,hk⟩:=hg;obtain⟨kt,hkt⟩:∃ kt,t.kids.list=[kt]:=List.length_eq_one_iff.1 (by unfold Sl.len at hk; omega);rw[hkt] at h;exact⟨hv.trans hkd.symm,kt,by rw[hkt]; rfl,fun y hy => .inl (qCj h hr y hy)⟩
  by_cases k45:t.kind=4∨t.kind=5
  ·obtain⟨hv,kt,hk,hok⟩:v.kind=t.kind∧∃ kt,t.kids.list[0]?=some kt∧∀ y∈v.l.list,OKf n kt y:=by
    rcases k45 with k4|k5
    ·rw[if_pos k4] at e1; exact each 4 _ k4 (.inl rfl) e1
    ·rw[if_neg (by omega),if_pos k5] at e1; exact each 5 _ k5 (.inr rfl) e1
   rw[if_neg (by omega),if_neg (by omega),if_neg (by omega),if_pos k45] at e';obtain⟨ys,e2,e3⟩:=Option.map_eq_some_iff.1 e';subst e3;have C:=qOr s n ih t ht v sv kt hk hok k45 hv ys e2;have U:=fun(β:Type) (k:TVal→Heap→Option β) (h:Heap) (d:Nat)=>qAH (k:=k) (h:=h) (d:=d) 143 [kA s.row,kA t.row,kA v.row] _ (by simp only[exP]) C (by simp only[exP])
   rcases k45 with k4|k5
   ·simp (maxSteps:=9999999) +contextual only[exa,rA,rB,rC,rD,rE,rF,rG,rH,rI,k4,hz,w76_1,b76_1,w76_2,b76_2,w76_3,b76_3,U,oneOf]
   ·simp (maxSteps:=9999999) +contextual only[exa,rA,rB,rC,rD,rE,rF,rG,rH,rI,k5,hz,w76_1,b76_1,w76_2,b76_2,w76_3,b76_3,U,oneOf]
  rw[if_neg (by omega),if_neg (by omega)] at e1;by_cases k6:t.kind=6
  ·rw[if_pos k6] at e1;have hv:v.kind≠0:=fun h=>hnul ⟨k6,h⟩
   rw[if_pos ⟨k6,hv⟩] at e';by_cases hg:(decide (v.kind=0) || !decide ((t.kids.len:Int)=1))=true
   ·rw[if_pos hg] at e1; cases e1;exact absurd (by simpa using hr) hv
   rw[if_neg hg] at e1;simp only[Bool.or_eq_true,decide_eq_true_eq,Bool.not_eq_true',decide_eq_false_iff_not,not_or,Classical.not_not] at hg;obtain⟨kt,hkt⟩:∃ kt,t.kids.list=[kt]:=List.length_eq_one_iff.1 (by have:=hg.2; unfold Sl.len at this; omega);have hk:t.kids.list[0]?=some kt:=by rw[hkt]; rfl
   have hkid:kidT t 0=kt:=by unfold kidT; rw[hk]; rfl
   rw[hkt] at e1;rw[hkid] at e';have C:=ih kt v x (hkid▸qBT ht 0) sv (.inl ⟨r,e1,hr⟩) e';have U:=fun(β:Type) (k:TVal→Heap→Option β) (h:Heap) (d:Nat)=>qAH (k:=k) (h:=h) (d:=d) 76 [kA s.row,kA kt.row,kA v.row] _ (by simp only[exP]) C (by simp only[exP])
   simp (maxSteps:=9999999) +contextual only[exa,rA,rB,rC,rD,rE,rF,rG,rH,rI,k6,hv,hk,hz,w76_1,b76_1,w76_2,b76_2,U,oneOf]
  rw[if_neg k6] at e1;by_cases k7:t.kind=7
  ·rw[if_pos k7] at e1;rw[if_neg (by omega),if_pos k7] at e';obtain⟨ys,e2,e3⟩:=Option.map_eq_some_iff.1 e';subst e3;unfold recF at e1;by_cases hv5:v.kind=5
   ·rw[if_pos hv5] at e1;obtain⟨o,q1,q2⟩:=Option.bind_eq_some_iff.1 e1;cases o with
    |some p=>cases q2; cases hr
    |none =>
     obtain⟨o2,q3,q4⟩:=Option.map_eq_some_iff.1 q2;cases o2 with
     |some p=>rw[← q4] at hr; cases hr
     |none =>
      have hall:∀ (j:Nat) (a:List UInt8),t.names.list[j]?=some a→∃ kt,t.kids.list[j]?=some kt∧OKf n kt ((getM v a).getD .nul)∧(getM v a=none→kt.kind=6):=by
       intro j a ha;obtain⟨kt,h1,h2⟩:=qEY q1 j a ha;rw[Nat.zero_add] at h1;have hg:getM v a=(idxM a v.keys.list).bind fun k=>v.l.list[k]?:=by unfold getM; rw[if_pos hv5]
       refine⟨kt,h1,?_⟩;rw[hg];cases hx:(idxM a v.keys.list).bind fun k=>v.l.list[k]? with
       |none=>rw[hx] at h2; exact⟨.inr ⟨h2,rfl⟩,fun _=>h2⟩
       |some y=>rw[hx] at h2; exact⟨.inl h2,fun h=>by cases h⟩
      have C:=qKh s hs n ih t ht v sv hv5 hall (qF6 q3) ys e2;have U:=fun(β:Type) (k:TVal→Heap→Option β) (h:Heap) (d:Nat)=>qAH (k:=k) (h:=h) (d:=d) 144 [kA s.row,kA t.row,kA v.row] _ (by simp only[exP]) C (by simp only[exP])
      simp (maxSteps:=9999999) +contextual only[exa,rA,rB,rC,rD,rE,rF,rG,rH,rI,k7,hz,w76_1,b76_1,w76_2,b76_2,w76_3,b76_3,U,oneOf]
   ·rw[if_neg hv5] at e1; cases e1; cases hr
  rw[if_neg k7,if_neg h8] at e1;cases e1; cases hr
theorem qMq(s:ST)(hs:s.types = .nil)(n:Nat)(t:TT)(v x:VT)(ht:wfT t)(sv:smV v)(r:List UInt8×Bool)(e1:fitF [] n t v=some r)(hr:r.2=true)(e:fullF [] (n+1) t v=some x) :
  Om 27 [kA s.row,kA t.row,kA v.row] []=some (.tup [.agg (pcells x.row),.c (.p (.int .i64 0))],[]):=by
 refine(qAE rfl).trans ?_;show lim tab.get S 27 0 0 [kA s.row,kA t.row,kA v.row] h0=_;rw[w27_0,b27_0];have C:=qPk s hs n t v x ht sv (.inl ⟨r,e1,hr⟩) e;have U:=fun(β:Type) (k:TVal→Heap→Option β) (h:Heap) (d:Nat)=>qAH (k:=k) (h:=h) (d:=d) 76 [kA s.row,kA t.row,kA v.row] _ (by simp only[exP]) C (by simp only[exP])
 have hz:put1 zc 0 (pcells x.row)=pcells x.row:=qAl _ (VT.row_len x);simp (maxSteps:=9999999) +contextual only[exa,rA,rB,rC,rD,rE,rF,rG,rH,rI,U,hz,oneOf]
abbrev iT(n:Int):VT := .mk 2 false n [] .nil .nil
abbrev sT(s:List UInt8):VT := .mk 3 false 0 s .nil .nil
abbrev bT(b:Bool):VT := .mk 1 b 0 [] .nil .nil
abbrev ksN:List (List UInt8):=[[110],[115],[116]]
abbrev preT:List PVal:=[.int .i64 5,.bool false,.int .i64 0,.str [],.slice 1 true (ksN.map sRow)]
def three(n:Int)(t:List UInt8)(m:Nat)(z:Bool):List VT:=if z=true then [iT n,sT t,bT (decide (n<0))].set m .nul else [iT n,sT t,bT (decide (n<0))]
abbrev oP(d:Nat):TVal := .v (.c (.ptr (.own d 1) 0))
structure MH (E:List TabB) (c9:Cell) (h:Heap):Prop where
 h7:h.get (.own 7 1)=some (.cells (pcells schS.row) 0)
 h9:h.get (.own 9 1)=some (.cells [.p (.int .i64 4),.p (.bool false),.p (.int .i64 0),.p (.str []),.p .nilslice,c9] 0)
 c9:(E=[]∧c9 = .p .nilslice)∨(E≠[]∧∃ j,c9 = .sref (.im j) 0 E.length none 6∧h.get (.im j)=some (.cells (E.flatMap TabB.cells) 0)∧∀ e∈E,e.r≠j)
 ats:∀ e∈E,e.At h
abbrev z6c':List Cell:=[.p (.int .i64 0),.p (.bool false),.p (.int .i64 0),.p (.str []),.p .nilslice,.p .nilslice]
section
variable {β:Type} {O:Oracle} {h:Heap} {d:Nat} {k:TVal→Heap→Option β} {kt:TVal→Heap→AI.Touch→Option β}
theorem qP2(a b c d1 e:Cell)(f0:Nat):vop O (.bslice 6 1 z6c' [(0,.k (.v (.agg [a,b,c,d1,e,.sref (.im f0) 0 3 (some 3) 6])))] true) h d k =
  k (.v (.c (.sref (.im h.ims.length) 0 1 (some 1) 6))) (h.push (.cells [a,b,c,d1,e,.sref (.im f0) 0 3 (some 3) 6] 0)):=by
 rw[qAt]; rfl
end
abbrev R6(k:Int)(b:Bool)(n:Int)(s:List UInt8):List Cell:=[.p (.int .i64 k),.p (.bool b),.p (.int .i64 n),.p (.str s),.p .nilslice,.p .nilslice]
abbrev L0(n:Int)(t:List UInt8):List Cell:=[.p (.int .i64 2),.p (.bool false),.p (.int .i64 n),.p (.str []),.p .nilslice,.p .nilslice,.p (.int .i64 3),.p (.bool false),.p (.int .i64 0),.p (.str t),.p .nilslice,.p .nilslice,.p (.int .i64 1),.p (.bool (decide (n<0))),.p (.int .i64 0),.p (.str []),.p .nilslice,.p .nilslice]
abbrev XC(N:Nat):List Cell:=[.p (.int .i64 5),.p (.bool false),.p (.int .i64 0),.p (.str []),.p (.slice 1 true (ksN.map sRow)),.sref (.im N) 0 3 (some 3) 6]
theorem qH0(n:Int)(t:List UInt8)(m:Nat)(hm:m=0∨m=1∨m=2)(z:Bool):pcells ((three n t m z).map VT.row).flatten=put1 (L0 n t) (m*6) ((if z=true then R6 0 false 0 [] else if m=0 then R6 2 false n [] else if m=1 then R6 3 false 0 t else R6 1 (decide (n<0)) 0 [])):=by
 rcases hm with rfl|rfl|rfl <;> cases z <;> rfl
theorem qKb(n:Int)(t:List UInt8)(m:Nat)(z:Bool):((three n t m z).map VT.row).length=3∧∀ r∈(three n t m z).map VT.row,r.length=6:=by
 refine⟨?_,fun r hr => ?_⟩
 ·unfold three; split <;> simp
 ·obtain⟨a,_,rfl⟩:=List.mem_map.1 hr; exact VT.row_len a
theorem own_get_im(h:Heap)(d g:Nat)(o:AObj)(i:Nat):(h.own d g o).get (.im i)=h.get (.im i):=rfl
theorem qPl{E:List TabB}{c9:Cell}{h H3:Heap}(H:MH E c9 h)(n:Int)(t:List UInt8)(m:Nat)(z:Bool)(hN:H3.get (.im h.ims.length)=some (.cells (pcells ((three n t m z).map VT.row).flatten) 0))(hlt:h.ims.length<H3.ims.length)
  (ho:∀ r,r<h.ims.length→H3.get (.im r)=h.get (.im r)) (hw:∀ d g o,d≠11→h.get (.own d g)=some o→H3.get (.own d g)=some o) (hE:E.length≤1000) :
  ∃ c9' h',MH (E++[⟨preT,h.ims.length,(three n t m z).map VT.row⟩]) c9' h' ∧
   (∀ {β:Type}(k:TVal→Heap→Option β),vop Om (.append 6 88 true (.k (.v (.c c9))) (.k (.v (.c (.sref (.im H3.ims.length) 0 1 (some 1) 6))))) (H3.push (.cells (XC h.ims.length) 0)) 86 (fun v h=>vstore 1 (.v (.c (.ptr (.own 9 1) 5))) v h k)=k .undef h'):=by
 obtain⟨tl,t6⟩:=qKb n t m z;have g9:=hw 9 1 _ (by decide) H.h9;have g7:=hw 7 1 _ (by decide) H.h7;have gX:(H3.push (.cells (XC h.ims.length) 0)).get (.im H3.ims.length)=some (.cells (XC h.ims.length) 0):=Heap.get_push_eq H3 (fun e=>by cases e);have eX:(⟨preT,h.ims.length,(three n t m z).map VT.row⟩:TabB).cells=XC h.ims.length:=by unfold TabB.cells; rw[tl]; rfl
 have oldr:∀ e∈E,e.r<h.ims.length:=fun e he=>Heap.get_lt (H.ats e he).get
 rcases H.c9 with ⟨rfl,rfl⟩|⟨hne,j,rfl,hj,hjr⟩
 ·refine⟨.sref (.im (H3.ims.length+1)) 0 1 none 6,((H3.push (.cells (XC h.ims.length) 0)).push (.cells (XC h.ims.length) 0)).own 9 1 (.cells [.p (.int .i64 4),.p (.bool false),.p (.int .i64 0),.p (.str []),.p .nilslice,.sref (.im (H3.ims.length+1)) 0 1 none 6] 0),⟨(Heap.own_get_ne _ 9 _ _ 7 1 (by decide)).trans g7,(by simp only[exa,rA,rB,rC,rD,rE,rF,rG,rH,rI]),.inr ⟨by simp,H3.ims.length+1,rfl,?_,fun e he => ?_⟩,fun e he => ?_⟩,fun{β} k => ?_⟩
  ·refine(own_get_im _ _ _ _ _).trans ?_;have:=Heap.get_push_eq (H3.push (.cells (XC h.ims.length) 0)) (o := .cells (XC h.ims.length) 0) (fun e=>by cases e);rw[Heap.push_len] at this;rw[this,List.nil_append,List.flatMap_cons,List.flatMap_nil,List.append_nil,eX]
  ·rw[List.nil_append,List.mem_singleton] at he;subst he;show h.ims.length≠H3.ims.length+1;omega
  ·rw[List.nil_append,List.mem_singleton] at he;subst he;exact⟨rfl,t6,((Heap.get_push_lt _ _ (by rw[Heap.push_len]; omega)).trans (Heap.get_push_lt _ _ hlt)).trans hN⟩
  ·have:=qJo (O:=Om) (h:=H3.push (.cells (XC h.ims.length) 0)) (d:=86) (kt:=fun v h _=>vstore 1 (.v (.c (.ptr (.own 9 1) 5))) v h k) (sz:=6) (by':=88) rfl (by decide) H3.ims.length gX;rw[qAt,this,Heap.push_len];have g9':((H3.push (.cells (XC h.ims.length) 0)).push (.cells (XC h.ims.length) 0)).get (.own 9 1)=_:=g9;simp (maxSteps:=9999999) +contextual only[exa,rA,rB,rC,rD,rE,rF,rG,rH,rI,g9']
 ·have hjlt:=Heap.get_lt hj;have gj:(H3.push (.cells (XC h.ims.length) 0)).get (.im j)=some (.cells (E.flatMap TabB.cells) 0):=(Heap.get_push_lt _ _ (by omega)).trans ((ho j hjlt).trans hj);generalize hH:((H3.push (.cells (XC h.ims.length) 0)).put (.im j) .dead)=H4;have L4:H4.ims.length=H3.ims.length+1:=by rw[← hH,Heap.put_len,Heap.push_len]
  refine⟨.sref (.im (H3.ims.length+1)) 0 (E.length+1) none 6,(H4.push (.cells (E.flatMap TabB.cells++XC h.ims.length) 0)).own 9 1 (.cells [.p (.int .i64 4),.p (.bool false),.p (.int .i64 0),.p (.str []),.p .nilslice,.sref (.im (H3.ims.length+1)) 0 (E.length+1) none 6] 0),⟨(Heap.own_get_ne _ 9 _ _ 7 1 (by decide)).trans (by rw[← hH]; exact g7),(by simp only[exa,rA,rB,rC,rD,rE,rF,rG,rH,rI]),.inr ⟨by simp,H3.ims.length+1,by rw[List.length_append]; rfl,?_,fun e he => ?_⟩,fun e he => ?_⟩,fun{β} k => ?_⟩
  ·refine(own_get_im _ _ _ _ _).trans ?_;have:=Heap.get_push_eq H4 (o := .cells (E.flatMap TabB.cells++XC h.ims.length) 0) (fun e=>by cases e);rw[L4] at this;rw[this,List.flatMap_append,List.flatMap_cons,List.flatMap_nil,List.append_nil,eX]
  ·rcases List.mem_append.1 he with he|he
   ·have:=oldr e he; omega
   ·rw[List.mem_singleton] at he;subst he;show h.ims.length≠H3.ims.length+1;omega
  ·have low:∀ r,r<H3.ims.length→r≠j→((H4.push (.cells (E.flatMap TabB.cells++XC h.ims.length) 0)).own 9 1 (.cells [.p (.int .i64 4),.p (.bool false),.p (.int .i64 0),.p (.str []),.p .nilslice,.sref (.im (H3.ims.length+1)) 0 (E.length+1) none 6] 0)).get (.im r)=H3.get (.im r):=fun r hr hrj=>by
    refine(Heap.get_push_lt _ _ (by rw[L4]; omega)).trans ?_;rw[← hH,Heap.get_put_ne _ _ (fun e=>hrj e.symm)];exact Heap.get_push_lt _ _ hr
   rcases List.mem_append.1 he with he|he
   ·have:=oldr e he;have A:=H.ats e he;exact⟨A.pre,A.six,(low e.r (by omega) (hjr e he)).trans ((ho e.r this).trans A.get)⟩
   ·rw[List.mem_singleton] at he;subst he;exact⟨rfl,t6,(low h.ims.length hlt (by omega)).trans hN⟩
  ·have:=qHu (O:=Om) (h:=H3.push (.cells (XC h.ims.length) 0)) (d:=86) (kt:=fun v h _=>vstore 1 (.v (.c (.ptr (.own 9 1) 5))) v h k) (sz:=6) (by':=88) (n:=E.length) (row:=XC h.ims.length) (cs:=E.flatMap TabB.cells) rfl (qEV E H.ats) (by omega) j H3.ims.length gj gX;rw[qAt,this,Heap.push_len,hH];have g9':(H4.push (.cells (E.flatMap TabB.cells++XC h.ims.length) 0)).get (.own 9 1)=some (.cells [.p (.int .i64 4),.p (.bool false),.p (.int .i64 0),.p (.str []),.p .nilslice,.sref (.im j) 0 E.length none 6] 0):=by rw[← hH]; exact g9
   simp (maxSteps:=9999999) +contextual only[exa,rA,rB,rC,rD,rE,rF,rG,rH,rI,g9']
abbrev VtK:=TVal→Heap→AI.Touch→Option (TVal×List AObj)
theorem qQC(a b:Nat)(h:Heap)(d:Nat)(kt:VtK):vtouch Om (.minmax false [.k (kI (a:Int)),.k (kI (b:Int))]) h d kt=kt (kI ((min a b:Nat):Int)) h noTouch:=by
 refine qAc _ _ ?_;show(some (PVal.int .i64 (if (b:Int)<(a:Int) then (b:Int) else (a:Int)))).map (fun v=>Plan.pure (.pv v))=some (Plan.pure (kI ((min a b:Nat):Int)));have:(if (b:Int)<(a:Int) then (b:Int) else (a:Int))=((min a b:Nat):Int):=by split <;> omega
 rw[this]; rfl
theorem qPw(r:Int)(h0:0≤r)(h:Heap)(d:Nat)(kt:VtK):vtouch Om (.minmax false [.k (kI r),.k (kI 1)]) h d kt=kt (kI (if r=0 then 0 else 1)) h noTouch:=by
 refine qAc _ _ ?_;show(some (PVal.int .i64 (if (1:Int)<r then (1:Int) else r))).map (fun v=>Plan.pure (.pv v))=some (Plan.pure (kI (if r=0 then 0 else 1)));have:(if (1:Int)<r then (1:Int) else r)=(if r=0 then 0 else 1):=by split <;> split <;> omega
 rw[this]; rfl
theorem qKJ(s:Sl Int)(bs:List UInt8)(x1:TVal)(g:Int)(hg:0<g)(i:Nat)(hi:i<20)(n:Int)(hn:s.list[i]?=some n)(E:List TabB)(hE:E.length=i)(c9:Cell)(h:Heap)(H:MH E c9 h)
  (SL:∀ (h:Heap) (d:Nat) (kt:VtK),vtouch Om (.len 2 (.k x1)) h d kt=kt (kI (bs.length:Int)) h noTouch) (X52:TVal)
  (SX:∀ (h:Heap) (d:Nat) (kt:VtK),vtouch Om (.slice 1 false (.k x1) (some (.k (kI ((min i bs.length:Nat):Int)))) none none) h d kt=kt X52 h noTouch)
  (ST:∀ (h:Heap) (d:Nat) (kt:VtK),vtouch Om (.toStr (.k X52)) h d kt=kt (kS (bs.drop i)) h noTouch) :
  ∃ c9' h',MH (E++[⟨preT,h.ims.length,(three n (bs.drop i) (i % 3) (!decide ((i:Int).tmod g=0))).map VT.row⟩]) c9' h'∧∀ R:Jump,b6_1 Om R 0 (.v (.c (.p (slP 1 iRow s)))) x1 (kI g) (oP 7) (oP 9) (kI (i:Int)) h=R 1 [.v (.c (.p (slP 1 iRow s))),x1,kI g,oP 7,oP 9,kI ((i+1:Nat):Int)] h':=by
 have h1:(i:Int)<(s.len:Int):=by
  have:=(List.getElem?_eq_some_iff.1 hn).1;unfold Sl.len; omega
 generalize ht:bs.drop i=t at ST ⊢;have B41:∀ (h:Heap) (kt:VtK),vtouch Om (.bslice 1 3 [.p (.str [])] [(0,.k (kS [110])),(1,.k (kS [115])),(2,.k (kS [116]))] false) h 41 kt=kt (kSl 1 true (ksN.map sRow)) h noTouch:=fun _ _=>rfl
 have B46:∀ (h:Heap) (kt:VtK),vtouch Om (.build z6c' [(0,1,.k (kI 2)),(2,1,.k (kI n))]) h 46 kt=kt (.v (.agg (R6 2 false n []))) h noTouch:=fun _ _=>rfl
 have B54:∀ (h:Heap) (kt:VtK),vtouch Om (.build z6c' [(0,1,.k (kI 3)),(3,1,.k (kS t))]) h 54 kt=kt (.v (.agg (R6 3 false 0 t))) h noTouch:=fun _ _=>rfl
 have B60:∀ (h:Heap) (kt:VtK),vtouch Om (.build z6c' [(0,1,.k (kI 1)),(1,1,.k (kB (decide (n<0))))]) h 60 kt=kt (.v (.agg (R6 1 (decide (n<0)) 0 []))) h noTouch:=fun _ _=>rfl
 have B62:∀ (h:Heap) (kt:VtK) (N:Nat),vtouch Om (.build z6c' [(0,1,.k (kI 5)),(4,1,.k (kSl 1 true (ksN.map sRow))),(5,1,.k (.v (.c (.sref (.im N) 0 3 (some 3) 6))))]) h 62 kt=kt (.v (.agg (XC N))) h noTouch:=fun _ _ _=>rfl
 have B73:∀ (h:Heap) (kt:VtK),vtouch Om (.build z6c' []) h 73 kt=kt (.v (.agg (R6 0 false 0 []))) h noTouch:=fun _ _=>rfl
 generalize hm:i % 3=m;have m3:m=0∨m=1∨m=2:=by omega
 have R3:∀ (h:Heap) (k:TVal→Heap→Option (TVal×List AObj)),vbin .rem 0 (kI (i:Int)) (kI 3) h k=k (kI (m:Int)) h:=fun h k=>by
  rw[qDF 0 .i64 (i:Int) 3 (by decide)];have:(i:Int).tmod 3=(m:Int):=by rw[Int.tmod_eq_emod_of_nonneg (by omega)]; omega
  rw[this]
 have RG:∀ (h:Heap) (k:TVal→Heap→Option (TVal×List AObj)),vbin .rem 0 (kI (i:Int)) (kI g) h k=k (kI ((i:Int).tmod g)) h:=fun h k=>qDF 0 .i64 (i:Int) g (by omega)
 have r0:0≤(i:Int).tmod g:=Int.tmod_nonneg g (by omega);generalize hr:(i:Int).tmod g=r at RG r0 ⊢;have MO:=fun(h:Heap) (d:Nat) (kt:VtK)=>qPw r r0 h d kt
 have hz:(if r=0 then (0:Int) else 1)=if (!decide (r=0))=true then 1 else 0:=by by_cases e:r=0 <;> simp[e]
 rw[hz] at MO;generalize (!decide (r=0))=z at MO ⊢;have T1:∀ N:Nat,AI.Touch.apart ⟨[],[.im N],true⟩ ⟨[],[.own 11],false⟩=true:=fun _=>rfl
 have T2:∀ N:Nat,AI.Touch.apart noTouch ⟨[],[.im N],true⟩=true:=fun _=>rfl
 have T3:∀ N γ:Nat,AI.Touch.apart ⟨[(Ref.own 11 γ).site],[],false⟩ ⟨[],[.im N],true⟩=true:=fun _ _=>rfl
 have T4:AI.Touch.apart noTouch noTouch=true:=rfl;have T5:AI.Touch.apart noTouch ⟨[],[.own 11],false⟩=true:=rfl;have PX:∀ N,put1 z6c' 0 (XC N)=XC N:=fun _=>rfl
 have C1:=qH0 n t m m3 z;have cl:(L0 n t).length=18:=rfl;generalize hROW:(if m=0 then R6 2 false n [] else if m=1 then R6 3 false 0 t else R6 1 (decide (n<0)) 0 [])=ROW at C1;have RL:ROW.length=6:=by rw[← hROW]; split; rfl; split <;> rfl
 have DR:((L0 n t).drop (m*6)).take 6=ROW:=by rw[← hROW]; rcases m3 with rfl|rfl|rfl <;> rfl
 have B61:∀ (h:Heap) (kt:VtK),vtouch Om (.bslice 6 3 z6c' [(0,.k (.v (.agg (R6 2 false n [])))),(1,.k (.v (.agg (R6 3 false 0 t)))),(2,.k (.v (.agg (R6 1 (decide (n<0)) 0 []))))] true) h 61 kt=kt (.v (.c (.sref (.im h.ims.length) 0 3 (some 3) 6))) (h.push (.cells (L0 n t) 0)) ⟨[],[.im h.ims.length],true⟩:=fun _ _=>rfl
 generalize L0 n t=C0 at C1 cl DR B61;have B74:∀ (h:Heap) (kt:VtK),vtouch Om (.bslice 6 2 z6c' [(0,.k (.v (.agg ROW))),(1,.k (.v (.agg (R6 0 false 0 []))))] true) h 74 kt=kt (.v (.c (.sref (.im h.ims.length) 0 2 (some 2) 6))) (h.push (.cells (ROW++R6 0 false 0 []) 0)) ⟨[],[.im h.ims.length],true⟩:=by
  match ROW,RL with
  |[a,b,c,d,e,f],_=>exact fun _ _=>rfl
 have D2:((ROW++R6 0 false 0 []).drop ((if z=true then 1 else 0)*6)).take 6=(if z=true then R6 0 false 0 [] else ROW):=by
  match ROW,RL with
  |[a,b,c,d,e,f],_=>cases z <;> rfl
 generalize hY:(if z=true then R6 0 false 0 [] else ROW)=Y at C1 D2;have YL:Y.length=6:=by rw[← hY]; split; rfl; exact RL
 generalize hC2:ROW++R6 0 false 0 []=C2 at B74 D2;have C2L:C2.length=12:=by rw[← hC2,List.length_append,RL]; rfl
 generalize hN:h.ims.length=N;generalize hH1:h.push (.cells C0 0)=H1;generalize hγ:H1.gen 11+1=γ;generalize hH2:((H1.own 11 γ (.cells z6c' 0)).own 11 γ (.cells (XC N) 0))=H2;have LN:H2.ims.length=N+1:=by rw[← hH2,← hH1,← hN]; exact Heap.push_len h _
 have GN:H2.get (.im N)=some (.cells C0 0):=by rw[← hH2,← hH1,← hN]; exact Heap.get_push_eq h (fun e=>by cases e)
 have GN1:H1.get (.im N)=some (.cells C0 0):=by rw[← hH1,← hN]; exact Heap.get_push_eq h (fun e=>by cases e)
 have G11:H2.get (.own 11 γ)=some (.cells (XC N) 0):=by rw[← hH2,← hγ]; simp only[exa,rA,rB,rC,rD,rE,rF,rG,rH,rI]
 have GO2:∀ d g o,d≠11→h.get (.own d g)=some o→H2.get (.own d g)=some o:=fun d g o hd ho=>by
  rw[← hH2,← hH1]; exact(Heap.own_get_ne _ 11 _ _ d g (Ne.symm hd)).trans ((Heap.own_get_ne _ 11 _ _ d g (Ne.symm hd)).trans ho)
 have GI2:∀ r,r<N→H2.get (.im r)=h.get (.im r):=fun r hr=>by rw[← hH2,← hH1]; exact Heap.get_push_lt h _ (by omega)
 generalize hH3:H2.push (.cells C2 0)=H3;have GM3:H3.get (.im (N+1))=some (.cells C2 0):=by rw[← hH3,← LN]; exact Heap.get_push_eq H2 (fun e=>by cases e)
 have GN3:H3.get (.im N)=some (.cells C0 0):=by rw[← hH3]; exact(Heap.get_push_lt H2 _ (by omega)).trans GN
 have G13:H3.get (.own 11 γ)=some (.cells (XC N) 0):=by rw[← hH3]; exact G11
 generalize hH4:H3.put (.im N) (.cells (put1 C0 (m*6) Y) 0)=H4;have G14:H4.get (.own 11 γ)=some (.cells (XC N) 0):=by rw[← hH4]; exact G13
 have L4:H4.ims.length=N+2:=by rw[← hH4,Heap.put_len,← hH3,Heap.push_len,LN]
 have GN4:H4.get (.im N)=some (.cells (pcells ((three n t m z).map VT.row).flatten) 0):=by
  rw[C1,← hH4];exact Heap.get_put_eq H3 (by rw[← hH3,Heap.push_len]; omega) (fun e=>by cases e)
 obtain⟨c9',h',M',A'⟩:=qPl H n t m z (H3:=H4) (by rw[hN]; exact GN4) (by omega) (fun r hr=>by
  rw[← hH4,Heap.get_put_ne _ _ (by omega),← hH3,Heap.get_push_lt _ _ (by omega)]; exact GI2 r (by omega)) (fun d g o hd ho=>by
  rw[← hH4,← hH3]; exact GO2 d g o hd ho) (by omega)
 rw[hN] at M' A';refine⟨c9',h',M',?_⟩;have g9:H4.get (.own 9 1)=some (.cells [.p (.int .i64 4),.p (.bool false),.p (.int .i64 0),.p (.str []),.p .nilslice,c9] 0):=by rw[← hH4,← hH3]; exact GO2 9 1 _ (by decide) H.h9
 have LI:∀ (β:Type) (k:TVal→Heap→Option β),vop Om (.bslice 6 1 z6c' [(0,.k (.v (.agg (XC N))))] true) H4 85 k=k (.v (.c (.sref (.im H4.ims.length) 0 1 (some 1) 6))) (H4.push (.cells (XC N) 0)):=fun β k=>qP2 _ _ _ _ _ N
 have dm:m<3:=by omega
 have dz:(if z=true then 1 else 0:Nat)<2:=by split <;> decide
 have ez:(if z=true then (1:Int) else 0)=((if z=true then 1 else 0:Nat):Int):=by split <;> rfl
 rw[ez] at MO;generalize (if z=true then 1 else 0:Nat)=ζ at MO D2 dz;have VA:∀ (k:TVal→Heap→Option (TVal×List AObj)) (h:Heap),viaddr 6 (.v (.c (.sref (.im N) 0 3 (some 3) 6))) (kI (m:Int)) h k=k (.v (.c (.ptr (.im N) (m*6)))) h:=fun k h=>by
  simp (maxSteps:=9999999) +contextual only[exa,rA,rB,rC,rD,rE,rF,rG,rH,rI,dm,decide_true]
 have VB:∀ (k:TVal→Heap→Option (TVal×List AObj)) (h:Heap),viaddr 6 (.v (.c (.sref (.im (N+1)) 0 2 (some 2) 6))) (kI (ζ:Int)) h k=k (.v (.c (.ptr (.im (N+1)) (ζ*6)))) h:=fun k h=>by
  simp (maxSteps:=9999999) +contextual only[exa,rA,rB,rC,rD,rE,rF,rG,rH,rI,dz,decide_true]
 have dl:m*6+6≤18:=by omega
 intro R;rw[b6_1];simp (maxSteps:=9999999) +contextual only[VA,VB,exa,rA,rB,rC,rD,rE,rF,rG,rH,rI,exW,exY,h1,hn,SL,SX,ST,qQC,B41,B46,B54,B60,B61,B62,hN,hH1,hγ,qPW,qAk,PX,T1,T2,T4,T5,hH2,G11,R3,GN,DR,RL,B73,B74,LN,hH3,GM3,D2,YL,MO,RG,GN3,cl,dl,T3,hH4,g9,G14,dm,decide_true,GN1,A',LI];rw[show decide (0≤m*6)=true from decide_eq_true (Nat.zero_le _),qAS i (by omega)];rfl
open Go Go.AI
def UW(x:Int):Prop:=0≤x∧x<18446744073709551616
structure POk (c d:Nat) (H:RS) (p:Int×RS):Prop where
 w:H.W.length≤p.2.W.length∧p.2.W.length≤H.W.length+c
 t:H.T.length≤p.2.T.length∧p.2.T.length≤H.T.length+d
 u:(∀ x∈H.W,UW x)→p.2.W.length≤1073741824→p.2.T.length≤1073741824→UW p.1∧∀ x∈p.2.W,UW x
abbrev POf(P:PutF)(t:TT)(v:VT)(c d:Nat):Prop:=∀ H p,P t v H=some p→POk c d H p
theorem qOk(s:List UInt8)(H:RS):POk 0 1 H (numM s H):=by
 unfold numM;cases e:idxM s H.T with
 |none=>exact⟨⟨Nat.le_refl _,Nat.le_refl _⟩,⟨by simp,by simp⟩,fun hu hw ht=>⟨⟨by simp,by simp at ht ⊢; omega⟩,hu⟩⟩
 |some k =>
  have hk:=(List.getElem?_eq_some_iff.1 (qCu e)).1;exact⟨⟨Nat.le_refl _,Nat.le_refl _⟩,⟨Nat.le_refl _,Nat.le_succ _⟩,fun hu hw ht=>⟨⟨by simp,by simp at ht ⊢; omega⟩,hu⟩⟩
theorem POk.lay{c d:Nat}{H:RS}{l:List Int}{H':RS}(w:H.W.length≤H'.W.length∧H'.W.length≤H.W.length+c)(t:H.T.length≤H'.T.length∧H'.T.length≤H.T.length+d)
  (u:(∀ x∈H.W,UW x)→H'.W.length≤1073741824→H'.T.length≤1073741824→(∀ x∈l,UW x)∧∀ x∈H'.W,UW x):POk (c+l.length) d H (layM l H'):=by
 refine⟨?_,t,fun hu hw ht => ?_⟩
 ·show H.W.length≤(H'.W++l).length∧(H'.W++l).length≤_;rw[List.length_append]; omega
 ·have hw':(H'.W++l).length≤1073741824:=hw;rw[List.length_append] at hw';obtain⟨h1,h2⟩:=u hu (by omega) ht;refine⟨⟨by show 0≤(H'.W.length:Int); omega,by show(H'.W.length:Int)<_; omega⟩,fun x hx => ?_⟩
  rcases List.mem_append.1 (show x∈H'.W++l from hx) with h|h
  ·exact h2 x h
  ·exact h1 x h
structure LOk (c d:Nat) (l:List Int) (H:RS) (p:List Int×RS):Prop where
 w:H.W.length≤p.2.W.length∧p.2.W.length≤H.W.length+c
 t:H.T.length≤p.2.T.length∧p.2.T.length≤H.T.length+d
 u:(∀ x∈l,UW x)→(∀ x∈H.W,UW x)→p.2.W.length≤1073741824→p.2.T.length≤1073741824→(∀ x∈p.1,UW x)∧∀ x∈p.2.W,UW x
theorem qGS{P:PutF}{t:TT}{v:VT}{c d:Nat}(hk:t.kind≠5):∀ (r:List VT) (i:Nat) (l:List Int) (H:RS) (p:List Int×RS),(∀ x∈r,POf P (kidT t 0) x c d)→listP P t v r i l H=some p→LOk (r.length*c) (r.length*d) l H p∧p.1.length=l.length+r.length
 |[],i,l,H,p,_,e=>by cases e; exact⟨⟨⟨Nat.le_refl _,by simp⟩,⟨Nat.le_refl _,by simp⟩,fun h1 h2 _ _=>⟨h1,h2⟩⟩,by simp⟩
 |x::r,i,l,H,p,hP,e=>by
  unfold listP at e;rw[if_neg hk] at e;obtain⟨q,e1,e2⟩:=Option.bind_eq_some_iff.1 e;have A:=hP x (List.mem_cons_self ..) H q e1;obtain⟨B,L⟩:=qGS hk r (i+1) (l++[q.1]) q.2 p (fun y hy=>hP y (List.mem_cons_of_mem _ hy)) e2;obtain⟨a1,a2⟩:=A.w;obtain⟨a3,a4⟩:=A.t;obtain⟨b1,b2⟩:=B.w;obtain⟨b3,b4⟩:=B.t;rw[List.length_cons,Nat.succ_mul,Nat.succ_mul];refine⟨⟨⟨by omega,by omega⟩,⟨by omega,by omega⟩,fun h1 h2 hw ht => ?_⟩,by rw[L]; simp; omega⟩;obtain⟨u1,u2⟩:=A.u h2 (by omega) (by omega)
  exact B.u (fun y hy=>by
   rcases List.mem_append.1 hy with h|h
   ·exact h1 y h
   ·rw[List.mem_singleton.1 h]; exact u1) u2 hw ht
theorem qIr{P:PutF}{t:TT}{v:VT}{c d:Nat}:∀ (r:List (List UInt8)) (i:Nat) (l:List Int) (H:RS) (p:List Int×RS),(∀ (j:Nat) (a:List UInt8),r[j]?=some a→POf P (kidT t (i+j)) (fieldM v a) c d)→recP P t v r i l H=some p→LOk (r.length*c) (r.length*d) l H p∧p.1.length=l.length+r.length
 |[],i,l,H,p,_,e=>by cases e; exact⟨⟨⟨Nat.le_refl _,by simp⟩,⟨Nat.le_refl _,by simp⟩,fun h1 h2 _ _=>⟨h1,h2⟩⟩,by simp⟩
 |x::r,i,l,H,p,hP,e=>by
  unfold recP at e;obtain⟨q,e1,e2⟩:=Option.bind_eq_some_iff.1 e;have A:=hP 0 x rfl H q e1
  obtain⟨B,L⟩:=qIr r (i+1) (l++[q.1]) q.2 p (fun j y hy=>by
   have:=hP (j+1) y hy
   rwa [show i+(j+1)=i+1+j by omega] at this) e2
  obtain⟨a1,a2⟩:=A.w;obtain⟨a3,a4⟩:=A.t;obtain⟨b1,b2⟩:=B.w;obtain⟨b3,b4⟩:=B.t;rw[List.length_cons,Nat.succ_mul,Nat.succ_mul];refine⟨⟨⟨by omega,by omega⟩,⟨by omega,by omega⟩,fun h1 h2 hw ht => ?_⟩,by rw[L]; simp; omega⟩;obtain⟨u1,u2⟩:=A.u h2 (by omega) (by omega)
  exact B.u (fun y hy=>by
   rcases List.mem_append.1 hy with h|h
   ·exact h1 y h
   ·rw[List.mem_singleton.1 h]; exact u1) u2 hw ht
section
variable {m:TyM} {n:Nat} {t0:TT} {v:VT}
theorem qMk(h:(fopen m t0).kind=1):POf (putF m (n+1)) t0 v 0 0:=fun H p e=>by
 have e:putT (putF m n) (fopen m t0) v H=some p:=e;unfold putT at e;rw[if_pos h] at e;cases e;exact⟨⟨Nat.le_refl _,Nat.le_refl _⟩,⟨Nat.le_refl _,Nat.le_refl _⟩,fun hu _ _=>⟨by show UW (if v.b=true then 1 else 0); unfold UW; split <;> decide,hu⟩⟩
theorem qPv(x:Int):UW (u64 x):=by
 unfold UW u64 IntKind.wrap;simp[IntKind.bits,IntKind.signed];omega
theorem qO3(h:(fopen m t0).kind=2):POf (putF m (n+1)) t0 v 0 0:=fun H p e=>by
 have e:putT (putF m n) (fopen m t0) v H=some p:=e;unfold putT at e;rw[if_neg (by omega),if_pos h] at e;cases e;exact⟨⟨Nat.le_refl _,Nat.le_refl _⟩,⟨Nat.le_refl _,Nat.le_refl _⟩,fun hu _ _=>⟨qPv _,hu⟩⟩
theorem qMp(h:(fopen m t0).kind=3):POf (putF m (n+1)) t0 v 0 1:=fun H p e=>by
 have e:putT (putF m n) (fopen m t0) v H=some p:=e;unfold putT at e;rw[if_neg (by omega),if_neg (by omega),if_pos h] at e;cases e;exact qOk v.s H
theorem qFU(h:(fopen m t0).kind=6){c d:Nat}(hk:POf (putF m n) (kidT (fopen m t0) 0) v c d):POf (putF m (n+1)) t0 v (c+1) d:=fun H p e=>by
 have e:putT (putF m n) (fopen m t0) v H=some p:=e;unfold putT at e;rw[if_neg (by omega),if_neg (by omega),if_neg (by omega),if_neg (by omega),if_pos h] at e;split at e
 ·cases e;exact⟨⟨Nat.le_refl _,by show H.W.length≤_; omega⟩,⟨Nat.le_refl _,by show H.T.length≤_; omega⟩,fun hu _ _=>⟨by show UW 0; unfold UW; decide,hu⟩⟩
 ·obtain⟨q,e1,rfl⟩:=Option.map_eq_some_iff.1 e;have A:=hk H q e1
  have B:=POk.lay (l:=[q.1]) A.w A.t (fun hu hw ht=>by
   obtain⟨u1,u2⟩:=A.u hu hw ht
   exact⟨fun x hx=>by rw[List.mem_singleton.1 hx]; exact u1,u2⟩)
  refine⟨B.w,B.t,fun hu hw ht=>⟨?_,(B.u hu hw ht).2⟩⟩;have hw':(q.2.W++[q.1]).length≤1073741824:=hw;rw[List.length_append] at hw';show UW ((q.2.W.length:Int)+1);unfold UW;omega
theorem qMi(h:(fopen m t0).kind=4){c d:Nat}(hl:v.l.len≤1000000)(hk:∀ x∈v.l.list,POf (putF m n) (kidT (fopen m t0) 0) x c d):POf (putF m (n+1)) t0 v (v.l.len*c+(v.l.len+1)) (v.l.len*d):=fun H p e=>by
 have e:putT (putF m n) (fopen m t0) v H=some p:=e;unfold putT at e;rw[if_neg (by omega),if_neg (by omega),if_neg (by omega),if_pos (.inl h)] at e;obtain⟨q,e1,rfl⟩:=Option.map_eq_some_iff.1 e;obtain⟨A,L⟩:=qGS (by omega) v.l.list 0 [(v.l.len:Int)] H q hk e1;have hll:v.l.list.length=v.l.len:=rfl;rw[hll] at A L;have hq:q.1.length=v.l.len+1:=by rw[L]; simp; omega
 have B:=POk.lay (l:=q.1) A.w A.t (fun hu hw ht=>A.u (fun x hx=>by rw[List.mem_singleton.1 hx]; unfold UW; omega) hu hw ht);rw[hq] at B;exact B
theorem qPd(h:(fopen m t0).kind=7){c d:Nat}(hk:∀ (j:Nat) (a:List UInt8),(fopen m t0).names.list[j]?=some a→POf (putF m n) (kidT (fopen m t0) j) (fieldM v a) c d):POf (putF m (n+1)) t0 v ((fopen m t0).names.len*c+(fopen m t0).names.len) ((fopen m t0).names.len*d):=fun H p e=>by
 have e:putT (putF m n) (fopen m t0) v H=some p:=e;unfold putT at e;rw[if_neg (by omega),if_neg (by omega),if_neg (by omega),if_neg (by omega),if_neg (by omega),if_pos h] at e;obtain⟨q,e1,rfl⟩:=Option.map_eq_some_iff.1 e;obtain⟨A,L⟩:=qIr (fopen m t0).names.list 0 [] H q (fun j a hj=>by rw[Nat.zero_add]; exact hk j a hj) e1;have hll:(fopen m t0).names.list.length=(fopen m t0).names.len:=rfl;rw[hll] at A L;have hq:q.1.length=(fopen m t0).names.len:=by rw[L]; simp
 have B:=POk.lay (l:=q.1) A.w A.t (fun hu hw ht=>A.u (fun x hx=>by cases hx) hu hw ht);rw[hq] at B;exact B
theorem POf.le{c d c' d':Nat}{P:PutF}{t:TT}(A:POf P t v c d)(hc:c≤c')(hd:d≤d'):POf P t v c' d':=fun H p e=>by
 have B:=A H p e;exact⟨⟨B.w.1,by have:=B.w.2; omega⟩,⟨B.t.1,by have:=B.t.2; omega⟩,B.u⟩
end
open Go Go.AI
abbrev RowD:=Int×List UInt8×Nat×Bool
def recV(d:RowD):VT := .mk 5 false 0 [] (.mk true ksN) (.mk true (three d.1 d.2.1 d.2.2.1 d.2.2.2))
def rowOK(d:RowD):Prop := -9223372036854775808≤d.1∧d.1<9223372036854775808∧d.2.1.length≤1000∧(d.2.2.1=0∨d.2.2.1=1∨d.2.2.1=2)
theorem qPf(d:RowD)(h:rowOK d):fitF [] 3 recT (recV d)=some ([],true):=by
 obtain⟨n,t,m,z⟩:=d;obtain⟨_,_,_,hm⟩:=h;dsimp only at hm
 rcases hm with rfl|rfl|rfl <;> cases z <;> rfl
theorem qMX(D:List RowD)(h:∀ d∈D,rowOK d)(i:Nat):eachL (fitF [] 3) placeL recT (D.map recV) i=some ([],true):=by
 induction D generalizing i with
 |nil=>rfl
 |cons d D ih =>
  rw[List.map_cons,eachL,qPf d (h d (List.mem_cons_self ..))];exact ih (fun x hx=>h x (List.mem_cons_of_mem _ hx)) (i+1)
def manyV(L:Sl VT):VT := .mk 4 false 0 [] .nil L
theorem qHH(D:List RowD)(h:∀ d∈D,rowOK d)(hD:D.length≤20)(L:Sl VT)(hL:L.list=D.map recV):fitF [] 4 mainT (manyV L)=some ([],true):=by
 have hb:bigB mainT (manyV L)=false:=by
  have:L.len=D.length:=by unfold Sl.len; rw[hL,List.length_map]
  show(decide (4611686018427387904≤0)||decide (4611686018427387904≤1)||decide (4611686018427387904≤0)||decide (4611686018427387904≤L.len))=false;rw[this];simp; omega
 show(if bigB mainT (manyV L)=true then none else eachF (fitF [] 3) placeL mainT (manyV L) 4)=_;rw[hb,if_neg (by decide)];show eachL (fitF [] 3) placeL recT L.list 0=_;rw[hL]; exact qMX D h 0
theorem qDf(n:Int)(t:List UInt8)(m:Nat)(z:Bool):∀ x∈three n t m z,x=iT n∨x=sT t∨x=bT (decide (n<0))∨x = .nul:=by
 intro x hx;unfold three at hx;split at hx
 ·have:=List.mem_or_eq_of_mem_set hx
  rcases this with h|h
  ·simp at h; rcases h with h|h|h <;> simp[h]
  ·simp[h]
 ·simp at hx; rcases hx with h|h|h <;> simp[h]
theorem qD5(k:Int)(b:Bool)(n:Int)(s:List UInt8)(hs:s.length≤100000):smV (.mk k b n s .nil .nil):=(qAW _).2 ⟨hs,by show 0≤1000; decide,by show 0≤1000; decide,fun x hx=>by cases hx⟩
theorem qEp(n:Int)(t:List UInt8)(m:Nat)(z:Bool):(three n t m z).length=3:=by unfold three; split <;> simp
theorem qQT(d:RowD)(h:rowOK d):smV (recV d):=by
 obtain⟨h1,h2,h3,h4⟩:=h;refine(qAW _).2 ⟨by show 0≤100000; decide,by show 3≤1000; decide,by show(three _ _ _ _).length≤1000; rw[qEp]; decide,fun x hx => ?_⟩
 rcases qDf _ _ _ _ x hx with rfl|rfl|rfl|rfl
 ·exact qD5 _ _ _ _ (by decide)
 ·exact qD5 _ _ _ _ (by omega)
 ·exact qD5 _ _ _ _ (by decide)
 ·exact qD5 _ _ _ _ (by decide)
theorem qO4(D:List RowD)(h:∀ d∈D,rowOK d)(hD:D.length≤20)(L:Sl VT)(hL:L.list=D.map recV):smV (manyV L):=by
 refine(qAW _).2 ⟨by show 0≤100000; decide,by show 0≤1000; decide,by show L.list.length≤1000; rw[hL,List.length_map]; omega,fun x hx => ?_⟩;have hx:x∈L.list:=hx;rw[hL] at hx;obtain⟨d,hd,rfl⟩:=List.mem_map.1 hx;exact qQT d (h d hd)
theorem qLo:∀ {l:List VT},(∀ x∈l,okA x)→okL l
 |[],_=>by rw[okL]; trivial
 |x::l,h=>by rw[okL]; exact⟨h x (List.mem_cons_self ..),qLo fun y hy=>h y (List.mem_cons_of_mem _ hy)⟩
theorem qJY:(-9223372036854775808:Int)≤0:=by decide
theorem qJd:(0:Int)<9223372036854775808:=by decide
theorem z1m:(0:Nat)≤1000000:=by decide
theorem qCx{k:Int}{b:Bool}{n:Int}{s:List UInt8}{ks:Sl (List UInt8)}{l:Sl VT}(h:okV (.mk k b n s ks l))(hl:∀ x∈l.list,okA x):okA (.mk k b n s ks l):=by
 rw[okA];refine⟨h,?_⟩;cases l with
 |nil=>rw[okS]; trivial
 |mk t l=>rw[okS]; exact qLo hl
theorem qOM(d:RowD)(h:rowOK d):okA (recV d):=by
 obtain⟨n,t,m,z⟩:=d;obtain⟨h1,h2,h3,h4⟩:=h;dsimp only at h1 h2 h3 h4;refine qCx ⟨?_,qJY,qJd,by show(three n t m z).length≤1000000; rw[qEp]; decide⟩ fun x hx => ?_
 ·rcases h4 with rfl|rfl|rfl <;> cases z <;> rfl
 ·rcases qDf _ _ _ _ x hx with rfl|rfl|rfl|rfl
  ·exact qCx ⟨rfl,h1,h2,z1m⟩ fun x hx=>by cases hx
  ·exact qCx ⟨rfl,qJY,qJd,z1m⟩ fun x hx=>by cases hx
  ·exact qCx ⟨rfl,qJY,qJd,z1m⟩ fun x hx=>by cases hx
  ·exact qCx ⟨rfl,qJY,qJd,z1m⟩ fun x hx=>by cases hx
theorem qM5(D:List RowD)(h:∀ d∈D,rowOK d)(hD:D.length≤20)(L:Sl VT)(hL:L.list=D.map recV):okA (manyV L):=by
 refine qCx ⟨?_,by show(-9223372036854775808:Int)≤0; decide,by show(0:Int)<9223372036854775808; decide,?_⟩ fun x hx => ?_
 ·rfl
 ·show L.list.length≤1000000;rw[hL,List.length_map]; omega
 ·rw[hL] at hx;obtain⟨d,hd,rfl⟩:=List.mem_map.1 hx;exact qOM d (h d hd)
theorem qFg:wfT mainT:=by
 simp[mainT,recT,optT,wfT,wfS,wfL,Sl.len,Sl.list]
theorem qNN(d:RowD)(h:rowOK d):fullF [] 4 recT (recV d)=some (.mk 5 false 0 [] (grown ksN) (grown (three d.1 d.2.1 d.2.2.1 d.2.2.2))):=by
 obtain⟨n,t,m,z⟩:=d;obtain⟨_,_,_,hm⟩:=h;dsimp only at hm
 rcases hm with rfl|rfl|rfl <;> cases z <;> rfl
theorem qL0(D:List RowD)(h:∀ d∈D,rowOK d):fullL (fullF [] 4) mainT (D.map recV)=some (D.map fun d => .mk 5 false 0 [] (grown ksN) (grown (three d.1 d.2.1 d.2.2.1 d.2.2.2))):=by
 induction D with
 |nil=>rfl
 |cons d D ih =>
  rw[List.map_cons,fullL,show kidT mainT 0=recT from rfl,qNN d (h d (List.mem_cons_self ..)),Option.bind_some,ih fun x hx=>h x (List.mem_cons_of_mem _ hx)];rfl
theorem qLy(D:List RowD)(h:∀ d∈D,rowOK d)(L:Sl VT)(hL:L.list=D.map recV):fullF [] 5 mainT (manyV L)=some (.mk 4 false 0 [] .nil (grown (D.map fun d => .mk 5 false 0 [] (grown ksN) (grown (three d.1 d.2.1 d.2.2.1 d.2.2.2))))):=by
 show(fullL (fullF [] 4) mainT L.list).map _=_;rw[hL,qL0 D h]; rfl
theorem qK7(k:Int)(b:Bool)(n:Int)(s:List UInt8):sameV (.mk k b n s .nil .nil) (.mk k b n s .nil .nil)=true:=qBH rfl rfl rfl rfl (by rw[show(Sl.nil:Sl VT).list=[] from rfl]; exact qBi _)
theorem qLr:∀ l:List VT,(∀ x∈l,sameV x x=true)→sameL l l=true
 |[],_=>qBi _
 |x::l,h=>by rw[sameL,h x (List.mem_cons_self ..),qLr l fun y hy=>h y (List.mem_cons_of_mem _ hy)]; rfl
theorem qGv{α:Type}(l:List α):(grown l).list=l:=by cases l <;> rfl
theorem qMK(d:RowD):sameV (.mk 5 false 0 [] (grown ksN) (grown (three d.1 d.2.1 d.2.2.1 d.2.2.2))) (recV d)=true:=by
 refine qBH rfl rfl rfl (by rw[qGv]; rfl) ?_;rw[qGv];show sameL _ (three d.1 d.2.1 d.2.2.1 d.2.2.2)=true;refine qLr _ fun x hx => ?_
 rcases qDf _ _ _ _ x hx with rfl|rfl|rfl|rfl <;> exact qK7 _ _ _ _
theorem qIL:∀ D:List RowD,sameL (D.map fun d => .mk 5 false 0 [] (grown ksN) (grown (three d.1 d.2.1 d.2.2.1 d.2.2.2))) (D.map recV)=true
 |[]=>qBi _
 |d::D=>by rw[List.map_cons,List.map_cons,sameL,qMK,qIL D]; rfl
theorem qK5(D:List RowD)(L:Sl VT)(hL:L.list=D.map recV):sameV (.mk 4 false 0 [] .nil (grown (D.map fun d => .mk 5 false 0 [] (grown ksN) (grown (three d.1 d.2.1 d.2.2.1 d.2.2.2))))) (manyV L)=true :=
 qBH rfl rfl rfl rfl (by rw[qGv,hL]; exact qIL D)
theorem qLa{d:RowD}(j:Nat)(a:List UInt8)(hj:ksN[j]?=some a):POf (putF [] 3) (kidT recT j) (fieldM (recV d) a) 1 1:=by
 match j with
 |0=>exact(qFU (t0:=optT 2) rfl (qO3 (t0 := .mk 2 [] .nil .nil) rfl)).le (by decide) (by decide)
 |1=>exact(qFU (t0:=optT 3) rfl (qMp (t0 := .mk 3 [] .nil .nil) rfl)).le (by decide) (by decide)
 |2=>exact(qFU (t0:=optT 1) rfl (qMk (t0 := .mk 1 [] .nil .nil) rfl)).le (by decide) (by decide)
 |j+3=>cases hj
theorem qMr(D:List RowD)(hD:D.length≤20)(L:Sl VT)(hL:L.list=D.map recV):POf (putF [] 5) mainT (manyV L) 1000 1000:=by
 have hl:L.len=D.length:=by unfold Sl.len; rw[hL,List.length_map]
 have A:=qMi (m:=[]) (n:=4) (t0:=mainT) (v:=manyV L) rfl (c:=6) (d:=3) (by show L.len≤1000000; omega) (fun x hx=>by
  have hx:x∈L.list:=hx;rw[hL] at hx;obtain⟨d,hd,rfl⟩:=List.mem_map.1 hx
  exact qPd (m:=[]) (n:=3) (t0:=recT) (v:=recV d) rfl (c:=1) (d:=1) fun j a hj=>qLa j a hj)
 have e:(manyV L).l.len=L.len:=rfl;rw[e,hl] at A;exact A.le (by omega) (by omega)
theorem qJl(D:List RowD)(h:∀ d∈D,rowOK d)(hD:D.length≤20)(L:Sl VT)(hL:L.list=D.map recV) :
  ∃ q y z,putF [] 5 mainT (manyV L) V0=some q∧q.2.W.length≤1000∧q.2.T.length≤1000∧UW q.1∧(∀ x∈q.2.W,UW x)∧getF [] (layM [q.1] q.2).2 5 mainT q.1=some y∧fullF [] 5 mainT (manyV L)=some z∧sameV y z=true∧sameV z (manyV L)=true:=by
 obtain⟨q,h1,h2⟩:=qG8 [] 4 mainT (manyV L) _ (qHH D h hD L hL) rfl (qM5 D h hD L hL) V0;obtain⟨y,z,h3,h4,h5⟩:=h2 (layM [q.1] q.2).2 (qBS _ _);have P:=qMr D hD L hL V0 q h1;have w1:q.2.W.length≤1000:=by have:=P.w.2; show _≤_; simpa [V0] using this
 have w2:q.2.T.length≤1000:=by have:=P.t.2; show _≤_; simpa [V0] using this
 obtain⟨u1,u2⟩:=P.u (fun x hx=>by cases hx) (by omega) (by omega);refine⟨q,y,z,h1,w1,w2,u1,u2,h3,h4,h5,?_⟩;rw[qLy D h L hL] at h4;cases h4;exact qK5 D L hL
theorem qNM(a n:Int)(hn:0<n)(hs:n<1000000):Om 26 [kI a,kI n] []=some (kI (withinM a n),[]):=by
 refine(qAE rfl).trans ?_;show lim tab.get S 26 0 0 [kI a,kI n] h0=_;have hb:=qE8 a n hn;rw[w26_0,b26_0];unfold withinM at hb ⊢;by_cases h:a.tmod n<0
 ·rw[if_pos h] at hb ⊢;have hw:IntKind.i64.wrap (a.tmod n+n)=a.tmod n+n:=qES _ (by omega) (by omega);simp (maxSteps:=9999999) +contextual only[exa,rA,rB,rC,rD,rE,rF,rG,rH,rI,qDF 0 .i64 a n (by omega),h,hw,oneOf]
 ·rw[if_neg h];simp (maxSteps:=9999999) +contextual only[exa,rA,rB,rC,rD,rE,rF,rG,rH,rI,qDF 0 .i64 a n (by omega),h,oneOf]
noncomputable abbrev Z6:ZapF:=zapB fun l=>if l=2 then some (1,5) else none
noncomputable abbrev LZ:Jump:=limZ c6 Om Z6 0
theorem z_0(x0 x1 x2:TVal)(h:Heap):LZ 0 [x0,x1,x2] h=b6_0 Om (jumpZ c6 Om Z6 0) 0 x0 x1 x2 h:=(qFe _ _ _).trans (e6_0 ..).symm
theorem z_1(x0 x1 x2 x7 x9 x10:TVal)(h:Heap):LZ 1 [x0,x1,x2,x7,x9,x10] h=b6_1 Om (jumpZ c6 Om Z6 0) 0 x0 x1 x2 x7 x9 x10 h:=(qFe _ _ _).trans (e6_1 ..).symm
theorem z_2(x7 x9:TVal)(h:Heap):LZ 2 [x7,x9] h=b6_2 Om (jumpZ c6 Om Z6 0) 0 x7 x9 h:=(qFe _ _ _).trans (e6_2 ..).symm
theorem jz_1(vs:List TVal)(h:Heap):jumpZ c6 Om Z6 0 1 vs h=LZ 1 vs h:=rfl
def dataL(bs:List UInt8)(g:Int)(s:List Int)(i:Nat):List RowD:=match s with
 |[]=>[]
 |n::l=>(n,bs.drop i,i % 3,!decide ((i:Int).tmod g=0))::dataL bs g l (i+1)
theorem qHV(bs:List UInt8)(g:Int):∀ (s:List Int) (i:Nat),(dataL bs g s i).length=s.length
 |[],_=>rfl
 |n::l,i=>by rw[dataL,List.length_cons,qHV bs g l,List.length_cons]
theorem qIT(bs:List UInt8)(hb:bs.length≤100)(g:Int):∀ (s:List Int) (i:Nat),(∀ n∈s,-9223372036854775808≤n∧n≤9223372036854775807)→∀ d∈dataL bs g s i,rowOK d
 |[],_,_,d,hd=>by cases hd
 |n::l,i,hn,d,hd=>by
  rw[dataL] at hd
  rcases List.mem_cons.1 hd with rfl|hd
  ·have:=hn n (List.mem_cons_self ..);refine⟨this.1,by omega,by show(bs.drop i).length≤1000; rw[List.length_drop]; omega,by show i % 3=0∨i % 3=1∨i % 3=2; omega⟩
  ·exact qIT bs hb g l (i+1) (fun x hx=>hn x (List.mem_cons_of_mem _ hx)) d hd
theorem qOe(d:RowD)(r:Nat):(⟨preT,r,(three d.1 d.2.1 d.2.2.1 d.2.2.2).map VT.row⟩:TabB).row=(recV d).row:=by
 unfold TabB.row recV;rw[VT.row_eq]; rfl
theorem qLj(s:Sl Int)(hs:s.len≤20)(bs:List UInt8)(x1:TVal)(g:Int)(hg:0<g)
  (SL:∀ (h:Heap) (d:Nat) (kt:VtK),vtouch Om (.len 2 (.k x1)) h d kt=kt (kI (bs.length:Int)) h noTouch) (X52:Nat→TVal)
  (SX:∀ (i:Nat) (h:Heap) (d:Nat) (kt:VtK),vtouch Om (.slice 1 false (.k x1) (some (.k (kI ((min i bs.length:Nat):Int)))) none none) h d kt=kt (X52 i) h noTouch)
  (ST:∀ (i:Nat) (h:Heap) (d:Nat) (kt:VtK),vtouch Om (.toStr (.k (X52 i))) h d kt=kt (kS (bs.drop i)) h noTouch) :
  ∀ (i:Nat) (h:Heap) (E:List TabB) (c9:Cell),E.length=i→MH E c9 h →
   ∃ E' c9' h',E'.map TabB.row=(dataL bs g (s.list.drop i) i).map (fun d=>(recV d).row)∧MH (E++E') c9' h'∧LZ 1 [.v (.c (.p (slP 1 iRow s))),x1,kI g,oP 7,oP 9,kI (i:Int)] h=jumpZ c6 Om Z6 0 2 [oP 7,oP 9] h':=by
 refine qAL s.len (fun i hi h E c9 hE H => ?_) (fun i hi ih h E c9 hE H => ?_)
 ·have h1:¬ (i:Int)<(s.len:Int):=by omega
  refine⟨[],c9,h,by rw[qAX hi]; rfl,by rw[List.append_nil]; exact H,?_⟩;rw[z_1,b6_1];simp (maxSteps:=9999999) +contextual only[exa,rA,rB,rC,rD,rE,rF,rG,rH,rI,h1]
 ·obtain⟨n,hn,h2,_⟩:=qAO hi;have hn':s.list[i]?=some n:=by
   have:=congrArg (fun l:List Int=>l[0]?) h2
   simpa using this
  obtain⟨c9',h',H',e⟩:=qKJ s bs x1 g hg i (by omega) n hn' E hE c9 h H SL (X52 i) (SX i) (ST i);obtain⟨E',c9'',h'',q1,q2,q3⟩:=ih h' _ c9' (by rw[List.length_append,hE]; rfl) H';refine⟨⟨preT,h.ims.length,(three n (bs.drop i) (i % 3) (!decide ((i:Int).tmod g=0))).map VT.row⟩::E',c9'',h'',?_,by rw[List.append_assoc] at q2; exact q2,?_⟩
  ·rw[h2,dataL,List.map_cons,List.map_cons,q1,qOe (n,bs.drop i,i % 3,!decide ((i:Int).tmod g=0))]
  ·rw[z_1,e,jz_1,q3]
end Go.Proofs.YtlkejchbcchecaaDoor.Ab
namespace Go.AI
theorem At.ownI{h:Heap}{ρ:List Ref}{C:List AObj}(A:At h ρ C)(him:∀ r∈ρ,∃ i,r = .im i)(d g:Nat)(o:AObj):At (h.own d g o) ρ C :=
 ⟨A.nodup,A.len,fun i r q e1 e2=>by
  obtain⟨j,rfl⟩:=him r (List.mem_of_getElem? e1)
  exact A.get i _ q e1 e2⟩
end Go.AI
namespace Go.Proofs.YtlkejchbcchecaaDoor.Ab
open Go Go.AI
theorem qQi(rows:List (List PVal))(D:List RowD)(h:rows=D.map fun d=>(recV d).row):PVal.slice 6 false rows=slP 6 VT.row (.mk false (D.map recV)):=by
 rw[h];show _=PVal.slice 6 false ((D.map recV).map VT.row);rw[List.map_map]; rfl
theorem qMY(E:List TabB)(c9:Cell)(h:Heap)(H:MH E c9 h)(D:List RowD)(hD:E.map TabB.row=D.map fun d=>(recV d).row) :
  ∃ (L:Sl VT) (h2:Heap),L.list=D.map recV∧h2.get (.own 7 1)=some (.cells (pcells schS.row) 0)∧h2.get (.own 9 1)=some (.cells (pcells (manyV L).row) 0)∧jumpZ c6 Om Z6 0 2 [oP 7,oP 9] h=LZ 2 [oP 7,oP 9] h2:=by
 have em:∀ L:Sl VT,pcells (manyV L).row=[.p (.int .i64 4),.p (.bool false),.p (.int .i64 0),.p (.str []),.p .nilslice,.p (slP 6 VT.row L)]:=fun L=>by rw[VT.row_eq]; rfl
 rcases H.c9 with ⟨rfl,rfl⟩|⟨hne,j,rfl,hj,_⟩
 ·have hd:D=[]:=by simpa using hD.symm
  subst hd;refine⟨.nil,h.put (.own 9 1) (.cells [.p (.int .i64 4),.p (.bool false),.p (.int .i64 0),.p (.str []),.p .nilslice,.p .nilslice] 0),rfl,?_,?_,?_⟩
  ·exact(Heap.own_get_ne _ 9 _ _ 7 1 (by decide)).trans H.h7
  ·rw[em];exact Heap.own_get _ _ _ _ (by decide) (fun e=>by cases e)
  ·show LZ 2 (Z6 2 [oP 7,oP 9] h).1 (Z6 2 [oP 7,oP 9] h).2=_;have:Z6 2 [oP 7,oP 9] h=([oP 7,oP 9],h.put (.own 9 1) (.cells [.p (.int .i64 4),.p (.bool false),.p (.int .i64 0),.p (.str []),.p .nilslice,.p .nilslice] 0)):=by
    show(match h.get (.own 9 1) with|some (.cells cs _)=>_|_=>_)=_;rw[H.h9];show(match (AI.settle h []).get (.own 9 1) with|some (.cells cs1 imm1)=>_|_=>_)=_;rw[show AI.settle h []=h from rfl,H.h9]; rfl
   rw[this]
 ·obtain⟨rs,f1,f2⟩:=qLS h E H.ats j hj;obtain⟨s1,s2,s3⟩:=qDU rs h f2;have e9:=(s1 9 1).trans H.h9;refine⟨.mk false (D.map recV),(AI.settle h rs).put (.own 9 1) (.cells [.p (.int .i64 4),.p (.bool false),.p (.int .i64 0),.p (.str []),.p .nilslice,.p (.slice 6 false (E.map TabB.row))] 0),rfl,?_,?_,?_⟩
  ·exact(Heap.own_get_ne _ 9 _ _ 7 1 (by decide)).trans ((s1 7 1).trans H.h7)
  ·rw[em,← qQi _ D hD];exact Heap.own_get _ _ _ _ (by decide) (fun e=>by cases e)
  ·show LZ 2 (Z6 2 [oP 7,oP 9] h).1 (Z6 2 [oP 7,oP 9] h).2=_;have:Z6 2 [oP 7,oP 9] h=([oP 7,oP 9],(AI.settle h rs).put (.own 9 1) (.cells [.p (.int .i64 4),.p (.bool false),.p (.int .i64 0),.p (.str []),.p .nilslice,.p (.slice 6 false (E.map TabB.row))] 0)):=by
    show(match h.get (.own 9 1) with|some (.cells cs _)=>_|_=>_)=_;rw[H.h9];show(match AI.freeze h fuelFreeze (.sref (.im j) 0 E.length none 6) with|some (p,rs)=>_|none=>_)=_;rw[f1];show(match (AI.settle h rs).get (.own 9 1) with|some (.cells cs1 imm1)=>_|_=>_)=_;rw[e9]; rfl
   rw[this]
theorem qK3:schS.types = .nil:=rfl
theorem qIi:∀ (m:Nat) (v w:VT),SizeOf.sizeOf v<m→sameV v w=true→smV w→smV v:=by
 intro m
 induction m with
 |zero=>intro v w h; omega
 |succ m ih =>
  intro v w h e sw;rw[qEK] at e;simp only[Bool.and_eq_true,decide_eq_true_eq] at e;obtain⟨⟨⟨⟨⟨e1,e2⟩,e3⟩,e4⟩,e5⟩,e6⟩:=e;obtain⟨s1,s2,s3,s4⟩:=(qAW w).1 sw;have key:∀ (l l':List VT),sameL l l'=true→l.length=l'.length∧∀ x∈l,∃ y∈l',sameV x y=true:=by
   intro l
   induction l with
   |nil=>intro l' h; cases l' with
    |nil=>exact⟨rfl,fun x hx=>by cases hx⟩
    |cons a l'=>rw[qBi] at h; cases h
   |cons a l ihl=>intro l' h; cases l' with
    |nil=>rw[sameL] at h; cases h; all_goals (intros; contradiction)
    |cons b l' =>
     rw[sameL,Bool.and_eq_true] at h;obtain⟨k1,k2⟩:=ihl l' h.2;refine⟨by simp[k1],fun x hx => ?_⟩
     rcases List.mem_cons.1 hx with rfl|hx
     ·exact⟨b,by simp,h.1⟩
     ·obtain⟨y,hy,hxy⟩:=k2 x hx;exact⟨y,by simp[hy],hxy⟩
  obtain⟨k1,k2⟩:=key _ _ e6;refine(qAW v).2 ⟨by rw[e4]; exact s1,by unfold Sl.len at s2 ⊢; rw[e5]; exact s2,by unfold Sl.len at s3 ⊢; rw[k1]; exact s3,fun x hx => ?_⟩;obtain⟨y,hy,hxy⟩:=k2 x hx;exact ih x y (by have:=VT.mem_size hx; omega) hxy (s4 y hy)
theorem qMP(D:List RowD)(hD:∀ d∈D,rowOK d)(hl:D.length≤20)(L:Sl VT)(hL:L.list=D.map recV)(h:Heap)(g7:h.get (.own 7 1)=some (.cells (pcells schS.row) 0))(g9:h.get (.own 9 1)=some (.cells (pcells (manyV L).row) 0)) :
  LZ 2 [oP 7,oP 9] h=some (kB true,[]):=by
 obtain⟨q,y,z,p1,p2,p3,p4,p5,p6,p7,p8,p9⟩:=qJl D hD hl L hL;have fit:=qHH D hD hl L hL;have sm:=qO4 D hD hl L hL;have P:=qOD schS qK3 mainT qFg (manyV L) sm 4 _ fit rfl 5 q p1 (by omega) (by omega);have F:=qMq schS qK3 4 mainT (manyV L) z qFg sm _ fit rfl p7;have UF:=fun(β:Type) (k:TVal→Heap→Option β) (h:Heap) (d:Nat)=>qAH (k:=k) (h:=h) (d:=d) 27 [kA schS.row,kA mainT.row,kA (manyV L).row] _ (by simp only[exP]) F (by simp only[exP])
 obtain⟨h1,t1,c1,_,A1,K1,G1,L1,_⟩:=qLe (pl:=[kA schS.row,kA mainT.row,kA (manyV L).row]) (by simp only[exP]) P (qB7 _ _ mainT q.1).1 h;generalize hC:rowsC (layM [q.1] q.2).2 [] mainT q.1=C at A1 L1 c1;generalize hρ:((List.range C.length).map fun i=>Ref.im (h.ims.length+i))=ρ at A1;have hCl:0<C.length:=by rw[← hC]; exact Nat.succ_pos _
 have r0:ρ[0]?=some (.im (h.ims.length+0)):=by rw[← hρ,List.getElem?_map,List.getElem?_range hCl]; rfl
 have him:∀ r∈ρ,∃ i,r = .im i:=fun r hr=>by rw[← hρ] at hr; obtain⟨i,_,rfl⟩:=List.mem_map.1 hr; exact⟨_,rfl⟩
 have er:(TVal.tup [.c (.ptr (.im 0) 0),.c (.p (.str [])),.c (.p (.int .i64 0))]).ren (back [] C.length (newRef h.ims.length)) = .tup [.c (.ptr (.im (h.ims.length+0)) 0),.c (.p (.str [])),.c (.p (.int .i64 0))]:=by
  have hb:Nat.blt 0 C.length=true:=by rw[Nat.blt_eq]; exact hCl
  show TVal.tup [.c (match back [] C.length (newRef h.ims.length) (.im 0) with|some s => .ptr s 0|none => .junk),_,_]=_;have:back [] C.length (newRef h.ims.length) (.im 0)=some (.im (h.ims.length+0)):=by
   simp only[back,List.getElem?_nil,hb,cond_true,newRef,List.length_nil,Nat.sub_zero]
  rw[this]; rfl
 rw[er] at c1;generalize Ref.im (h.ims.length+0)=r at c1 r0;have FI:Fine (layM [q.1] q.2).2 []:=by
  have hw:(layM [q.1] q.2).2.W=q.2.W++[q.1]:=rfl;refine⟨by rw[hw,List.length_append]; simp; omega,by show q.2.T.length≤_; omega,by decide,(fun e he=>by cases he),fun x hx => ?_⟩;rw[hw] at hx
  rcases List.mem_append.1 hx with h'|h'
  ·exact p5 x h'
  ·rw[List.mem_singleton.1 h']; exact p4
 have V25:=qL1 (layM [q.1] q.2).2 [] FI 5 mainT qFg q.1 p4.1 p4.2 y p6;rw[hC] at V25;have RC:Rooted C:=by rw[← hC]; exact qB7 _ _ mainT q.1
 generalize hH:(h1.own 15 (h1.gen 15+1) (.cells [.p (.int .i64 0),.p (.bool false),.p (.int .i64 0),.p (.str []),.p .nilslice,.p .nilslice] 0)).own 15 (h1.gen 15+1) (.cells (pcells z.row) 0)=h2;have A2:At h2 ρ C:=by rw[← hH]; exact(A1.ownI him _ _ _).ownI him _ _ _
 obtain⟨_,t25,T25,c25⟩:=qC9 A2 RC him r0 25 [] rfl (kA y.row) (by simp only[exP]) V25;have C25:=fun(β:Type) (kt:TVal→Heap→AI.Touch→Option β)=>c25 (β:=β) 117 kt
 simp only[List.map_nil] at C25;have k7:=K1 _ _ g7;have k9:=K1 _ _ g9;have k9':h2.get (.own 9 1)=some (.cells (pcells (manyV L).row) 0):=by rw[← hH]; exact(Heap.own_get_ne _ 15 _ _ 9 1 (by decide)).trans ((Heap.own_get_ne _ 15 _ _ 9 1 (by decide)).trans k9)
 have k15:h2.get (.own 15 (h1.gen 15+1))=some (.cells (pcells z.row) 0):=by rw[← hH]; simp only[exa,rA,rB,rC,rD,rE,rF,rG,rH,rI]
 have smz:=qIi _ z (manyV L) (Nat.lt_succ_self _) p9 sm;have smy:=qIi _ y z (Nat.lt_succ_self _) p8 smz;have S1:=qIN _ y (Nat.lt_succ_self _) smy z;have S2:=qIN _ z (Nat.lt_succ_self _) smz (manyV L);rw[p8] at S1;rw[p9] at S2;have U1:=fun(β:Type) (kt:TVal→Heap→AI.Touch→Option β) (h:Heap) (d:Nat)=>qBM (kt:=kt) (h:=h) (d:=d) 24 [kA y.row,kA z.row] _ (by simp only[exP]) S1 rfl
 have U2:=fun(β:Type) (kt:TVal→Heap→AI.Touch→Option β) (h:Heap) (d:Nat)=>qBM (kt:=kt) (h:=h) (d:=d) 24 [kA z.row,kA (manyV L).row] _ (by simp only[exP]) S2 rfl
 simp only[List.map_cons,List.map_nil] at U1 U2;have TL:=T25.look_r 15 (h1.gen 15+1);have M4:(pcells schS.row).take 4=pcells mainT.row:=rfl;have l6:(pcells schS.row).length=6:=rfl;have lv:(pcells (manyV L).row).length=6:=by rw[qAp,VT.row_len]
 have lz:(pcells z.row).length=6:=by rw[qAp,VT.row_len]
 have m4:(pcells mainT.row).length=4:=rfl;have tv:(pcells (manyV L).row).take 6=pcells (manyV L).row:=List.take_of_length_le (by omega);have tz:(pcells z.row).take 6=pcells z.row:=List.take_of_length_le (by omega);have ts:(pcells schS.row).take 6=pcells schS.row:=rfl;have C1:∀ (β:Type) (k:TVal→Heap→Option β) (d:Nat),vcall Om (.v (.c (.func 23 []))) [.v (.agg (pcells schS.row)),.v (.agg (pcells mainT.row)),.v (.agg (pcells (manyV L).row))] h d k=k (.tup [.c (.ptr r 0),.c (.p (.str [])),.c (.p (.int .i64 0))]) h1:=fun β k d=>c1 d k
 have UF':∀ (β:Type) (k:TVal→Heap→Option β) (h:Heap) (d:Nat),vcall Om (.v (.c (.func 27 []))) [.v (.agg (pcells schS.row)),.v (.agg (pcells mainT.row)),.v (.agg (pcells (manyV L).row))] h d k=k (.tup [.agg (pcells z.row),.c (.p (.int .i64 0))]) h:=UF;have U2':∀ (β:Type) (kt:TVal→Heap→AI.Touch→Option β) (h:Heap) (d:Nat),vtouch Om (.call (.k (.v (.c (.func 24 [])))) [.k (.v (.agg (pcells z.row))),.k (.v (.agg (pcells (manyV L).row)))]) h d kt=kt (kB true) h noTouch:=U2;have GT:∀ (doit:(TVal→Heap→AI.Touch→Option (TVal×List AObj))→Option (TVal×List AObj)) (h:Heap) (k:TVal→Heap→AI.Touch→Option (TVal×List AObj)),vguardT (kB true) true doit h k=doit k:=fun _ _ _=>rfl
 have PK:∀ (a b:TVal) (h:Heap) (d:Nat) (kt:TVal→Heap→AI.Touch→Option (TVal×List AObj)),vtouch Om (.pick (.k (kB true)) (.k a) (.k b)) h d kt=kt a h noTouch:=fun _ _ _ _ _=>rfl
 rw[z_2,b6_2];generalize pcells (manyV L).row=cV at *;generalize pcells schS.row=cS at *;generalize pcells mainT.row=cM at *;have PZ:put1 z6c' 0 (pcells z.row)=pcells z.row:=qAl _ (VT.row_len z);simp (maxSteps:=9999999) +contextual only[exa,rA,rB,rC,rD,rE,rF,rG,rH,rI,exW,exY,g7,g9,C1,UF',k7,k9,hH,M4,l6,lv,lz,m4,tv,tz,ts,PZ,C25,k15,k9',U1,U2',TL,GT,PK]
end Go.Proofs.YtlkejchbcchecaaDoor.Ab
namespace Go.AI
theorem qNe{f:FuncId}{args:List TVal}{objs:List AObj}{r:TVal×List AObj}{S:Oracle}{W:Mach}:orc (addZ f args objs r S) W f args objs=some r:=by
 have:addZ f args objs r S f args objs=some r:=by unfold addZ; rw[if_pos ⟨rfl,rfl,rfl⟩]
 show Option.rec (motive:=fun _=>Res1) _ some (addZ f args objs r S f args objs)=some r;rw[this]
noncomputable def labsB(F:MFunc):Bool:=F.labs.all fun e=>nodupB e.2.1&&e.2.1.all fun x=>Nat.blt (x+1) 1048576
theorem qL5{F:MFunc}(h:labsB F=true):∀ e∈F.labs,nodupB e.2.1=true∧∀ x∈e.2.1,x+1<1048576:=by
 intro e he;have:=List.all_eq_true.1 h e he;rw[Bool.and_eq_true] at this;refine⟨this.1,fun x hx => ?_⟩;have:=List.all_eq_true.1 this.2 x hx
 rwa [Nat.blt_eq] at this
end Go.AI
namespace Go.Proofs.YtlkejchbcchecaaDoor.Ab
open Go Go.AI
theorem n6:labsB c6=true:=by kernel_rfl
theorem zok6[Sym]:ZOK Z6:=zapB_ok _
def byL(o:Option (List Int)):List UInt8:=(intsL o).map fun n=>UInt8.ofNat n.toNat
theorem qIA:∀ l:List Int,bytesOfRows (l.map fun n=>[PVal.int .u8 n])=some (l.map fun n=>UInt8.ofNat n.toNat)
 |[]=>rfl
 |n::l=>by
  show(bytesOfRows (l.map fun n=>[PVal.int .u8 n])).map (UInt8.ofNat n.toNat::·)=_;rw[qIA l]; rfl
abbrev bX(o:Option (List Int)):TVal := .pv (intsP .u8 o)
def x52(o:Option (List Int))(i:Nat):TVal:=match o with
 |none=>kNil
 |some l=>kSl 1 false ((l.map fun n=>[PVal.int .u8 n]).drop (min i l.length))
theorem qQV(o:Option (List Int))(h:Heap)(d:Nat)(kt:VtK):vtouch Om (.len 2 (.k (bX o))) h d kt=kt (kI ((byL o).length:Int)) h noTouch:=by
 unfold byL;rw[List.length_map];cases o with
 |none=>exact qAc _ _ rfl
 |some l =>
  refine qAc _ _ ?_;show some (Plan.pure (.pv (.int .i64 ((l.map fun n=>[PVal.int .u8 n]).length:Int))))=_;rw[List.length_map]; rfl
theorem qMu(rows:List (List PVal))(m:Nat)(hm:m≤rows.length):sliceV 1 false (.p (.slice 1 false rows)) (some m) none none=some (.p (.slice 1 false (rows.drop m))):=by
 unfold sliceV;simp[hm,tightOf]
theorem qQs(m:Nat):optN .nil (some (.k (kI (m:Int))))=some (some m):=by
 simp[optN,X.ev,asN]
theorem qPu(o:Option (List Int))(i:Nat)(h:Heap)(d:Nat)(kt:VtK):vtouch Om (.slice 1 false (.k (bX o)) (some (.k (kI ((min i (byL o).length:Nat):Int)))) none none) h d kt=kt (x52 o i) h noTouch:=by
 refine qAc _ _ ?_;show(match optN .nil (some (.k (kI ((min i (byL o).length:Nat):Int)))),optN .nil none,optN .nil none with|some l,some h,some m=>(sliceV 1 false (.p (intsP .u8 o)) l h m).map fun c=>Plan.pure (.v (.c c))|_,_,_=>none)=_;rw[qQs];show(sliceV 1 false (.p (intsP .u8 o)) (some (min i (byL o).length)) none none).map _=_;unfold byL;rw[List.length_map];cases o with
 |none=>rw[show(intsL none).length=0 from rfl,Nat.min_zero]; rfl
 |some l =>
  show(sliceV 1 false (.p (.slice 1 false (l.map fun n=>[PVal.int .u8 n]))) (some (min i l.length)) none none).map _=_;rw[qMu _ _ (by rw[List.length_map]; omega)]; rfl
theorem qP8(o:Option (List Int))(i:Nat)(h:Heap)(d:Nat)(kt:VtK):vtouch Om (.toStr (.k (x52 o i))) h d kt=kt (kS ((byL o).drop i)) h noTouch:=by
 refine qAc _ _ ?_;unfold byL;cases o with
 |none =>
  show some (Plan.pure (.pv (.str [])))=_;rw[show intsL none=[] from rfl,List.map_nil,List.drop_nil]
 |some l =>
  show(bytesOfRows ((l.map fun n=>[PVal.int .u8 n]).drop (min i l.length))).map _=_;have e:(l.map fun n=>[PVal.int .u8 n]).drop (min i l.length)=(l.drop i).map fun n=>[PVal.int .u8 n]:=by
   rw[← List.map_drop]
   congr 1
   by_cases hi:i≤l.length
   ·rw[Nat.min_eq_left hi]
   ·rw[Nat.min_eq_right (by omega),List.drop_length,List.drop_eq_nil_of_le (by omega)]
  rw[e,qIA,← List.map_drop]; rfl
def maI(o:Option (List Int)):Sl Int:=match o with
 |none => .nil
 |some l => .mk false l
theorem qPz(o:Option (List Int)):intsP .i64 o=slP 1 iRow (maI o):=by cases o <;> rfl
theorem many_lz(o:Option (List Int))(b:Option (List Int))(a:Int)(g:∀ n∈intsL o,-9223372036854775808≤n∧n≤9223372036854775807)(bo:(intsL o).length≤140737488351232)(bb:(intsL b).length≤140737488351232) :
  limZ c6 (orc S (lim tab.get S)) Z6 (lenF ([]:List AObj)) 0 [.pv (intsP .i64 o),.pv (intsP .u8 b),.pv (.int .i64 a)] { ims:=[],owns := .nil }=some (kB true,[]):=by
 show LZ 0 [.pv (intsP .i64 o),bX b,kI a] h0=_;rw[qPz];have hg:∀ n∈(maI o).list,-9223372036854775808≤n∧n≤9223372036854775807:=by cases o <;> exact g
 have hb:(maI o).len≤140737488351232:=by cases o <;> exact bo
 generalize maI o=s at *;have hbl:(byL b).length≤140737488351232:=by unfold byL; rw[List.length_map]; exact bb
 have SL:=qQV b;have SX:=qPu b;have ST:=qP8 b;have VL:∀ (β:Type) (k:TVal→Heap→Option β) (h:Heap) (d:Nat),vlen Om 2 (bX b) h d k=k (kI ((byL b).length:Int)) h:=fun β k h d=>by
  unfold byL;rw[List.length_map];cases b with
  |none=>rfl
  |some l =>
   show vlen Om 2 (.v (.c (.p (.slice 1 false (l.map fun n=>[PVal.int .u8 n]))))) h d k=_;simp (maxSteps:=9999999) +contextual only[exa,rA,rB,rC,rD,rE,rF,rG,rH,rI,List.length_map];rfl
 generalize byL b=bs at *;generalize hX:bX b=x1 at *;have U22:=fun(β:Type) (k:TVal→Heap→Option β) (h:Heap) (d:Nat)=>qAH (k:=k) (h:=h) (d:=d) 22 [] _ rfl qOo rfl
 have U26:=fun(β:Type) (k:TVal→Heap→Option β) (h:Heap) (d:Nat)=>qAH (k:=k) (h:=h) (d:=d) 26 [kI a,kI 5] _ rfl (qNM a 5 (by decide) (by decide)) rfl
 have U18:=fun(β:Type) (k:TVal→Heap→Option β) (h:Heap) (d:Nat)=>qAH (k:=k) (h:=h) (d:=d) 18 [kS z7699737d] _ rfl qOm (by simp only[exP])
 have hw:=qE8 a 5 (by decide);have w1:IntKind.i64.wrap (1+withinM a 5)=1+withinM a 5:=qES _ (by omega) (by omega);rw[z_0,b6_0];by_cases h20:(20:Int)<(s.len:Int)
 ·simp (maxSteps:=9999999) +contextual only[exa,rA,rB,rC,rD,rE,rF,rG,rH,rI,U22,h20]
 ·by_cases h100:(100:Int)<(bs.length:Int)
  ·simp (maxSteps:=9999999) +contextual only[exa,rA,rB,rC,rD,rE,rF,rG,rH,rI,U22,h20,VL,h100]
  ·have P6:put1 z6c' 0 (pcells schS.row)=pcells schS.row:=rfl;have BB:∀ (β:Type) (k:TVal→Heap→Option β) (h:Heap),vop Om (.build z6c' [(0,1,.k (kI 4))]) h 34 k=k (.v (.agg [.p (.int .i64 4),.p (.bool false),.p (.int .i64 0),.p (.str []),.p .nilslice,.p .nilslice])) h:=fun _ _ _=>rfl
   have P9:∀ a b c d e f:Cell,put1 z6c' 0 [a,b,c,d,e,f]=[a,b,c,d,e,f]:=fun _ _ _ _ _ _=>rfl
   have l6:(pcells schS.row).length=6:=rfl;have AL:∀ (β:Type) (k:TVal→Heap→Option β) (h:Heap),vop Om (.alloc [.p (.int .i64 0),.p (.str []),.p .nilslice,.p .nilslice,.p .nilslice,.p .nilslice] false) h 7 k=k (.v (.c (.ptr (.own 7 (h.gen 7+1)) 0))) (h.own 7 (h.gen 7+1) (.cells [.p (.int .i64 0),.p (.str []),.p .nilslice,.p .nilslice,.p .nilslice,.p .nilslice] 0)):=fun _ _ _=>rfl
   have P7:put1 [.p (.int .i64 0),.p (.str []),.p .nilslice,.p .nilslice,.p .nilslice,.p .nilslice] 0 (pcells schS.row)=pcells schS.row:=rfl;simp (maxSteps:=9999999) +contextual only[exa,rA,rB,rC,rD,rE,rF,rG,rH,rI,U22,h20,VL,h100,U26,U18,w1,BB,P9,P7,AL,l6];rw[jz_1];generalize hh:((((Go.AI.h0.own 7 1 _).own 7 1 _).own 9 1 _).own 9 1 _)=h1;have H:MH [] (.p .nilslice) h1:=by
    refine⟨?_,?_,.inl ⟨rfl,rfl⟩,fun e he=>by cases he⟩
    ·rw[← hh]; simp only[exa,rA,rB,rC,rD,rE,rF,rG,rH,rI]
    ·rw[← hh]; simp only[exa,rA,rB,rC,rD,rE,rF,rG,rH,rI]
   obtain⟨E,c9,h2,q1,q2,q3⟩:=qLj s (by omega) bs x1 (1+withinM a 5) (by omega) SL (x52 b) SX ST 0 h1 [] (.p .nilslice) rfl H;rw[List.drop_zero] at q1;rw[List.nil_append] at q2;obtain⟨L,h3,f1,f2,f3,f4⟩:=qMY E c9 h2 q2 _ q1;refine q3.trans (f4.trans ?_);exact qMP _ (qIT bs (by omega) _ s.list 0 hg) (by rw[qHV]; have:s.list.length=s.len:=rfl; omega) L f1 h3 f2 f3
end Go.Proofs.YtlkejchbcchecaaDoor.Ab
