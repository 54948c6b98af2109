/- Own work. Condition: what each theorem names. -/
import Derived.Test.YtnlmlcfipbnpgaaGreatDoorG2
set_option linter.all false
set_option maxRecDepth 100000
set_option maxHeartbeats 4000000
open Nat renaming reduceAdd->rA,reduceMul->rB,reduceLT->rC,reduceLeDiff->rD,reduceEqDiff->rE
open Int renaming reduceLT->rF,reduceLE->rG,reduceEq->rH,reduceToNat->rI
open Option renaming some.injEq->rJ,bind_eq_some_iff->rK,bind_eq_bind->rL
namespace Go.Proofs.YtnlmlcfipbnpgaaGreatDoor.Ab
open Go Go.AI
def jR(p q:LB×TT):Bool:=decide (p.1=q.1)&&kb p.2 q.2
def jG(p q:GS):Bool:=(decide (p.nm=q.nm)&&iJ p.pr.list q.pr.list)&&kb p.rs q.rs
def jY{α:Type}(f:α->α->Bool):List α->List α->Bool
 |[],[]=>true
 |a::l,b::m=>f a b&&jY f l m
 |_,_=>false
def qFy{α:Type}(f:α->α->Bool):∀ (a b:List α),a.length≠b.length->jY f a b=false
 |[],[],h=>absurd rfl h
 |[],_::_,_=>rfl
 |_::_,[],_=>rfl
 |a::l,b::m,h=>by rw[jY,qFy f l m (λe=>h (by rw[di,di,e])),lM]
def qw(a b:SC):Bool:=(kb a.main b.main&&jY jR a.ts.list b.ts.list)&&jY jG a.gs.list b.gs.list
structure vE (a:SC):Prop where
 main:tk a.main
 ts:a.ts.len<=1000
 gs:a.gs.len<=1000
 ta:∀ p∈a.ts.list,tk p.2
 ga:∀ p∈a.gs.list,p.pr.len<=1000/\(∀ x∈p.pr.list,tk x)/\tk p.rs
def W7{β:Type}{k:KO β}{h:bm}{d:Nat}{a b:TT}(A:tk a)(M:tk b):bE Om (F_ 55) [kA a.row,kA b.row] h d k=k (kB (kb a b)) h:=j6 55 _ _ (by simp only[jr]) (qRV _ a b (lJ _) A M) rfl
def qPt{β:Type}{h:bm}{k:KO β}(x:LB)(v:TT):bz true 4 (.v (.c (.p (.dc (eh x v) 1)))) h k=k (kA v.row) h:=by
 obtain⟨a1,a2,a3,a4,A⟩:=nw v;unfold eh;rw[A]; rfl
def qRc{β:Type}{h:bm}{k:KO β}(f:GS):bz true 6 (.v (.c (.p (.dc (cV f) 0)))) h k=k (kA (cV f)) h:=by
 obtain⟨a1,a2,a3,a4,A⟩:=nw f.rs;unfold cV;rw[A]; rfl
def OW:(∀ (x:LB) (v:TT),(eh x v)[0]?=some (.str x))/\(∀ (x:LB) (v:TT),(eh x v).length=5)/\(∀ f:GS,(cV f).length=6)/\(∀ f:GS,(cV f)[0]?=some (.str f.nm))/\(∀ f:GS,(cV f)[1]?=some (dI 4 TT.row f.pr)) /\
  (∀ {β:Type}{h:bm}{k:KO β}(x:LB)(v:TT),bz true 4 (.v (.c (.p (.dc (eh x v) 1)))) h k=k (kA v.row) h)/\(∀ {β:Type}{h:bm}{k:KO β}(f:GS),bz true 6 (.v (.c (.p (.dc (cV f) 0)))) h k=k (kA (cV f)) h) :=
 ⟨λ_ _=>rfl,DD,JK,λ_=>rfl,λ_=>rfl,qPt,qRc⟩
def qX0(a b:SC)(sa:vE a)(sb:vE b)(aa:a.ts.len=b.ts.len)(m1 m2 m3 m4 n1 n2 n3 n4:bL)(h:bm)
  (g2:h.get (.own 2 1)=some (.cells [.p m1,.p m2,.p m3,.p m4,.p (dI 5 (λp=>eh p.1 p.2) a.ts),.p (dI 6 cV a.gs)] 0)) (g3:h.get (.own 3 1)=some (.cells [.p n1,.p n2,.p n3,.p n4,.p (dI 5 (λp=>eh p.1 p.2) b.ts),.p (dI 6 cV b.gs)] 0)) :
  ∀ i:Nat,ca tab.get S 14 0 1 [CH,CG,kI (i:Int)] h=if jY jR (a.ts.list.drop i) (b.ts.list.drop i)=true then ca tab.get S 14 0 3 [CH,CG,kI 0] h else some (kB false,[]):=by
 have hl:=sa.ts;refine CI a.ts.len (λi hi=>?_) (λi hi M=>?_) <;> rw[T8,KS]
 ·have h1:¬ (i:Int)<(a.ts.len:Int):=bn
  have e1:a.ts.list.drop i=[]:=tP hi;have e2:b.ts.list.drop i=[]:=tP (by show b.ts.len<=i; omega);rw[e1,e2,bF (show jY jR [] []=true from rfl)];simp only[bW,g2,h1];rw[T7,KR]
 ·have h1:(i:Int)<(a.ts.len:Int):=bn
  obtain⟨x,hx,dx,mx⟩:=o9 (l:=a.ts.list) (i:=i) hi;obtain⟨y,U,dy,my⟩:=o9 (l:=b.ts.list) (i:=i) (by show i<b.ts.len; omega);rw[dx,dy,jY];have cc:=λ{β:Type} {k:KO β} {h:bm} {d:Nat}=>W7 (k:=k) (h:=h) (d:=d) (sa.ta x mx) (sb.ta y my)
  by_cases A:x.1=y.1
  ·have e0:jR x y=kb x.2 y.2:=by unfold jR; rw[cI A,gS]
   rw[e0];cases hs:kb x.2 y.2
   ·simp only[bW,OW,g2,g3,h1,hx,U,A,cc,hs];rfl
   ·simp only[bW,OW,g2,g3,h1,hx,U,A,cc,hs,sT i bn];exact M
  ·have e0:jR x y=false:=by unfold jR; rw[de A,fH]
   rw[e0];simp only[bW,OW,g2,g3,h1,hx,U,A];rfl
abbrev s7P(g:Nat):bt:=.v (.c (.ptr (.own 7 g) 0))
abbrev s8P(g:Nat):bt:=.v (.c (.ptr (.own 8 g) 0))
def qWK(x y:GS)(lx:x.pr.len<=1000)(aa:x.pr.len=y.pr.len)(sx:∀ t∈x.pr.list,tk t)(sy:∀ t∈y.pr.list,tk t)(j u7 u8:Nat)(h:bm)(g7:h.get (.own 7 u7)=some (.cells (bp (cV x)) 0))(g8:h.get (.own 8 u8)=some (.cells (bp (cV y)) 0)) :
  ∀ i:Nat,ca tab.get S 14 0 4 [CH,CG,kI (j:Int),s7P u7,s8P u8,kI (i:Int)] h=if iJ (x.pr.list.drop i) (y.pr.list.drop i)=true then ca tab.get S 14 0 5 [CH,CG,kI (j:Int)] h else some (kB false,[]):=by
 have A:(bp (cV x))[1]?=some (.p (dI 4 TT.row x.pr)):=rfl;have M:(bp (cV y))[1]?=some (.p (dI 4 TT.row y.pr)):=rfl;refine CI x.pr.len (λi hi=>?_) (λi hi U=>?_) <;> rw[T0,KQ]
 ·have h1:¬ (i:Int)<(x.pr.len:Int):=bn
  have e1:x.pr.list.drop i=[]:=tP hi;have e2:y.pr.list.drop i=[]:=tP (by show y.pr.len<=i; omega);rw[e1,e2,bF (show iJ [] []=true from rfl)];simp only[bW,g7,A,h1]
 ·have h1:(i:Int)<(x.pr.len:Int):=bn
  obtain⟨u,hu,du,mu⟩:=o9 (l:=x.pr.list) (i:=i) hi;obtain⟨v,hv,dv,mv⟩:=o9 (l:=y.pr.list) (i:=i) (by show i<y.pr.len; omega);rw[du,dv,iJ];have cc:=λ{β:Type} {k:KO β} {h:bm} {d:Nat}=>W7 (k:=k) (h:=h) (d:=d) (sx u mu) (sy v mv)
  cases hs:kb u v
  ·simp only[bW,g7,g8,A,M,h1,hu,hv,cc,hs];rfl
  ·simp only[bW,g7,g8,A,M,h1,hu,hv,cc,hs,sT i bn];exact U
def qTW(a b:SC)(sa:vE a)(sb:vE b)(an:a.gs.len=b.gs.len)(m1 m2 m3 m4 n1 n2 n3 n4:bL):∀ (m i:Nat) (h:bm),i+m=a.gs.len ->
  h.get (.own 2 1)=some (.cells [.p m1,.p m2,.p m3,.p m4,.p (dI 5 (λp=>eh p.1 p.2) a.ts),.p (dI 6 cV a.gs)] 0)->h.get (.own 3 1)=some (.cells [.p n1,.p n2,.p n3,.p n4,.p (dI 5 (λp=>eh p.1 p.2) b.ts),.p (dI 6 cV b.gs)] 0) ->
  ca tab.get S 14 0 3 [CH,CG,kI (i:Int)] h=some (kB (jY jG (a.gs.list.drop i) (b.gs.list.drop i)),[])
 |0,i,h,hi,g2,g3=>by
  have h1:¬ (i:Int)<(a.gs.len:Int):=bn
  have e1:a.gs.list.drop i=[]:=tP (by show a.gs.len<=i; omega);have e2:b.gs.list.drop i=[]:=tP (by show b.gs.len<=i; omega);rw[e1,e2,Jd,Er];simp only[bW,qI,g2,h1,jY]
 |m+1,i,h,hi,g2,g3=>by
  have hl:=sa.gs;have h1:(i:Int)<(a.gs.len:Int):=bn
  obtain⟨x,hx,dx,mx⟩:=o9 (l:=a.gs.list) (i:=i) (by show i<a.gs.len; omega);obtain⟨y,hy,dy,my⟩:=o9 (l:=b.gs.list) (i:=i) (by show i<b.gs.len; omega);obtain⟨x1,x2,x3⟩:=sa.ga x mx;obtain⟨y1,y2,y3⟩:=sb.ga y my;have cc:=λ{β:Type} {k:KO β} {h:bm} {d:Nat}=>W7 (k:=k) (h:=h) (d:=d) x3 y3
  have PX:∀ a b c d e f:Cell,dm [a,b,c,d,e,f] 0 (bp (cV x))=bp (cV x):=λ_ _ _ _ _ _=>yf _ _ (by rw[qV,JK]; rfl)
  have PY:∀ a b c d e f:Cell,dm [a,b,c,d,e,f] 0 (bp (cV y))=bp (cV y):=λ_ _ _ _ _ _=>yf _ _ (by rw[qV,JK]; rfl)
  have LX:(bp (cV x)).length=6:=by rw[qV,JK]
  have LY:(bp (cV y)).length=6:=by rw[qV,JK]
  have M:(bp (cV x))[0]?=some (.p (.str x.nm)):=rfl;have U:(bp (cV y))[0]?=some (.p (.str y.nm)):=rfl;have aa:(bp (cV x))[1]?=some (.p (dI 4 TT.row x.pr)):=rfl;have ab:(bp (cV y))[1]?=some (.p (dI 4 TT.row y.pr)):=rfl;have ai:((bp (cV x)).drop 2).take 4=bp x.rs.row:=by
   show(bp x.rs.row).take 4=_;exact gz (by rw[qV,TT.ct]; omega)
  have aj:((bp (cV y)).drop 2).take 4=bp y.rs.row:=by
   show(bp y.rs.row).take 4=_;exact gz (by rw[qV,TT.ct]; omega)
  have ak:(bp x.rs.row).length=4:=by rw[qV,TT.ct]
  have al:(bp y.rs.row).length=4:=by rw[qV,TT.ct]
  generalize hz:([.p (.str []),.p .bq,.p (.int .i64 0),.p (.str []),.p .bq,.p .bq]:List Cell)=z;have lz:z.length=6:=by rw[<- hz]; rfl
  have PX:dm z 0 (bp (cV x))=bp (cV x):=by rw[<- hz]; exact PX _ _ _ _ _ _
  have PY:dm z 0 (bp (cV y))=bp (cV y):=by rw[<- hz]; exact PY _ _ _ _ _ _
  obtain⟨u7,ad⟩:∃ u,u=h.gen 7+1:=⟨_,rfl⟩;obtain⟨ag,e1⟩:∃ h',h'=h.own 7 u7 (.cells z 0):=⟨_,rfl⟩;obtain⟨u8,ae⟩:∃ u,u=h.gen 8+1:=⟨_,rfl⟩;obtain⟨af,e2⟩:∃ h',h'=ag.own 8 u8 (.cells z 0):=⟨_,rfl⟩;have k1:∀ d g o,d≠7->h.get (.own d g)=some o->ag.get (.own d g)=some o:=λd g o hd ho=>by rw[e1,bm.bN _ _ _ _ _ _ (oC hd),ho]
  have k2:∀ d g o,d≠8->ag.get (.own d g)=some o->af.get (.own d g)=some o:=λd g o hd ho=>by rw[e2,bm.bN _ _ _ _ _ _ (oC hd),ho]
  have a7:af.get (.own 7 u7)=some (.cells z 0):=k2 _ _ _ bu (by rw[e1]; exact bm.cC _ _ _ _ bn cb);have a8:af.get (.own 8 u8)=some (.cells z 0):=by rw[e2]; exact bm.cC _ _ _ _ bn cb
  obtain⟨ah,e3⟩:∃ h',h'=af.own 7 u7 (.cells (bp (cV x)) 0):=⟨_,rfl⟩;have b8:ah.get (.own 8 u8)=some (.cells z 0):=by rw[e3,bm.bN _ _ _ _ _ _ bu]; exact a8
  have b7:ah.get (.own 7 u7)=some (.cells (bp (cV x)) 0):=by rw[e3]; exact bm.cC _ _ _ _ bn cb
  obtain⟨A,e4⟩:∃ h',h'=ah.own 8 u8 (.cells (bp (cV y)) 0):=⟨_,rfl⟩;have c7:A.get (.own 7 u7)=some (.cells (bp (cV x)) 0):=by rw[e4,bm.bN _ _ _ _ _ _ bu]; exact b7
  have c8:A.get (.own 8 u8)=some (.cells (bp (cV y)) 0):=by rw[e4]; exact bm.cC _ _ _ _ bn cb
  have kk:∀ d o,d≠7->d≠8->h.get (.own d 1)=some o->A.get (.own d 1)=some o:=λd o h7 h8 ho=>by
   rw[e4,bm.bN _ _ _ _ _ _ (oC h8),e3,bm.bN _ _ _ _ _ _ (oC h7)];exact k2 _ _ _ h8 (k1 _ _ _ h7 ho)
  have d2:=kk 2 _ bu bu g2;have d3:=kk 3 _ bu bu g3;have ih:=qTW a b sa sb an m1 m2 m3 m4 n1 n2 n3 n4 m (i+1) A bn d2 d3;have pm:=λao=>qWK x y x1 ao x2 y2 i u7 u8 A c7 c8 0
  rw[eI,eI] at pm;have p5:ca tab.get S 14 0 5 [CH,CG,kI (i:Int)] A=ca tab.get S 14 0 3 [CH,CG,kI ((i+1:Nat):Int)] A:=by
   rw[TZ,KP];simp only[bW,sT i bn]
  have A1:AI.Touch.apart ⟨[(Ref.own 2 1).site],[],false⟩ ⟨[],[.own 7],false⟩=true:=rfl;have A2:AI.Touch.apart ⟨[(Ref.own 3 1).site],[],false⟩ ⟨[],[.own 7],false⟩=true:=rfl;have A3:AI.Touch.apart ⟨[(Ref.own 2 1).site],[],false⟩ ⟨[],[.own 8],false⟩=true:=rfl;have A4:AI.Touch.apart ⟨[(Ref.own 3 1).site],[],false⟩ ⟨[],[.own 8],false⟩=true:=rfl;have A5:AI.Touch.apart ⟨[],[.own 7],false⟩ ⟨[],[.own 8],false⟩=true:=rfl;have A6:AI.Touch.apart ⟨[(Ref.own 3 1).site],[],false⟩ ⟨[(Ref.own 7 u7).site],[(Ref.own 7 u7).site],false⟩=true:=rfl;have A0:∀ {β:Type}(x y:Option β),(bif (true&&(true&&(true&&(true&&(true&&true))))) then x else y)=x:=λ_ _=>rfl
  rw[dx,dy,jY,Jd,Er];by_cases q1:x.nm=y.nm
  ·by_cases q2:(x.pr.len:Int)=(y.pr.len:Int)
   ·have pm:=pm bn;cases q3:kb x.rs y.rs
    ·have e9:jG x y=false:=by unfold jG; rw[q3,lM]
     rw[e9,fH];simp only[bW,rA,rC,rE,qI,OW,D1,U6,rY,hz,<- ad,<- e1,<- ae,<- e2,<- e3,b8,<- e4,c7,c8,g2,g3,h1,hx,hy,lz,PX,PY,LX,LY,M,U,aa,ab,ai,aj,ak,al,A1,A2,A3,A4,A5,A6,q1,q2,q3,cc,cB]
    ·have e9:jG x y=iJ x.pr.list y.pr.list:=by unfold jG; rw[q3,xP,cI q1,gS]
     rw[e9];simp only[bW,rA,rC,rE,qI,OW,D1,U6,rY,hz,<- ad,<- e1,<- ae,<- e2,<- e3,b8,<- e4,c7,c8,g2,g3,h1,hx,hy,lz,PX,PY,LX,LY,M,U,aa,ab,ai,aj,ak,al,A1,A2,A3,A4,A5,A6,q1,q2,q3,cc,cB];refine pm.trans ?_;cases hs:iJ x.pr.list y.pr.list
     ·rw[bA bu,fH]
     ·rw[bF rfl,gS,p5];exact ih
   ·have e9:jG x y=false:=by
     unfold jG;rw[qFv _ _ (λe=>q2 (by show((x.pr.list.length:Nat):Int)=_; rw[e]; rfl)),lM,fH]
    rw[e9,fH];simp only[bW,rA,rC,rE,qI,OW,D1,U6,rY,hz,<- ad,<- e1,<- ae,<- e2,<- e3,b8,<- e4,c7,c8,g2,g3,h1,hx,hy,lz,PX,PY,LX,LY,M,U,aa,ab,A1,A2,A3,A4,A5,A6,q1,q2,cB]
  ·have e9:jG x y=false:=by unfold jG; rw[de q1,fH,fH]
   rw[e9,fH];simp only[bW,rA,rC,rE,qI,OW,D1,U6,rY,hz,<- ad,<- e1,<- ae,<- e2,<- e3,b8,<- e4,c7,c8,g2,g3,h1,hx,hy,lz,PX,PY,LX,LY,M,U,aa,ab,A1,A2,A3,A4,A5,A6,q1,cB]
def qTL(a b:SC)(sa:vE a)(sb:vE b):Om 14 [kA a.row,kA b.row] []=some (kB (qw a b),[]):=by
 refine(gD rfl).trans ?_;show ca tab.get S 14 0 0 [kA a.row,kA b.row] h0=_;obtain⟨m1,m2,m3,m4,hm⟩:=nw a.main;obtain⟨A,M,U,n4,hn⟩:=nw b.main;have cc:IM 55 [.v (.agg [.p m1,.p m2,.p m3,.p m4]),.v (.agg [.p A,.p M,.p U,.p n4])] (kB (kb a.main b.main)):=λ{β k h d}=>by
  have:=W7 (k:=k) (h:=h) (d:=d) sa.main sb.main;rw[hm,hn] at this;exact this
 have ra:kA a.row = .v (.agg [.p m1,.p m2,.p m3,.p m4,.p (dI 5 (λp=>eh p.1 p.2) a.ts),.p (dI 6 cV a.gs)]):=by unfold SC.row; rw[hm]; rfl
 have rb:kA b.row = .v (.agg [.p A,.p M,.p U,.p n4,.p (dI 5 (λp=>eh p.1 p.2) b.ts),.p (dI 6 cV b.gs)]):=by unfold SC.row; rw[hn]; rfl
 rw[ra,rb];have HT:=λaa=>qX0 a b sa sb aa m1 m2 m3 m4 A M U n4 ((h0.own 2 1 (.cells [.p m1,.p m2,.p m3,.p m4,.p (dI 5 (λp=>eh p.1 p.2) a.ts),.p (dI 6 cV a.gs)] 0)).own 3 1 (.cells [.p A,.p M,.p U,.p n4,.p (dI 5 (λp=>eh p.1 p.2) b.ts),.p (dI 6 cV b.gs)] 0)) rfl rfl 0
 have HG:=λaa=>qTW a b sa sb aa m1 m2 m3 m4 A M U n4 a.gs.len 0 ((h0.own 2 1 (.cells [.p m1,.p m2,.p m3,.p m4,.p (dI 5 (λp=>eh p.1 p.2) a.ts),.p (dI 6 cV a.gs)] 0)).own 3 1 (.cells [.p A,.p M,.p U,.p n4,.p (dI 5 (λp=>eh p.1 p.2) b.ts),.p (dI 6 cV b.gs)] 0)) bn rfl rfl
 rw[eI,eI] at HT HG;rw[Ua,KU];unfold qw;cases q1:kb a.main b.main
 ·simp only[bW,rA,rC,rE,cc,q1]
 ·by_cases q2:(a.ts.len:Int)=(b.ts.len:Int)
  ·by_cases q3:(a.gs.len:Int)=(b.gs.len:Int)
   ·have HT:=HT bn;have HG:=HG bn;rw[gS];have:ca tab.get S 14 0 1 [CH,CG,kI 0] ((h0.own 2 1 (.cells [.p m1,.p m2,.p m3,.p m4,.p (dI 5 (λp=>eh p.1 p.2) a.ts),.p (dI 6 cV a.gs)] 0)).own 3 1 (.cells [.p A,.p M,.p U,.p n4,.p (dI 5 (λp=>eh p.1 p.2) b.ts),.p (dI 6 cV b.gs)] 0))=some (kB (jY jR a.ts.list b.ts.list&&jY jG a.gs.list b.gs.list),[]):=by
     refine HT.trans ?_;cases hs:jY jR a.ts.list b.ts.list
     ·rw[bA bu,fH]
     ·rw[bF rfl,gS]; exact HG
    rw[<- this];simp only[bW,rA,rC,rE,cc,q1,q2,q3]
   ·rw[qFy jG a.gs.list b.gs.list (λe=>q3 (by show((a.gs.list.length:Nat):Int)=_; rw[e]; rfl)),lM];simp only[bW,rA,rC,rE,cc,q1,q2,q3]
  ·rw[qFy jR a.ts.list b.ts.list (λe=>q2 (by show((a.ts.list.length:Nat):Int)=_; rw[e]; rfl)),lM,fH];simp only[bW,rA,rC,rE,cc,q1,q2]
def qHt(l:List TT):iJ l l=true:=by
 induction l with
 |nil=>rfl
 |cons a l A=>rw[iJ,JT _ a (lJ _),A]; rfl
def qEq{α:Type}(f:α->α->Bool)(A:∀ a,f a a=true)(l:List α):jY f l l=true:=by
 induction l with
 |nil=>rfl
 |cons a l M=>rw[jY,A,M]; rfl
def SC.ct(x:SC):x.row.length=6:=by unfold SC.row; simp[TT.ct]
def v22{β:Type}{k:KO β}{h:bm}{d:Nat}(s:LB):bE Om (F_ 13) [kS s] h d k=k (.dq [.agg (bp (rh s).row),.c (.p (.int .i64 (lX s)))]) h:=j6 13 _ _ (by simp only[jr]) (qVR s) (by simp only[jr])
def v23{β:Type}{k:KO β}{h:bm}{d:Nat}{a b:SC}(A:vE a)(M:vE b):bE Om (F_ 14) [kA a.row,kA b.row] h d k=k (kB (qw a b)) h:=j6 14 _ _ (by simp only[jr]) (qTL a b A M) rfl
def qGl{L:List Tok}{s:RS}(h:Good (gk L s)):Good s:=FT (CN h).2
def qLZ{s:RS}(h:Good (bJ s)):Good s:=h
def qKC{L:List Tok}{x:LB}{s:RS}(h:Good (eP x L s)):Good s:=by
 have h1:=FT (CN h).2;exact(CN (qLZ h1)).2
def Vg{L:List Tok}(v:jF L)(A:L.length<=1000){s:RS}(I:I1 L s)(h:Good (gi L 13 1 s).2):Good s/\WF 12 (gi L 13 1 s).1 :=
 qM1 v 13 1 bu s (ZX (by have:=XG L; omega) 13 1 bu bu s I) h
def qHN{L:List Tok}(v:jF L)(M:L.length<=1000)(x:LB):∀ (f:Nat) (s:RS) (acc:List TT),I1 L s->Good (gT (gi L 13 1) L x f s acc).2->Good s/\((∀ t∈acc,WF 12 t)->∀ t∈(gT (gi L 13 1) L x f s acc).1,WF 12 t)
 |0,s,acc,I,h=>⟨h,λA=>A⟩
 |f+1,s,acc,I,h=>by
  unfold gT at h ⊢;split at h
  ·rename_i hi;rw[bF hi];have In:=Oi (zo bu hi).2;obtain⟨a,b⟩:=qHN v M x f _ _ (CL L 13 1 _ In).1 h;obtain⟨c,d⟩:=Vg v M In a;refine⟨c,λA=>b λt ht=>?_⟩
   rcases fb.1 ht with ht|ht
   ·exact A t ht
   ·rw[fY.1 ht]; exact d
  ·rename_i hi;rw[bA hi];exact⟨FT (CN h).2,λA=>A⟩
def qJa{L:List Tok}{sub:RS->TT×RS}(x:LB):∀ (f:Nat) (s:RS) (acc:List TT),(gT sub L x f s acc).1.length<=acc.length+f
 |0,s,acc=>cB _
 |f+1,s,acc=>by
  unfold gT;split
  ·have:=qJa (L:=L) (sub:=sub) x f (sub (bJ s)).2 (acc++[(sub (bJ s)).1]);rw[bV,gM] at this;omega
  ·show acc.length<=_; omega
def Zo(g:GS):Prop:=(∀ t∈g.pr.list,WF 12 t)/\g.pr.len<=1000/\WF 12 g.rs
def qVY{L:List Tok}(v:jF L)(hL:L.length<=900){s:RS}(hp:s.p<=L.length)(h:Good (ph (gi L 13 1) L s).2):Good s/\Zo (ph (gi L 13 1) L s).1:=by
 have inv:=CL L 13 1;obtain⟨A,_⟩:=Cb [40] hp;obtain⟨M,_⟩:=R4 inv [41] A;obtain⟨U,_⟩:=sQ [45,62] M;obtain⟨a,b⟩:=Vg v bn U h;have a2:Good (gJ (gi L 13 1) L [41] (eP [40] L s)).2:=FT (CN a).2;have key:Good (eP [40] L s)/\(∀ t∈(gJ (gi L 13 1) L [41] (eP [40] L s)).1,WF 12 t)/\(gJ (gi L 13 1) L [41] (eP [40] L s)).1.length<=1000:=by
  generalize eP [40] L s=q at *;unfold gJ at a2 ⊢;split at a2
  ·rename_i hi;rw[bF hi];exact⟨a2,(λt ht=>nomatch ht),eV _⟩
  ·rename_i hi;rw[bA hi];obtain⟨c,d⟩:=qHN v bn [41] _ _ _ (inv _ A).1 a2;obtain⟨e,f⟩:=Vg v bn A c;refine⟨e,d λt ht=>?_,?_⟩
   ·rw[fY.1 ht]; exact f
   ·have:=qJa (L:=L) (sub:=gi L 13 1) [41] (L.length+2) (gi L 13 1 q).2 [(gi L 13 1 q).1];rw[gM] at this;omega
 refine⟨qKC key.1,?_,?_,b⟩
 ·show ∀ t∈(grown (gJ (gi L 13 1) L [41] (eP [40] L s)).1).list,WF 12 t;rw[wI]; exact key.2.1
 ·show(grown (gJ (gi L 13 1) L [41] (eP [40] L s)).1).list.length<=1000;rw[wI]; exact key.2.2
def qSx{L:List Tok}{s:RS}(h:Good (nB L s)):Good s:=FT (CN h).2
def qG7{L:List Tok}(v:jF L)(M:L.length<=900):∀ (f:Nat) (s:RS) (ns:Es) (gs:Gs),I1 L s->Good (jL (gi L 13 1) L f s ns gs).2 ->
  Good s/\((∀ p∈ns,WF 12 p.2)->∀ p∈(jL (gi L 13 1) L f s ns gs).1.1,WF 12 p.2)/\((∀ g∈gs,Zo g)->∀ g∈(jL (gi L 13 1) L f s ns gs).1.2,Zo g)
 |0,s,ns,gs,I,h=>⟨h,λa=>a,λa=>a⟩
 |f+1,s,ns,gs,I,h=>by
  have inv:=CL L 13 1;unfold jL at h ⊢;split at h
  ·rename_i hc;rw[bF hc];have U:(bJ s).p<=L.length:=by show s.p+1<=_; omega
   split at h
   ·rename_i hk;rw[bF hk];obtain⟨J1,_⟩:=Cb [61] U;obtain⟨J2,_⟩:=inv _ J1;obtain⟨a,b,c⟩:=qG7 v M f _ _ _ (sQ [59] J2).1 h;obtain⟨d,e⟩:=Vg v bn J1 (qGl a);refine⟨qLZ (qKC d),λhN=>b λp hp=>?_,c⟩
    rcases fb.1 hp with hp|hp
    ·exact hN p hp
    ·rw[fY.1 hp]; exact e
   ·rename_i hk;rw[bA hk];obtain⟨_,J4⟩:=Xf inv (Xe hc.2).1;obtain⟨a,b,c⟩:=qG7 v M f _ _ _ (sQ [59] J4).1 h;obtain⟨d,e⟩:=qVY v M (Xe hc.2).1 (qGl a);refine⟨qSx d,b,λhG=>c λg A=>?_⟩
    rcases fb.1 A with A|A
    ·exact hG g A
    ·rw[fY.1 A]; exact e
  ·rename_i hc;rw[bA hc];exact⟨h,λa=>a,λa=>a⟩
def qIy:∀ (n:Nat) (l:Gs) (b:Bool),yk l b n=false->b=false
 |0,l,b,h=>h
 |n+1,l,b,h=>by
  have h:(yk l b n||Cx l n)=false:=h;rw[nj] at h;exact qIy n l b h.1
def Gb:tk eQ:=(Og _).2 ⟨eV _,eV _,λx hx=>by cases hx⟩
def ZJ(src:LB):vE (rh src):=by
 unfold rh;split
 ·rename_i he;have hl:=Yk src;have v:=qMH src;have g0:Good (ri src).2:=qS9 he;have g1:Good (ff src).2:=⟨g0.1,(XL _ _ _ (qIy _ _ _ g0.2)).1⟩;have Id:=Zu (Zw src);obtain⟨M,_⟩:=CL (bP src).1 13 1 _ Id;have A:I1 (bP src).1 (gk (bP src).1 (kZ src).2):=(sQ [59] M).1;obtain⟨Ir,U⟩:=UX (CL (bP src).1 13 1) ((bP src).1.length+2) (gk (bP src).1 (kZ src).2) [] [] A;obtain⟨a,b,c⟩:=qG7 v bn ((bP src).1.length+2) (gk (bP src).1 (kZ src).2) [] [] A g1;obtain⟨_,d⟩:=Vg v bn Id (qGl a);have b:=b (λp hp=>by cases hp);have c:=c (λp hp=>by cases hp);change (ff src).1.1.length+(ff src).1.2.length<=0+0+((bP src).1.length+2) at U;refine⟨Jz 12 _ d,?_,?_,?_,?_⟩
  ·show(jk (cL (ff src).1.1)).list.length<=1000;rw[yr,qEQ]; omega
  ·show(jk (cT (ff src).1.2)).list.length<=1000;rw[yr,qEP]; omega
  ·show ∀ p∈(jk (cL (ff src).1.1)).list,tk p.2;rw[yr];exact λp hp=>Jz 12 _ (b p ((Sw _).mem_iff.1 hp))
  ·show ∀ p∈(jk (cT (ff src).1.2)).list,p.pr.len<=1000/\(∀ x∈p.pr.list,tk x)/\tk p.rs;rw[yr];intro p hp;obtain⟨x,y,z⟩:=c p ((Sv _).mem_iff.1 hp);exact⟨y,λt ht=>Jz 12 _ (x t ht),Jz 12 _ z⟩
 ·exact⟨Gb,eV _,eV _,(λp hp=>nomatch hp),(λp hp=>nomatch hp)⟩
structure BR (x:SC):Prop where
 main:GT x.main
 ts:∀ p∈x.ts.list,fK p.1=true/\GT p.2
 gs:∀ g∈x.gs.list,fK g.nm=true/\(∀ t∈g.pr.list,GT t)/\GT g.rs
 lt:x.ts.list.length<=4
 lg:x.gs.list.length<=4
 lp:∀ g∈x.gs.list,g.pr.list.length<=3
 st:xY x.ts.list
 sg:xY (x.gs.list.map gE)
def BR.sm{x:SC}(g:BR x):vE x :=
 ⟨g.main.sm,by have:=g.lt; show x.ts.list.length<=_; omega,by have:=g.lg; show x.gs.list.length<=_; omega,λp hp=>(g.ts p hp).2.sm,λp hp=>⟨by have:=g.lp p hp; show p.pr.list.length<=_; omega,λt ht=>((g.gs p hp).2.1 t ht).sm,(g.gs p hp).2.2.sm⟩⟩
def B8(g:GS):GS:=⟨g.nm,grown g.pr.list,g.rs⟩
def FZ(x:SC):List En:=x.ts.list.map Sum.inl++(x.gs.list.map λg=>Sum.inr (B8 g))
def qUd(g:GS):kE (B8 g)=kE g:=by unfold kE B8; rw[wI]
def qUH(x:SC):tV++cn x.main++pq++(FZ x).flatMap CP=yc x:=by
 have A:∀ l:Es,(l.map Sum.inl:List En).flatMap CP=l.flatMap jK:=λl=>by rw[xV]; rfl
 have M:∀ l:Gs,((l.map λg=>Sum.inr (B8 g)):List En).flatMap CP=l.flatMap kE:=λl=>by
  rw[xV]
  congr 1
  funext g
  exact qUd g
 unfold yc FZ;rw[xR,A,M];simp only[eH]
def qQG{x:SC}(g:BR x):∀ e∈FZ x,sZ e:=by
 intro e he
 rcases fb.1 he with he|he
 ·obtain⟨p,hp,rfl⟩:=fk.1 he;exact⟨(g.ts p hp).1,(g.ts p hp).2.wf⟩
 ·obtain⟨p,hp,rfl⟩:=fk.1 he;have:=g.gs p hp;refine⟨this.1,λt ht=>?_,this.2.2.wf,?_⟩
  ·have ht:t∈(grown p.pr.list).list:=ht;rw[wI] at ht;exact(this.2.1 t ht).wf
  ·show grown p.pr.list=grown (grown p.pr.list).list;rw[wI]
def qXx(x:SC):Ts (FZ x)=x.ts.list:=by
 unfold Ts FZ;rw[Ff];have M:∀ l:Es,(l.map Sum.inl:List En).filterMap RR=l:=λl=>by
  induction l with
  |nil=>rfl
  |cons a l A=>rw[dr,xF]; simp only[RR]; rw[A]
 have U:∀ l:Gs,((l.map λg=>Sum.inr (B8 g)):List En).filterMap RR=[]:=λl=>by
  induction l with
  |nil=>rfl
  |cons a l A=>rw[dr,xF]; simp only[RR]; rw[A]
 rw[M,U,fa]
def qXb(x:SC):Fs (FZ x)=x.gs.list.map B8:=by
 unfold Fs FZ;rw[Ff];have M:∀ l:Es,(l.map Sum.inl:List En).filterMap SE=[]:=λl=>by
  induction l with
  |nil=>rfl
  |cons a l A=>rw[dr,xF]; simp only[SE]; rw[A]
 have U:∀ l:Gs,((l.map λg=>Sum.inr (B8 g)):List En).filterMap SE=l.map B8:=λl=>by
  induction l with
  |nil=>rfl
  |cons a l A=>rw[dr,xF]; simp only[SE]; rw[A]; rfl
 rw[M,U,kK]
def qJC{l:Es}(h:xY l):(l.map (·.1)).Nodup:=qLU h
def qMi{src:LB}(h0:(bP src).2≠0):lX src=(bP src).2:=by
 obtain⟨a,_⟩:=qF9 src;rw[a];unfold nG;rw[bA h0]
def qJV{α:Type}(f:α->α->Bool)(g:α->α)(h:∀ a,f a (g a)=true):∀ l:List α,jY f l (l.map g)=true
 |[]=>rfl
 |a::l=>by
  show(f a (g a)&&jY f l (l.map g))=true;rw[h a,qJV f g h l]; rfl
def qOz{x:SC}(g:BR x):lX (yc x)=4\/lX (yc x)=3\/(lX (yc x)=0/\qw x (rh (yc x))=true):=by
 have R:=qW3 x.main g.main.wf (FZ x) (qQG g);rw[qUH] at R
 rcases qNh R with ⟨h,_⟩|⟨h,_⟩|⟨h0,hw⟩
 ·exact .inl (by rw[qMi (by rw[h]; decide),h])
 ·exact .inr (.inl (by rw[qMi (by rw[h]; decide),h]))
 ·refine .inr (.inr ?_);have hl:(FZ x).length<=1000:=by
   have:=g.lt; have:=g.lg;unfold FZ;rw[bV,dj,dj]; omega
  obtain⟨a,_⟩:=qK9 g.main.wf (qQG g) h0 hw hl;rw[qXx,qXb] at a;have A:((x.gs.list.map B8).map (·.nm)).Nodup:=by
   have:=qJC g.sg;rw[fU] at this ⊢;exact this
  obtain⟨b,c⟩:=a ⟨qJC g.st,A⟩;refine⟨b,?_⟩;rw[c];have M:cL x.ts.list=x.ts.list:=qPE (by have:=g.lt; omega) (.refl _) g.st;have U:cT (x.gs.list.map B8)=x.gs.list.map B8:=by
   refine qPZ (by rw[dj]; have:=g.lg; omega) (.refl _) ?_;have:=g.sg;rw[fU];exact this
  rw[M,U];show((kb x.main x.main&&jY jR x.ts.list (jk x.ts.list).list)&&jY jG x.gs.list (jk (x.gs.list.map B8)).list)=true
  rw[yr,yr,JT _ _ (lJ _),qEq jR (λp=>by unfold jR; rw[cI rfl,JT _ _ (lJ _)]; rfl),
   qJV jG B8 (λp=>by
    show((decide (p.nm=p.nm)&&iJ p.pr.list (grown p.pr.list).list)&&kb p.rs p.rs)=true
    rw[wI,cI rfl,qHt,JT _ _ (lJ _)]; rfl)]
  rfl
def Z0(B:Nat):∀ l:List (LB),(∀ x∈l,x.length<=B)->(Lib.joinTail eO l).length<=l.length*(B+2)
 |[],_=>eV _
 |x::l,h=>by
  have M:=Z0 B l (λy A=>h y (ia _ A));have hx:=h x bR;show(eO++x++Lib.joinTail eO l).length<=_;rw[bV,bV,di,nk];have:eO.length=2:=rfl;omega
def qUy{x:SC}(g:BR x):(yc x).length<=10000000:=by
 have h1:(x.ts.list.flatMap jK).length<=210000*x.ts.list.length:=U7 jK 210000 _ λp hp=>by
  have:=g.ts p hp;have:=DG this.1;have:=this;have h:=(g.ts p hp).2.len;unfold jK qq vC pq;simp; omega
 have h2:(x.gs.list.flatMap kE).length<=1000000*x.gs.list.length:=U7 kE 1000000 _ λp hp=>by
  have A:=g.gs p hp;have hn:=DG A.1;have M:=g.lp p hp;have hj:(Lib.join (p.pr.list.map cn) eO).length<=3*200002+10:=by
   have:=Z0 200000 (p.pr.list.map cn) (λy U=>by obtain⟨t,ht,rfl⟩:=fk.1 U; exact(A.2.1 t ht).len);rw[dj] at this;have h3:(Lib.join (p.pr.list.map cn) eO).length<=(Lib.joinTail eO (p.pr.list.map cn)).length:=by
    cases p.pr.list.map cn with
    |nil=>exact cB _
    |cons a l =>
     rw[Lib.join_cons];show(a++Lib.joinTail eO l).length<=(eO++a++Lib.joinTail eO l).length;simp
   have h4:p.pr.list.length*(200000+2)<=3*(200000+2):=nc _ M;omega
  have hr:=A.2.2.len;unfold kE nQ qj vU pq;simp; omega
 have:=g.lt;have:=g.lg;have:=g.main.len;unfold yc tV pq;simp only[bV,di,fm]; omega
abbrev mw(s:Sl RW):bt:=.v (.c (.p (dI 4 RW.row s)))
def Sj{α:Type}(sz:Nat)(f:α->List bL)(l:List α):iq sz (l.map f)=dI sz f (jk l):=by cases l <;> rfl
def vK(m:Int)(l:List RW):Bool:=l.all λr => !decide (ot r m=0)
def ou(main:RW)(ts gs:Sl RW):Bool:=(!decide (ot main 60=0)&&(decide (ts.len<=6)&&decide (gs.len<=6)))&&(vK 30 ts.list&&vK 20 gs.list)
def qJX(m:Int)(a:RW)(l:List RW):vK m (a::l)=(!decide (ot a m=0)&&vK m l):=rfl
def qW6(gs:Sl RW)(hg:gs.len<=6):∀ (i:Nat) (h:bm),ca tab.get S 9 0 3 [mw gs,kI (i:Int)] h=some (kB (vK 20 (gs.list.drop i)),[]):=by
 refine CI gs.len (λi hi h=>?_) (λi hi M h=>?_) <;> rw[YU,WI]
 ·have h1:¬ (i:Int)<(gs.len:Int):=bn
  rw[tP hi];simp only[bW,ov,h1,vK,sI]
 ·have h1:(i:Int)<(gs.len:Int):=bn
  obtain⟨x,hx,U,mx⟩:=o9 (l:=gs.list) (i:=i) hi;rw[U,qJX];by_cases A:ot x 20=0
  ·rw[cI A];simp only[bW,ov,h1,hx,Jw,A]
  ·rw[de A];simp only[bW,ov,h1,hx,Jw,A,M,sT i bn]
def qW9(ts gs:Sl RW)(ht:ts.len<=6)(U:gs.len<=6):∀ (i:Nat) (h:bm),ca tab.get S 9 0 1 [mw ts,mw gs,kI (i:Int)] h=some (kB (vK 30 (ts.list.drop i)&&vK 20 gs.list),[]):=by
 refine CI ts.len (λi hi h=>?_) (λi hi M h=>?_) <;> rw[YW,WK]
 ·have h1:¬ (i:Int)<(ts.len:Int):=bn
  have e:=qW6 gs U 0 h;rw[eI] at e;rw[tP hi];simp only[bW,ov,h1];rw[YV,WJ];rw[show vK 30 ([]:List RW)=true from rfl,gS];exact e
 ·have h1:(i:Int)<(ts.len:Int):=bn
  obtain⟨x,hx,dx,mx⟩:=o9 (l:=ts.list) (i:=i) hi;rw[dx,qJX];by_cases A:ot x 30=0
  ·rw[cI A];simp only[bW,ov,h1,hx,Jw,A]
  ·rw[de A];simp only[bW,ov,h1,hx,Jw,A,M,sT i bn]
def qUF(main:RW)(ts gs:Sl RW):Om 9 [kA main.row,mw ts,mw gs] []=some (kB (ou main ts gs),[]):=by
 refine(gD rfl).trans ?_;show ca tab.get S 9 0 0 [kA main.row,mw ts,mw gs] h0=_;rw[YX,WL];unfold ou;by_cases h1:ot main 60=0
 ·rw[cI h1];simp only[bW,rA,rC,ov,Jw,h1]
 ·rw[de h1];by_cases M:ts.len<=6
  ·have A:¬ (6:Int)<(ts.len:Int):=bn
   rw[cI M];by_cases U:gs.len<=6
   ·have q3:¬ (6:Int)<(gs.len:Int):=bn
    have e:=qW9 ts gs M U 0;rw[eI] at e;rw[cI U];simp only[bW,rA,rC,ov,Jw,h1,A,q3];exact e _
   ·have q3:(6:Int)<(gs.len:Int):=bn
    rw[de U];simp only[bW,rA,rC,ov,Jw,h1,A,q3]
  ·have A:(6:Int)<(ts.len:Int):=bn
   rw[de M];simp only[bW,rA,rC,ov,Jw,h1,A]
def qPg{main:RW}{ts gs:Sl RW}(h:ou main ts gs=true):qe main/\ts.len<=6/\gs.len<=6/\(∀ r∈ts.list,qe r)/\(∀ r∈gs.list,qe r):=by
 unfold ou vK at h;simp only[fj,Az,qp,dF,lU] at h;obtain⟨⟨a,b,c⟩,d,e⟩:=h;exact⟨qFn bu a,b,c,λr A=>qFn bu (d r A),λr A=>qFn bu (e r A)⟩
def qQS(ns:Sl (LB))(A:ns.len<=1000)(d:Int)(f:RW->TT)(r:RW)(sm:qe r)(ok:1<d->pH ns (IntKind.i64.wrap (d - 1)) f):Om 39 [kA r.row,kI d,.v (.c (.p (dI 1 dg ns)))] []=some (kA (jX ns.list (kH ns.list r d) r f).row,[]):=by
 by_cases hn:0<ns.len
 ·have aa:ns.list≠[]:=xK.1 hn;have e:kH ns.list r d=py r d:=by unfold kH; rw[bA (λh=>aa h.1)]
  rw[e];exact qXT ns A hn d f r sm ok
 have U:ns.list=[]:=ku.1 (by show ns.len=0; omega);refine(gD rfl).trans ?_;show ca tab.get S 39 0 0 [kA r.row,kI d,.v (.c (.p (dI 1 dg ns)))] h0=_;rw[I7,Ef];have hb:=qEO r.kind;have w:IntKind.i64.wrap (1+cK r.kind 9)=1+cK r.kind 9:=jZ _ bn bn;have n0:((ns.len:Nat):Int)=0:=bn
 unfold kH py;by_cases M:1+cK r.kind 9=9
 ·rw[bF ⟨U,M⟩];simp (maxSteps:=9^7) +contextual only[bW,rA,rC,rE,ov,CC r.kind 9 bu bu,M,n0];exact Hd ns A d 2 f r sm bn (λe=>absurd e bu) (λh=>absurd h bu) _ rfl rfl rfl
 ·rw[bA (λh=>M h.2)];by_cases hd:1<d
  ·rw[bA bn];simp only[bW,rA,rC,rE,ov,CC r.kind 9 bu bu,w,M,n0,hd];exact Hd ns A d _ f r sm hb (λe=>absurd e M) (λ_ _=>ok hd) _ rfl rfl rfl
  ·by_cases h4:1+cK r.kind 9<4
   ·rw[bA bn];simp (maxSteps:=9^7) +contextual only[bW,rA,rC,rE,ov,CC r.kind 9 bu bu,w,M,n0,hd,h4];exact Hd ns A d _ f r sm hb (λe=>absurd e M) (λh=>absurd h bn) _ rfl rfl rfl
   ·have h8:¬ (8:Int)<1+cK r.kind 9:=bn
    rw[bF bn];simp (maxSteps:=9^7) +contextual only[bW,rA,rC,rE,ov,CC r.kind 9 bu bu,w,M,n0,hd,h4,h8];exact Hd ns A d 2 f r sm bn (λe=>absurd e bu) (λh=>absurd h bu) _ rfl rfl rfl
def qKp(ns:Sl (LB))(A:ns.len<=1000):∀ (d:Nat),d<=1000->pH ns (d:Int) (fZ ns.list d)
 |0,_=>λr sm=>qQS ns A 0 _ r sm (λh=>absurd h bu)
 |d+1,hd=>λr sm=>by
  have e:(((d+1:Nat):Int))=(d:Int)+1:=bn
  rw[e];refine qQS ns A ((d:Int)+1) (fZ ns.list d) r sm (λ_=>?_);rw[show(d:Int)+1 - 1=(d:Int) by omega,jZ _ bn bn];exact qKp ns A d bn
abbrev vx:List Cell:=[.p (.str []),.p .bq,.p (.int .i64 0),.p (.str []),.p .bq,.p .bq]
abbrev r2:bt:=.v (.c (.ptr (.own 2 1) 0))
abbrev r3:bt:=.v (.c (.ptr (.own 3 1) 0))
structure FH (h:bm) (L:List Tok) (s:RS) (nm:LB) (l:List TT):Prop where
 a0:h.get (.im 0)=some (rO L s)
 a2:h.get (.own 2 1)=some (.cells vx 0)
 a3:∃ c,h.get (.own 3 1)=some (.cells [.p (.str nm),c,.p (.int .i64 0),.p (.str []),.p .bq,.p .bq] 0)/\fh 4 c (l.map TT.row)/\AI.GS [17,28] 4 c (l.map TT.row) h
def FH.put{h:bm}{L:List Tok}{s t:RS}{nm:LB}{l:List TT}(A:FH h L s nm l):FH (h.put (.im 0) (rO L t)) L t nm l:=by
 obtain⟨c,a,b,g⟩:=A.a3;exact⟨bm.bX A.a0 cb,A.a2,c,a,b,g.dY λe _ g M=>M⟩
def qQF{h:bm}{L:List Tok}{s:RS}{nm:LB}{l:List TT}(A:FH h L s nm l)(hl:l.length<=1000)(x:TT)(d:Nat)(hd:d∈[17,28]) :
  ∃ c c' h' u,h.get (.own 3 1)=some (.cells [.p (.str nm),c,.p (.int .i64 0),.p (.str []),.p .bq,.p .bq] 0)/\(∀ {β:Type}{O:bD}{kt:KT β},br O (.append 4 72 false (.k (.v (.c c))) (.k (j7 4 true [x.row]))) h d kt=kt (.v (.c c')) h' u) /\
   h'.get (.own 3 1)=h.get (.own 3 1)/\FH (h'.own 3 1 (.cells [.p (.str nm),c',.p (.int .i64 0),.p (.str []),.p .bq,.p .bq] 0)) L s nm (l++[x]):=by
 obtain⟨c,a,b,g⟩:=A.a3;have U:d=17\/d=28:=by simpa using hd
 obtain⟨c',h',u,G,e,T,K,I,X⟩:=sS (h:=h) (d:=d) (by':=72) (new:=[x.row]) (b:=.slice 4 true [x.row]) (.inr ⟨_,rfl⟩) g hd (λr M=>by simp at M; rw[M]; exact TT.ct x) cM bn;obtain⟨r,er⟩:=X (.inl bR);have e3:h'.get (.own 3 1)=h.get (.own 3 1):=by rw[a]; exact K 3 1 _ bu a
 have em:(l++[x]).map TT.row=l.map TT.row++[x.row]:=by rw[gG]; rfl
 refine⟨c,c',h',u,a,λ{β O kt}=>e β O kt,e3,?_,?_,c',bm.cC _ 3 1 _ bu cb,.inr ⟨bR,r,by rw[em]; exact er⟩,?_⟩
 ·exact(I 0).trans A.a0
 ·exact(bm.bN _ 3 1 _ 2 1 bu).trans (K 2 1 _ bu A.a2)
 ·rw[em]; exact G.own _ _ bu
section
variable {L:List Tok} {sub:RS->TT×RS}
def qTF(ok:n7 0 L sub)(hL:L.length<=900){h:bm}{s:RS}{nm:LB}{l:List TT}(A:FH h L s nm l)(hl:l.length<=1000)(I:I1 L s)(hr:eS L s [44]=true) :
  ∃ h',FH h' L (sub (bH L s [44])).2 nm (l++[(sub (bH L s [44])).1])/\ca tab.get S 60 1 1 [P0,r2,r3] h=ca tab.get S 60 1 1 [P0,r2,r3] h':=by
 have hp:=I.2;have M:=A.put (t:=bH L s [44]);obtain⟨I2,_⟩:=rX (x:=[44]) bu I;have A2:=M.put (t:=(sub (bH L s [44])).2);have U:=λ{β:Type} {k:KO β} {d:Nat}=>FF (k:=k) (d:=d) [44] bu A.a0
 have V:=λ{β:Type} {k:KO β} {d:Nat}=>Ds (k:=k) (d:=d) (L:=L) (s:=s) bn [44] bu A.a0
 have C:=λ{β:Type} {kt:KT β} {d:Nat}=>AR (O:=Om) (kt:=kt) (d:=d) 58 (.im 0) (kI 1) _ _ _ rfl (by simp only[jr]) M.a0 (dS L _) (dS L _) (ok.one _ I2)
 have W:IntKind.i64.wrap (0+1)=1:=rfl;obtain⟨c,c',h',u,a,e,k3,F⟩:=qQF A2 hl (sub (bH L s [44])).1 28 bu;rw[a] at k3;have a1:(h.put (.im 0) (rO L (bH L s [44]))).get (.own 3 1)=some (.cells [.p (.str nm),c,.p (.int .i64 0),.p (.str []),.p .bq,.p .bq] 0):=a;refine⟨_,F,?_⟩;have xr:=TT.ct (sub (bH L s [44])).1;have B2:∀ {β:Type}{O:bD}{h:bm}{d:Nat}{kt:KT β},br O (.cm 4 1 z4 [(0,.k (.v (.agg (bp (sub (bH L s [44])).1.row))))] false) h d kt=kt (j7 4 true [(sub (bH L s [44])).1.row]) h cj:=Hk 4 _ _ rfl xr;generalize sub (bH L s [44])=r at *;generalize bH L s [44]=s1 at *;rw[hr] at U;have P1:∀ a b c d x y z:Cell,dm [a,b,c,d,x,y] 1 [z]=[a,z,c,d,x,y]:=λ_ _ _ _ _ _ _=>rfl
 generalize h.put (.im 0) (rO L s1)=hA at *;generalize hA.put (.im 0) (rO L r.2)=hB at *;have A4:AI.Touch.apart ⟨[(Ref.own 3 1).site],[],false⟩ ⟨[(Ref.im 0).site,(Ref.im 0).site],[(Ref.im 0).site],false⟩=true:=rfl;rw[IS,D7];simp only[bW,rA,rD,qI,U,V,a1,C,B2,e,k3,P1,rY,A4]
def qNQ(ok:n7 0 L sub)(hL:L.length<=900){nm:LB}:∀ (f:Nat) (s:RS) (l:List TT) (h:bm),FH h L s nm l->I1 L s->L.length+1 - s.p<f->l.length+(L.length+1 - s.p)<=L.length+2 ->
  ∃ h',FH h' L (kc sub L f s l).2 nm (kc sub L f s l).1/\I1 L (kc sub L f s l).2/\ca tab.get S 60 1 1 [P0,r2,r3] h=ca tab.get S 60 1 2 [P0,r2,r3] h'
 |0,s,l,h,A,I,hf,hn=>bn
 |f+1,s,l,h,A,I,hf,hn=>by
  unfold kc;cases M:eS L s [44] with
  |false =>
   rw[bA bu];refine⟨h,A,I,?_⟩;have U:=λ{β:Type} {k:KO β} {d:Nat}=>FF (k:=k) (d:=d) [44] bu A.a0
   rw[M] at U;rw[IS,D7];simp only[bW,U]
  |true =>
   rw[bF rfl];obtain⟨g1,g2⟩:=zu bu M;have aa:(bH L s [44]).p=s.p+1:=by unfold bH; rw[bF M]; rfl
   obtain⟨h1,A1,e1⟩:=qTF ok hL A bn I M;obtain⟨I2,_⟩:=rX (x:=[44]) bu I;obtain⟨I3,p3⟩:=ok.inv _ I2;obtain⟨h2,A2,I4,e2⟩:=qNQ ok hL f _ _ h1 A1 I3 bn (by rw[bV,gM]; omega);exact⟨h2,A2,I4,e1.trans e2⟩
def qRv(ok:n7 0 L sub)(hL:L.length<=900)(s:RS)(I:I1 L s) :
  ∃ h',FH h' L (jx sub L (bH L (dN L s).2 [40])).2 (dN L s).1 (jx sub L (bH L (dN L s).2 [40])).1/\I1 L (jx sub L (bH L (dN L s).2 [40])).2/\ca tab.get S 60 1 0 [P0] (bm.mk [rO L s] .nil)=ca tab.get S 60 1 2 [P0,r2,r3] h':=by
 obtain⟨A,_⟩:=Oc I;obtain⟨I2,_⟩:=rX (x:=[40]) bu A;have M:=λ{β:Type} {k:KO β} {d:Nat}=>Zk (h:=(bm.mk [rO L s] .nil).own 2 1 (.cells vx 0)) (k:=k) (d:=d) (L:=L) (s:=s) (by have:=I.2; omega) rfl
 generalize hn:dN L s=n at *;obtain⟨h1,aa⟩:∃ h1,h1=(((((bm.mk [rO L s] .nil).own 2 1 (.cells vx 0)).put (.im 0) (rO L n.2)).own 3 1 (.cells vx 0)).own 3 1 (.cells [.p (.str n.1),.p .bq,.p (.int .i64 0),.p (.str []),.p .bq,.p .bq] 0)).put (.im 0) (rO L n.2):=⟨_,rfl⟩;have A0:FH h1 L n.2 n.1 []:=by rw[aa]; exact⟨rfl,rfl,.p .bq,rfl,.inl ⟨rfl,rfl⟩,.inl ⟨rfl,rfl⟩⟩
 have V:=λ{β:Type} {k:KO β} {d:Nat}=>Ds (k:=k) (d:=d) (L:=L) (s:=n.2) (by have:=A.2; omega) [40] bu A0.a0
 have A1:=A0.put (t:=bH L n.2 [40]);generalize ad:bH L n.2 [40]=s2 at *;have U:=λ{β:Type} {k:KO β} {d:Nat}=>FF (k:=k) (d:=d) [41] bu A1.a0
 have z1:(bm.mk [rO L s] .nil).gen 2=0:=rfl;have z2:(((bm.mk [rO L s] .nil).own 2 1 (.cells vx 0)).put (.im 0) (rO L n.2)).gen 3=0:=rfl;have P:∀ a b c d e f:Cell,dm vx 0 [a,b,c,d,e,f]=[a,b,c,d,e,f]:=λ_ _ _ _ _ _=>rfl
 have BB:∀ {β:Type}{k:KO β}{h:bm},bQ Om (.build vx [(0,1,.k (kS n.1))]) h 6 k=k (.v (.agg [.p (.str n.1),.p .bq,.p (.int .i64 0),.p (.str []),.p .bq,.p .bq])) h:=λ{β k h}=>rfl
 have ab:((((bm.mk [rO L s] .nil).own 2 1 (.cells vx 0)).put (.im 0) (rO L n.2)).own 3 1 (.cells vx 0)).own 3 1 (.cells [.p (.str n.1),.p .bq,.p (.int .i64 0),.p (.str []),.p .bq,.p .bq] 0)=h1:=by rw[aa]; rfl
 unfold jx;cases hr:eS L s2 [41] with
 |true =>
  rw[hr] at U;rw[bF rfl];refine⟨_,A1,I2,?_⟩;rw[IT,D8];simp only[bW,rA,rC,qI,z1,M,BB,z2,P,ab,V,U,cB]
 |false =>
  rw[hr] at U;rw[bA bu];have A2:=A1.put (t:=(sub s2).2);have C:=λ{β:Type} {kt:KT β} {d:Nat}=>AR (O:=Om) (kt:=kt) (d:=d) 58 (.im 0) (kI 1) _ _ _ rfl (by simp only[jr]) A1.a0 (dS L _) (dS L _) (ok.one _ I2)
  obtain⟨c,c',h',u,a,e,k3,F⟩:=qQF A2 (by show 0<=1000; omega) (sub s2).1 17 bu;rw[a] at k3;have a1:(h1.put (.im 0) (rO L s2)).get (.own 3 1)=some (.cells [.p (.str n.1),c,.p (.int .i64 0),.p (.str []),.p .bq,.p .bq] 0):=a;obtain⟨I3,p3⟩:=ok.inv _ I2;obtain⟨h9,A9,I9,e9⟩:=qNQ ok hL (L.length+2) (sub s2).2 [(sub s2).1] _ F I3 bn (by show 1+_<=_; have:=I3.2; omega);refine⟨h9,A9,I9,jD ?_ e9⟩;have xr:=TT.ct (sub s2).1;have B2:∀ {β:Type}{O:bD}{h:bm}{d:Nat}{kt:KT β},br O (.cm 4 1 z4 [(0,.k (.v (.agg (bp (sub s2).1.row))))] false) h d kt=kt (j7 4 true [(sub s2).1.row]) h cj:=Hk 4 _ _ rfl xr;generalize sub s2=r at *;have P1:∀ a b c d x y z:Cell,dm [a,b,c,d,x,y] 1 [z]=[a,z,c,d,x,y]:=λ_ _ _ _ _ _ _=>rfl
  generalize h1.put (.im 0) (rO L s2)=hA at *;generalize hA.put (.im 0) (rO L r.2)=hB at *;have A4:AI.Touch.apart ⟨[(Ref.own 3 1).site],[],false⟩ ⟨[(Ref.im 0).site,(Ref.im 0).site],[(Ref.im 0).site],false⟩=true:=rfl;rw[IT,D8];simp only[bW,rA,rC,rD,qI,z1,M,BB,z2,P,ab,V,U,a1,C,B2,e,k3,P1,rY,A4,cB]
def qWp(ok:n7 0 L sub)(hL:L.length<=900){h:bm}{s:RS}{nm:LB}{l:List TT}(A:FH h L s nm l)(I:I1 L s) :
  ca tab.get S 60 1 2 [P0,r2,r3] h=some (kA (cV ⟨nm,grown l,(sub (bH L (bH L s [41]) [45,62])).1⟩),[rO L (bH L (sub (bH L (bH L s [41]) [45,62])).2 [59])]):=by
 obtain⟨I2,_⟩:=rX (x:=[41]) bu I;obtain⟨I3,_⟩:=rX (x:=[45,62]) bu I2;obtain⟨I4,_⟩:=ok.inv _ I3;have V1:=λ{β:Type} {k:KO β} {d:Nat}=>Ds (k:=k) (d:=d) (L:=L) (s:=s) (by have:=I.2; omega) [41] bu A.a0
 have A1:=A.put (t:=bH L s [41]);have V2:=λ{β:Type} {k:KO β} {d:Nat}=>Ds (k:=k) (d:=d) (L:=L) (s:=bH L s [41]) (by have:=I2.2; omega) [45,62] bu A1.a0
 have A2:=A1.put (t:=bH L (bH L s [41]) [45,62]);have C:∀ {β:Type}{k:KO β}{e:Nat},bE Om (F_ 58) [P0,kI 1] _ e k=k _ _:=λ{β k e} =>
  ny 58 (.im 0) 0 [] [kI 1] _ _ _ rfl rfl A2.a0 (dS L _) (dS L _) (by simp only[jr]) (ok.one _ I3)
 have A3:=A2.put (t:=(sub (bH L (bH L s [41]) [45,62])).2);generalize bH L (bH L s [41]) [45,62]=s3 at *;obtain⟨x1,x2,x3,x4,hx⟩:=nw (sub s3).1;have hg:cV ⟨nm,grown l,(sub s3).1⟩=[.str nm,dI 4 TT.row (grown l),x1,x2,x3,x4]:=by unfold cV; rw[hx]
 rw[hg];rw[hx] at C;have pr:bp [x1,x2,x3,x4]=[.p x1,.p x2,.p x3,.p x4]:=rfl;generalize sub s3=r at *;generalize bH L s [41]=s2 at *;generalize (h.put (.im 0) (rO L s2)).put (.im 0) (rO L s3)=hA at *;generalize ab:hA.put (.im 0) (rO L r.2)=hB at *;obtain⟨c,a3,B,_⟩:=A3.a3;have a2:=A3.a2;have P2:∀ a b c d e f x y z w:Cell,dm [a,b,c,d,e,f] 2 [x,y,z,w]=[a,b,x,y,z,w]:=λ_ _ _ _ _ _ _ _ _ _=>rfl
 have aa:∀ a b c d e f:Cell,dm vx 0 [a,b,c,d,e,f]=[a,b,c,d,e,f]:=λ_ _ _ _ _ _=>rfl
 obtain⟨hC,M⟩:∃ hC,hC=hB.own 3 1 (.cells [.p (.str nm),c,.p x1,.p x2,.p x3,.p x4] 0):=⟨_,rfl⟩;have c0:hC.get (.im 0)=some (rO L r.2):=by rw[M]; exact A3.a0
 have V3:=λ{β:Type} {k:KO β} {d:Nat}=>Ds (k:=k) (d:=d) (L:=L) (s:=r.2) (by have:=I4.2; omega) [59] bu c0
 obtain⟨hD,U⟩:∃ hD,hD=hC.put (.im 0) (rO L (bH L r.2 [59])):=⟨_,rfl⟩;have d0:hD.get (.im 0)=some (rO L (bH L r.2 [59])):=by rw[U]; exact bm.bX c0 cb
 have d3:hD.get (.own 3 1)=some (.cells [.p (.str nm),c,.p x1,.p x2,.p x3,.p x4] 0):=by rw[U,M]; exact bm.cC _ 3 1 _ bu cb
 have d2:hD.get (.own 2 1)=some (.cells vx 0):=by rw[U,M]; exact(bm.bN _ 3 1 _ 2 1 bu).trans a2
 have fin:∀ h:bm,h.get (.im 0)=some (rO L (bH L r.2 [59]))->bS true 1 [.agg [.p (.str nm),c,.p x1,.p x2,.p x3,.p x4]] h=some (kA [.str nm,dI 4 TT.row (grown l),x1,x2,x3,x4],[rO L (bH L r.2 [59])]):=by
  intro h hg;rw[ZS _ (rO L (bH L r.2 [59])) (by show([Cell.p (.str nm),c,.p x1,.p x2,.p x3,.p x4].all ru&&true)=true; simp only[oI,sI,B.pt]; rfl) hg (dS L _)];show some (bt.v (.agg [.p (.str nm),c.strip,.p x1,.p x2,.p x3,.p x4]),_)=_;rw[B.strip,XN];rfl
 rw[Tc,Km];simp only[bW,rA,rC,rD,V1,V2,C,a3,pr,P2,<- M,V3,<- U,d3,d2,aa,cB];exact fin _ d0
def qXL(ok:n7 0 L sub)(A:L.length<=900)(s:RS)(I:I1 L s):Om 60 [P0] [rO L s]=some (kA (cV (jS sub L s).1),[rO L (jS sub L s).2]):=by
 refine(gD rfl).trans ?_;show ca tab.get S 60 1 0 [P0] (bm.mk [rO L s] .nil)=_;obtain⟨h1,M,U,e1⟩:=qRv ok A s I;exact e1.trans (qWp ok A M U)
end
abbrev qU:bt:=.v (.c (.ptr (.own 25 1) 0))
abbrev eR(p:LB×TT):List bL:=eh p.1 p.2
structure PH (h:bm) (L:List Tok) (s:RS) (main:TT) (ns:Es) (gs:Gs):Prop where
 a0:h.get (.own 25 1)=some (rO L s)
 a2:h.get (.own 2 1)=some (.cells mi 0)
 a7:∃ m1 m2 m3 m4 T G,main.row=[m1,m2,m3,m4]/\h.get (.own 7 1)=some (.cells [.p m1,.p m2,.p m3,.p m4,T,G] 0)/\fh 5 T (ns.map eR)/\fh 6 G (gs.map cV)
def PH.put{h:bm}{L:List Tok}{s t:RS}{main:TT}{ns:Es}{gs:Gs}(A:PH h L s main ns gs):PH (h.own 25 1 (rO L t)) L t main ns gs:=by
 obtain⟨m1,m2,m3,m4,T,G,hm,a7,B⟩:=A.a7;exact⟨bm.cC _ 25 1 _ bu cb,(bm.bN _ 25 1 _ 2 1 bu).trans A.a2,m1,m2,m3,m4,T,G,hm,(bm.bN _ 25 1 _ 7 1 bu).trans a7,B⟩
def qTh{h:bm}{L:List Tok}{s:RS}{main:TT}{ns:Es}{gs:Gs}(A:PH h L s main ns gs)(hl:ns.length<=1000)(n:LB)(v1 v2 v3 v4:bL)(g:Nat)(ae:h.get (.own 11 g)=some (.cells [.p (.str n),.p v1,.p v2,.p v3,.p v4] 0)):∀ (m k:Nat),k+m=cu n ns ->
  ca tab.get S 17 0 5 [r2,qU,q7,.v (.c (.ptr (.own 11 g) 0)),kI (k:Int)] h=ca tab.get S 17 0 6 [r2,qU,q7,.v (.c (.ptr (.own 11 g) 0)),kI (cu n ns:Int)] h
 |0,k,hk=>by
  have hk:k=cu n ns:=bn
  obtain⟨m1,m2,m3,m4,T,G,hm,a7,M,BG⟩:=A.a7;have U:=λ{β:Type} {O:bD} {h:bm} {d:Nat} {k:KO β}=>M.len (O:=O) (h:=h) (d:=d) (k:=k)
  have AT:=λ{β:Type} {h:bm} {k:KO β} (i:Int)=>M.at (h:=h) (k:=k) i
  have ml:(ns.map eR).length=ns.length:=dj _;subst hk;by_cases h1:cu n ns<ns.length
  ·obtain⟨p,hp⟩:∃ p,ns[cu n ns]?=some p:=⟨ns[cu n ns],bR⟩;have hb:=Sc n ns (id p) (hp);have q:(cu n ns:Int)<(ns.length:Int):=bn
   have q0:(0:Int)<=(cu n ns:Int):=bn
   have r:(ns.map eR)[cu n ns]?=some (eR p):=by rw[dP,hp]; rfl
   have r0:(eR p)[0]?=some (.str (Prod.fst p)):=rfl;have hb:cX (Prod.fst p) n=false:=hb;rw[Df,BF];simp only[bW,a7,ae,U,AT,ml,q,q0,r,r0,hb]
  ·have q:¬ (cu n ns:Int)<(ns.length:Int):=bn
   rw[Df,BF];simp only[bW,a7,U,ml,q]
 |m+1,k,hk=>by
  obtain⟨m1,m2,m3,m4,T,G,hm,a7,M,BG⟩:=A.a7;have U:=λ{β:Type} {O:bD} {h:bm} {d:Nat} {k:KO β}=>M.len (O:=O) (h:=h) (d:=d) (k:=k)
  have AT:=λ{β:Type} {h:bm} {k:KO β} (i:Int)=>M.at (h:=h) (k:=k) i
  have ml:(ns.map eR).length=ns.length:=dj _;have hle:=JM n ns
  
  obtain⟨p,hp⟩:∃ p,ns[k]?=some p:=⟨ns[k]'bn,bR⟩;have hb:cX (Prod.fst p) n=true:=Sq n ns k (id p) bn (hp);have q:(k:Int)<(ns.length:Int):=bn
  have q0:(0:Int)<=(k:Int):=bn
  have r:(ns.map eR)[k]?=some (eR p):=by rw[dP,hp]; rfl
  have r0:(eR p)[0]?=some (.str (Prod.fst p)):=rfl;have w:IntKind.i64.wrap ((k:Int)+1)=((k+1:Nat):Int):=by rw[jZ _ bn bn]; omega
  rw[<- qTh A hl n v1 v2 v3 v4 g ae m (k+1) bn,Df,BF];simp only[bW,a7,ae,U,AT,ml,q,q0,r,r0,hb,w]
def qab{h:bm}{L:List Tok}{s:RS}{main:TT}{ns:Es}{gs:Gs}(A:PH h L s main ns gs)(hl:ns.length<=1000)(x:LB×TT)(v1 v2 v3 v4:bL)(g:Nat)(ae:h.get (.own 11 g)=some (.cells [.p (.str x.1),.p v1,.p v2,.p v3,.p v4] 0))(hx:eR x=[.str x.1,v1,v2,v3,v4]) :
  ∃ h',PH h' L { s with tw:=s.tw||iY ns (Prod.fst x) } main (iX ns x) gs/\ca tab.get S 17 0 6 [r2,qU,q7,.v (.c (.ptr (.own 11 g) 0)),kI (cu (Prod.fst x) ns:Int)] h=ca tab.get S 17 0 1 [r2,qU,q7] h':=by
 obtain⟨m1,m2,m3,m4,T,G,hm,a7,BT,BG⟩:=A.a7;generalize hn:Prod.fst x=n at *;have ag:=JM n ns;have hle:cu n ns<=ns.length:=by exact ag
 have ab:(ns.map eR).length=ns.length:=dj _;have r1:∀ l:List (LB×TT),∀ r∈l.map eR,r.length=5:=λl r hr=>by obtain⟨a,_,rfl⟩:=fk.1 hr; exact DD _ _
 obtain⟨s3,t3,b3,q3,p3⟩:=Yf BT (cu n ns) (by rw[ab]; exact hle);obtain⟨s5,t5,b5,q5,p5⟩:=XZ BT (cu n ns) (by rw[ab]; exact hle);rw[<- mK] at q3;rw[<- mJ] at q5;generalize hb:(s.tw||iY ns n)=b;obtain⟨hA,af⟩:∃ hA,hA=h.own 25 1 (rO L { s with tw:=b }):=⟨_,rfl⟩;have iA:hA.get (.own 25 1)=some (rO L { s with tw:=b }):=by rw[af]; exact bm.cC _ 25 1 _ bu cb
 have oA:∀ d g,d≠25->hA.get (.own d g)=h.get (.own d g):=λd g hd=>by rw[af]; exact bm.bN _ 25 1 _ d g (λe=>hd e.symm)
 have LN:=λ{β:Type} {O:bD} {h:bm} {d:Nat} {k:KO β}=>BT.len (O:=O) (h:=h) (d:=d) (k:=k)
 have AT:=λ{β:Type} {h:bm} {k:KO β} (i:Int)=>BT.at (h:=h) (k:=k) i
 have a0:=A.a0
 have ah:∀ (k:bt->bm->dA),(bz false 1 (.v (.c (.ptr (.own 25 1) 3))) h λaa h =>
   bo aa false (λU=>U (kI (cu n ns:Int)) h) h λai h =>
   bo aa false (λU=>bC 4 q7 h U) h λaj h =>
   bo aa false (λU=>bz false 1 aj h U) h λak h =>
   bo aa false (λU=>cP Om 2 ak h 159 U) h λal h =>
   bo aa false (λU=>bw .lss 0 ai al h U) h λan h =>
   bo aa false (λU=>U an h) h λM h =>
   bo M true (λU=>bC 4 q7 h U) h λao h =>
   bo M true (λU=>bz false 1 ao h U) h λaq h =>
   bo M true (λU=>U (kI (cu n ns:Int)) h) h λar h =>
   bo M true (λU=>bU 5 aq ar h U) h λau h =>
   bo M true (λU=>bC 0 au h U) h λaw h =>
   bo M true (λU=>bz false 1 aw h U) h λax h =>
   bo M true (λU=>bC 0 (.v (.c (.ptr (.own 11 g) 0))) h U) h λay h =>
   bo M true (λU=>bz false 1 ay h U) h λaz h =>
   bo M true (λU=>bw .eql 0 ax az h U) h λaA h =>
   bo aa false (λU=>bQ Om (.pick (.k M) (.k aA) (.k (kB false))) h 171 U) h λaB h =>
   bQ Om (.pick (.k aa) (.k (kB true)) (.k aB)) h 172 k)=k (kB b) h:=λk=>by
  cases ht:s.tw with
  |true =>
   rw[ht,oH] at hb;subst hb;simp only[bW,a0,ht]
  |false =>
   rw[ht,lP] at hb;by_cases h1:cu n ns<ns.length
   ·obtain⟨p,hp⟩:∃ p,ns[cu n ns]?=some p:=⟨ns[cu n ns],bR⟩;have q:(cu n ns:Int)<(ns.length:Int):=bn
    have q0:(0:Int)<=(cu n ns:Int):=bn
    have r:(ns.map eR)[cu n ns]?=some (eR p):=by rw[dP,hp]; rfl
    have r0:(eR p)[0]?=some (.str (Prod.fst p)):=rfl;have hd:iY ns n=decide (Prod.fst p=n):=by
     have hq:ns[cu n ns]?=some (id p):=hp;unfold iY; rw[hq]; rfl
    rw[hd] at hb;subst hb;by_cases hk:Prod.fst p=n
    ·simp only[bW,a0,a7,ae,LN,AT,ab,q,q0,r,r0,ht,hk]
    ·simp only[bW,a0,a7,ae,LN,AT,ab,q,q0,r,r0,ht,hk]
   ·have q:¬ (cu n ns:Int)<(ns.length:Int):=bn
    have hd:iY ns n=false:=by
     have hq:ns[cu n ns]?=none:=ky bn;unfold iY; rw[hq]
    rw[hd] at hb;subst hb;simp only[bW,a0,a7,LN,ab,q,ht]
 obtain⟨c1,h1,u1,G1,e1,T1,K1,aF,X1⟩:=sS (h:=hA) (d:=180) (D:=[180,184,189]) (sz:=5) (by':=88) (v:=.p (.slice 5 true [])) (rows:=[]) q3 (.inr (.inl rfl)) bu (r1 _) cM bu;obtain⟨c3,h3,u3,G3,e3,T3,K3,I3,X3⟩:=sS (h:=h1) (d:=184) (sz:=5) (by':=88) (new:=[[.str n,v1,v2,v3,v4]]) (b:=.slice 5 true [[.str n,v1,v2,v3,v4]]) (.inr ⟨_,rfl⟩) G1 bu (λr hr=>by simp at hr; rw[hr]; rfl) cM bu;obtain⟨c4,h4,u4,G4,e4,T4,K4,I4,X4⟩:=sS (d:=189) (by':=88) q5 G3 bu (r1 _) cM bu;obtain⟨ra,ea⟩:=X4 (.inr (X3 (.inl bR)));have dY:∀ e g o,e∉[180,184,189,25]->h.get (.own e g)=some o->h1.get (.own e g)=some o/\h3.get (.own e g)=some o/\h4.get (.own e g)=some o:=by
  intro e g o aC ho;have n1:e∉[180,184,189]:=by revert aC; simp <;> omega
  have n2:e≠25:=by revert aC; simp <;> omega
  have a1:=K1 e g o n1 ((oA e g n2).trans ho);have a3:=K3 e g o n1 a1;exact⟨a1,a3,K4 e g o n1 a3⟩
 obtain⟨f1,f3,f4⟩:=dY 7 1 _ bu a7;obtain⟨x1,x3,x4⟩:=dY 11 g _ bu ae;obtain⟨y1,y3,y4⟩:=dY 2 1 _ bu A.a2;have i4:h4.get (.own 25 1)=some (rO L { s with tw:=b }):=K4 25 1 _ bu (K3 25 1 _ bu (K1 25 1 _ bu iA));have A3:AI.Touch.apart u3 ⟨[(Ref.own 7 1).site],[],false⟩=true:=AS T3 7 bu;have P1:∀ a b c d T G:Cell,dm [a,b,c,d,T,G] 4 [c4]=[a,b,c,d,c4,G]:=λ_ _ _ _ _ _=>rfl
 have P3:∀ a b c d y:Cell,dm [a,b,c,d] 3 [y]=[a,b,c,y]:=λ_ _ _ _ _=>rfl
 have B1:∀ {β:Type}{O:bD}{h:bm}{d:Nat}{kt:KT β},br O (.cm 5 1 [.p (.str []),.p (.int .i64 0),.p (.str []),.p .bq,.p .bq] [(0,.k (.v (.agg [.p (.str n),.p v1,.p v2,.p v3,.p v4])))] false) h d kt=kt (j7 5 true [[.str n,v1,v2,v3,v4]]) h cj:=Hk 5 _ [.str n,v1,v2,v3,v4] rfl rfl;have E1:∀ {β:Type}{O:bD}{k:KO β},bQ O (.append 5 88 false (.k (j7 5 true [])) (.k (.v (.c s3)))) hA 180 k=k (.v (.c c1)) h1:=λ{β O k}=>by rw[Ch,p3]; exact e1 β O _
 have E4:∀ {β:Type}{O:bD}{kt:KT β},br O (.append 5 88 false (.k (.v (.c c3))) (.k (.v (.c s5)))) h3 189 kt=kt (.v (.c c4)) h4 u4:=λ{β O kt}=>by rw[p5]; exact e4 β O _
 have Z1:∀ {β:Type}{O:bD}{h:bm}{d:Nat}{k:KO β},bQ O (.cm 5 0 [.p (.str []),.p (.int .i64 0),.p (.str []),.p .bq,.p .bq] [] false) h d k=k (j7 5 true []) h:=λ{β O h d k}=>qg _ _ rfl
 obtain⟨hB,ad⟩:∃ hB,hB=h4.own 7 1 (.cells [.p m1,.p m2,.p m3,.p m4,c4,G] 0):=⟨_,rfl⟩;have iB:hB.get (.own 25 1)=some (rO L { s with tw:=b }):=by rw[ad]; exact(bm.bN _ 7 1 _ 25 1 bu).trans i4
 have aD:hB.get (.own 2 1)=some (.cells mi 0):=by rw[ad]; exact(bm.bN _ 7 1 _ 2 1 bu).trans y4
 have aE:hB.get (.own 7 1)=some (.cells [.p m1,.p m2,.p m3,.p m4,c4,G] 0):=by rw[ad]; exact bm.cC _ 7 1 _ bu cb
 have ei:(iX ns x).map eR=[]++(ns.take (cu n ns)).map eR++[[.str n,v1,v2,v3,v4]]++(ns.drop (cu n ns)).map eR:=by
  unfold iX;rw[hn,gG,dr,hx]; simp
 have ne:(iX ns x).map eR≠[]:=by rw[ei]; simp
 refine⟨hB,⟨iB,aD,m1,m2,m3,m4,c4,G,hm,aE,.inr ⟨ne,ra,by rw[ei]; exact ea⟩,BG⟩,?_⟩;have NK:∀ {β:Type}{h:bm}{d:Nat}{k:KO β},bQ Om (.cO (.k qU)) h d k=k qU h:=λ{β h d k}=>by simp only[bW]
 have FA:∀ {β:Type}{h:bm}{k:KO β},bC 3 qU h k=k (.v (.c (.ptr (.own 25 1) 3))) h:=λ{β h k}=>by simp only[bW]
 have ST:∀ {k:bt->bm->dA},bK 1 (.v (.c (.ptr (.own 25 1) 3))) (kB b) h k=k .undef hA:=λ{k}=>by
  rw[af];simp only[bW,rA,rD,a0,P3]
 rw[TU,KJ];rw[NK,FA];refine(ah _).trans ?_;rw[NK,FA,ST];have v0:=(oA 7 1 bu).trans a7;simp only[bW,rA,rD,qI,v0,t3,t5,Z1,E1,e3,E4,f3,f4,x1,B1,rY,A3,P1,<- ad]
def qTp{h:bm}{L:List Tok}{s:RS}{main:TT}{ns:Es}{gs:Gs}(A:PH h L s main ns gs)(hl:gs.length<=1000)(n:LB)(v1 v2 v3 v4 v5:bL)(g:Nat)(ae:h.get (.own 8 g)=some (.cells [.p (.str n),.p v1,.p v2,.p v3,.p v4,.p v5] 0)):∀ (m k:Nat),k+m=cu n (gs.map gE) ->
  ca tab.get S 17 0 2 [r2,qU,q7,.v (.c (.ptr (.own 8 g) 0)),kI (k:Int)] h=ca tab.get S 17 0 3 [r2,qU,q7,.v (.c (.ptr (.own 8 g) 0)),kI (cu n (gs.map gE):Int)] h
 |0,k,hk=>by
  have hk:k=cu n (gs.map gE):=bn
  obtain⟨m1,m2,m3,m4,T,G,hm,a7,BT,M⟩:=A.a7;have U:=λ{β:Type} {O:bD} {h:bm} {d:Nat} {k:KO β}=>M.len (O:=O) (h:=h) (d:=d) (k:=k)
  have AT:=λ{β:Type} {h:bm} {k:KO β} (i:Int)=>M.at (h:=h) (k:=k) i
  have ml:(gs.map cV).length=gs.length:=dj _;subst hk;by_cases h1:cu n (gs.map gE)<gs.length
  ·obtain⟨p,hp⟩:∃ p,gs[cu n (gs.map gE)]?=some p:=⟨gs[cu n (gs.map gE)],bR⟩;have hb:=Sc n (gs.map gE) (gE p) ((by rw[dP,hp]; rfl));have q:(cu n (gs.map gE):Int)<(gs.length:Int):=bn
   have q0:(0:Int)<=(cu n (gs.map gE):Int):=bn
   have r:(gs.map cV)[cu n (gs.map gE)]?=some (cV p):=by rw[dP,hp]; rfl
   have r0:(cV p)[0]?=some (.str (GS.nm p)):=rfl;have hb:cX (GS.nm p) n=false:=hb;rw[Dg,BH];simp only[bW,a7,ae,U,AT,ml,q,q0,r,r0,hb]
  ·have q:¬ (cu n (gs.map gE):Int)<(gs.length:Int):=bn
   rw[Dg,BH];simp only[bW,a7,U,ml,q]
 |m+1,k,hk=>by
  obtain⟨m1,m2,m3,m4,T,G,hm,a7,BT,M⟩:=A.a7;have U:=λ{β:Type} {O:bD} {h:bm} {d:Nat} {k:KO β}=>M.len (O:=O) (h:=h) (d:=d) (k:=k)
  have AT:=λ{β:Type} {h:bm} {k:KO β} (i:Int)=>M.at (h:=h) (k:=k) i
  have ml:(gs.map cV).length=gs.length:=dj _;have hle:=JM n (gs.map gE);rw[dj] at hle;obtain⟨p,hp⟩:∃ p,gs[k]?=some p:=⟨gs[k]'bn,bR⟩;have hb:cX (GS.nm p) n=true:=Sq n (gs.map gE) k (gE p) bn ((by rw[dP,hp]; rfl));have q:(k:Int)<(gs.length:Int):=bn
  have q0:(0:Int)<=(k:Int):=bn
  have r:(gs.map cV)[k]?=some (cV p):=by rw[dP,hp]; rfl
  have r0:(cV p)[0]?=some (.str (GS.nm p)):=rfl;have w:IntKind.i64.wrap ((k:Int)+1)=((k+1:Nat):Int):=by rw[jZ _ bn bn]; omega
  rw[<- qTp A hl n v1 v2 v3 v4 v5 g ae m (k+1) bn,Dg,BH];simp only[bW,a7,ae,U,AT,ml,q,q0,r,r0,hb,w]
def qac{h:bm}{L:List Tok}{s:RS}{main:TT}{ns:Es}{gs:Gs}(A:PH h L s main ns gs)(hl:gs.length<=1000)(x:GS)(v1 v2 v3 v4 v5:bL)(g:Nat)(ae:h.get (.own 8 g)=some (.cells [.p (.str x.nm),.p v1,.p v2,.p v3,.p v4,.p v5] 0))(hx:cV x=[.str x.nm,v1,v2,v3,v4,v5]) :
  ∃ h',PH h' L { s with tw:=s.tw||iY (gs.map gE) (GS.nm x) } main ns (tr gs x)/\ca tab.get S 17 0 3 [r2,qU,q7,.v (.c (.ptr (.own 8 g) 0)),kI (cu (GS.nm x) (gs.map gE):Int)] h=ca tab.get S 17 0 1 [r2,qU,q7] h':=by
 obtain⟨m1,m2,m3,m4,T,G,hm,a7,BT,BG⟩:=A.a7;generalize hn:GS.nm x=n at *;have af:=JM n (gs.map gE);have hle:cu n (gs.map gE)<=gs.length:=by rw[dj] at af; exact af
 have ab:(gs.map cV).length=gs.length:=dj _;have r1:∀ l:List (GS),∀ r∈l.map cV,r.length=6:=λl r hr=>by obtain⟨a,_,rfl⟩:=fk.1 hr; exact by simp[cV,TT.ct]
 obtain⟨s3,t3,b3,q3,p3⟩:=Yf BG (cu n (gs.map gE)) (by rw[ab]; exact hle);obtain⟨s5,t5,b5,q5,p5⟩:=XZ BG (cu n (gs.map gE)) (by rw[ab]; exact hle);rw[<- mK] at q3;rw[<- mJ] at q5;generalize hb:(s.tw||iY (gs.map gE) n)=b;obtain⟨hA,ag⟩:∃ hA,hA=h.own 25 1 (rO L { s with tw:=b }):=⟨_,rfl⟩;have iA:hA.get (.own 25 1)=some (rO L { s with tw:=b }):=by rw[ag]; exact bm.cC _ 25 1 _ bu cb
 have oA:∀ d g,d≠25->hA.get (.own d g)=h.get (.own d g):=λd g hd=>by rw[ag]; exact bm.bN _ 25 1 _ d g (λe=>hd e.symm)
 have LN:=λ{β:Type} {O:bD} {h:bm} {d:Nat} {k:KO β}=>BG.len (O:=O) (h:=h) (d:=d) (k:=k)
 have AT:=λ{β:Type} {h:bm} {k:KO β} (i:Int)=>BG.at (h:=h) (k:=k) i
 have a0:=A.a0
 have ah:∀ (k:bt->bm->dA),(bz false 1 (.v (.c (.ptr (.own 25 1) 3))) h λaa h =>
   bo aa false (λM=>M (kI (cu n (gs.map gE):Int)) h) h λak h =>
   bo aa false (λM=>bC 5 q7 h M) h λal h =>
   bo aa false (λM=>bz false 1 al h M) h λan h =>
   bo aa false (λM=>cP Om 2 an h 88 M) h λao h =>
   bo aa false (λM=>bw .lss 0 ak ao h M) h λaq h =>
   bo aa false (λM=>M aq h) h λU h =>
   bo U true (λM=>bC 5 q7 h M) h λar h =>
   bo U true (λM=>bz false 1 ar h M) h λau h =>
   bo U true (λM=>M (kI (cu n (gs.map gE):Int)) h) h λaw h =>
   bo U true (λM=>bU 6 au aw h M) h λax h =>
   bo U true (λM=>bC 0 ax h M) h λay h =>
   bo U true (λM=>bz false 1 ay h M) h λaz h =>
   bo U true (λM=>bC 0 (.v (.c (.ptr (.own 8 g) 0))) h M) h λaA h =>
   bo U true (λM=>bz false 1 aA h M) h λaB h =>
   bo U true (λM=>bw .eql 0 az aB h M) h λaC h =>
   bo aa false (λM=>bQ Om (.pick (.k U) (.k aC) (.k (kB false))) h 100 M) h λai h =>
   bQ Om (.pick (.k aa) (.k (kB true)) (.k ai)) h 101 k)=k (kB b) h:=λk=>by
  cases ht:s.tw with
  |true =>
   rw[ht,oH] at hb;subst hb;simp only[bW,a0,ht]
  |false =>
   rw[ht,lP] at hb;by_cases h1:cu n (gs.map gE)<gs.length
   ·obtain⟨p,hp⟩:∃ p,gs[cu n (gs.map gE)]?=some p:=⟨gs[cu n (gs.map gE)],bR⟩;have q:(cu n (gs.map gE):Int)<(gs.length:Int):=bn
    have q0:(0:Int)<=(cu n (gs.map gE):Int):=bn
    have r:(gs.map cV)[cu n (gs.map gE)]?=some (cV p):=by rw[dP,hp]; rfl
    have r0:(cV p)[0]?=some (.str (GS.nm p)):=rfl;have hd:iY (gs.map gE) n=decide (GS.nm p=n):=by
     have hq:(gs.map gE)[cu n (gs.map gE)]?=some (gE p):=(by rw[dP,hp]; rfl);unfold iY; rw[hq]; rfl
    rw[hd] at hb;subst hb;by_cases hk:GS.nm p=n
    ·simp only[bW,a0,a7,ae,LN,AT,ab,q,q0,r,r0,ht,hk]
    ·simp only[bW,a0,a7,ae,LN,AT,ab,q,q0,r,r0,ht,hk]
   ·have q:¬ (cu n (gs.map gE):Int)<(gs.length:Int):=bn
    have hd:iY (gs.map gE) n=false:=by
     have hq:(gs.map gE)[cu n (gs.map gE)]?=none:=ky (by rw[dj]; omega);unfold iY; rw[hq]
    rw[hd] at hb;subst hb;simp only[bW,a0,a7,LN,ab,q,ht]
 obtain⟨c1,h1,u1,G1,e1,T1,K1,aF,X1⟩:=sS (h:=hA) (d:=109) (D:=[109,113,118]) (sz:=6) (by':=112) (v:=.p (.slice 6 true [])) (rows:=[]) q3 (.inr (.inl rfl)) bu (r1 _) cM bu;obtain⟨c3,h3,u3,G3,e3,T3,K3,I3,X3⟩:=sS (h:=h1) (d:=113) (sz:=6) (by':=112) (new:=[[.str n,v1,v2,v3,v4,v5]]) (b:=.slice 6 true [[.str n,v1,v2,v3,v4,v5]]) (.inr ⟨_,rfl⟩) G1 bu (λr hr=>by simp at hr; rw[hr]; rfl) cM bu;obtain⟨c4,h4,u4,G4,e4,T4,K4,I4,X4⟩:=sS (d:=118) (by':=112) q5 G3 bu (r1 _) cM bu;obtain⟨ra,ea⟩:=X4 (.inr (X3 (.inl bR)));have dY:∀ e g o,e∉[109,113,118,25]->h.get (.own e g)=some o->h1.get (.own e g)=some o/\h3.get (.own e g)=some o/\h4.get (.own e g)=some o:=by
  intro e g o aj ho;have n1:e∉[109,113,118]:=by revert aj; simp <;> omega
  have n2:e≠25:=by revert aj; simp <;> omega
  have a1:=K1 e g o n1 ((oA e g n2).trans ho);have a3:=K3 e g o n1 a1;exact⟨a1,a3,K4 e g o n1 a3⟩
 obtain⟨f1,f3,f4⟩:=dY 7 1 _ bu a7;obtain⟨x1,x3,x4⟩:=dY 8 g _ bu ae;obtain⟨y1,y3,y4⟩:=dY 2 1 _ bu A.a2;have i4:h4.get (.own 25 1)=some (rO L { s with tw:=b }):=K4 25 1 _ bu (K3 25 1 _ bu (K1 25 1 _ bu iA));have A3:AI.Touch.apart u3 ⟨[(Ref.own 7 1).site],[],false⟩=true:=AS T3 7 bu;have P1:∀ a b c d T G:Cell,dm [a,b,c,d,T,G] 5 [c4]=[a,b,c,d,T,c4]:=λ_ _ _ _ _ _=>rfl
 have P3:∀ a b c d y:Cell,dm [a,b,c,d] 3 [y]=[a,b,c,y]:=λ_ _ _ _ _=>rfl
 have B1:∀ {β:Type}{O:bD}{h:bm}{d:Nat}{kt:KT β},br O (.cm 6 1 [.p (.str []),.p .bq,.p (.int .i64 0),.p (.str []),.p .bq,.p .bq] [(0,.k (.v (.agg [.p (.str n),.p v1,.p v2,.p v3,.p v4,.p v5])))] false) h d kt=kt (j7 6 true [[.str n,v1,v2,v3,v4,v5]]) h cj:=Hk 6 _ [.str n,v1,v2,v3,v4,v5] rfl rfl;have E1:∀ {β:Type}{O:bD}{k:KO β},bQ O (.append 6 112 false (.k (j7 6 true [])) (.k (.v (.c s3)))) hA 109 k=k (.v (.c c1)) h1:=λ{β O k}=>by rw[Ch,p3]; exact e1 β O _
 have E4:∀ {β:Type}{O:bD}{kt:KT β},br O (.append 6 112 false (.k (.v (.c c3))) (.k (.v (.c s5)))) h3 118 kt=kt (.v (.c c4)) h4 u4:=λ{β O kt}=>by rw[p5]; exact e4 β O _
 have Z1:∀ {β:Type}{O:bD}{h:bm}{d:Nat}{k:KO β},bQ O (.cm 6 0 [.p (.str []),.p .bq,.p (.int .i64 0),.p (.str []),.p .bq,.p .bq] [] false) h d k=k (j7 6 true []) h:=λ{β O h d k}=>qg _ _ rfl
 obtain⟨hB,ad⟩:∃ hB,hB=h4.own 7 1 (.cells [.p m1,.p m2,.p m3,.p m4,T,c4] 0):=⟨_,rfl⟩;have iB:hB.get (.own 25 1)=some (rO L { s with tw:=b }):=by rw[ad]; exact(bm.bN _ 7 1 _ 25 1 bu).trans i4
 have aD:hB.get (.own 2 1)=some (.cells mi 0):=by rw[ad]; exact(bm.bN _ 7 1 _ 2 1 bu).trans y4
 have aE:hB.get (.own 7 1)=some (.cells [.p m1,.p m2,.p m3,.p m4,T,c4] 0):=by rw[ad]; exact bm.cC _ 7 1 _ bu cb
 have ei:(tr gs x).map cV=[]++(gs.take (cu n (gs.map gE))).map cV++[[.str n,v1,v2,v3,v4,v5]]++(gs.drop (cu n (gs.map gE))).map cV:=by
  unfold tr;rw[hn,gG,dr,hx]; simp
 have ne:(tr gs x).map cV≠[]:=by rw[ei]; simp
 refine⟨hB,⟨iB,aD,m1,m2,m3,m4,T,c4,hm,aE,BT,.inr ⟨ne,ra,by rw[ei]; exact ea⟩⟩,?_⟩;have NK:∀ {β:Type}{h:bm}{d:Nat}{k:KO β},bQ Om (.cO (.k qU)) h d k=k qU h:=λ{β h d k}=>by simp only[bW]
 have FA:∀ {β:Type}{h:bm}{k:KO β},bC 3 qU h k=k (.v (.c (.ptr (.own 25 1) 3))) h:=λ{β h k}=>by simp only[bW]
 have ST:∀ {k:bt->bm->dA},bK 1 (.v (.c (.ptr (.own 25 1) 3))) (kB b) h k=k .undef hA:=λ{k}=>by
  rw[ag];simp only[bW,rA,rD,a0,P3]
 rw[TX,KM];rw[NK,FA];refine(ah _).trans ?_;rw[NK,FA,ST];have v0:=(oA 7 1 bu).trans a7;simp only[bW,rA,rD,qI,v0,t3,t5,Z1,E1,e3,E4,f3,f4,x1,B1,rY,A3,P1,<- ad]
section
variable {β:Type} {k:KO β} {h:bm} {d:Nat} {L:List Tok} {s:RS} {sub:RS->TT×RS}
def Ut(hp:s.p<=1000000)(x:LB)(hx:x≠[])(A:h.get (.own 25 1)=some (rO L s)):bE Om (F_ 57) [qU,kS x] h d k=k (.dq []) (h.own 25 1 (rO L (bH L s x))) :=
 ny 57 (.own 25 1) 0 [] [kS x] _ _ _ rfl rfl A (dS L s) (dS L _) rfl (qRN L s hp x hx)
def v59(x:LB)(hx:x≠[])(A:h.get (.own 25 1)=some (rO L s)):bE Om (F_ 59) [qU,kS x] h d k=k (kB (eS L s x)) (h.own 25 1 (rO L s)) :=
 ny 59 (.own 25 1) 0 [] [kS x] _ _ _ rfl rfl A (dS L s) (dS L s) rfl (qTq L s x hx)
def v61(hp:s.p<=1000000)(A:h.get (.own 25 1)=some (rO L s)):bE Om (F_ 61) [qU] h d k=k (kS (dN L s).1) (h.own 25 1 (rO L (dN L s).2)) :=
 ny 61 (.own 25 1) 0 [] [] _ _ _ rfl rfl A (dS L s) (dS L _) rfl (qTv L s hp)
def v58(ok:n7 0 L sub)(I:I1 L s)(A:h.get (.own 25 1)=some (rO L s)):bE Om (F_ 58) [qU,kI 1] h d k=k (kA (sub s).1.row) (h.own 25 1 (rO L (sub s).2)) :=
 ny 58 (.own 25 1) 0 [] [kI 1] _ _ _ rfl rfl A (dS L s) (dS L _) (by simp only[jr]) (ok.one s I)
def v60(ok:n7 0 L sub)(A:L.length<=900)(I:I1 L s)(M:h.get (.own 25 1)=some (rO L s)):bE Om (F_ 60) [qU] h d k=k (kA (cV (jS sub L s).1)) (h.own 25 1 (rO L (jS sub L s).2)) :=
 ny 60 (.own 25 1) 0 [] [] _ _ _ rfl rfl M (dS L s) (dS L _) (by simp only[jr]) (qXL ok A s I)
def v62(A:h.get (.own 25 1)=some (rO L s)):bE Om (F_ 62) [qU] h d k=k (kI (qy L s).e) (h.own 25 1 (rO L (qy L s))) :=
 ny 62 (.own 25 1) 0 [] [] _ _ _ rfl rfl A (dS L s) (dS L _) rfl (qXR L s)
end
def PH.yg{h:bm}{L:List Tok}{s:RS}{main:TT}{ns:Es}{gs:Gs}(A:PH h L s main ns gs)(e g:Nat)(o:bG)(he:e≠25/\e≠2/\e≠7):PH (h.own e g o) L s main ns gs:=by
 obtain⟨m1,m2,m3,m4,T,G,hm,a7,B⟩:=A.a7;exact⟨(bm.bN _ e g _ 25 1 he.1).trans A.a0,(bm.bN _ e g _ 2 1 he.2.1).trans A.a2,m1,m2,m3,m4,T,G,hm,(bm.bN _ e g _ 7 1 he.2.2).trans a7,B⟩
section
variable {L:List Tok} {sub:RS->TT×RS}
def qXK(ok:n7 0 L sub)(hL:L.length<=900){h:bm}{s:RS}{main:TT}{ns:Es}{gs:Gs}(A:PH h L s main ns gs)(hl:gs.length<=1000)(he:s.e=0)(hp:s.p<L.length)(hr:eS L s yh=true) :
  ∃ h',PH h' L (Ha gs (jS sub L (bJ s)).1.nm (jS sub L (bJ s)).2) main ns (tr gs (jS sub L (bJ s)).1)/\ca tab.get S 17 0 1 [r2,qU,q7] h=ca tab.get S 17 0 1 [r2,qU,q7] h':=by
 have A1:=A.put (t:=s);have A2:=A1.put (t:=bJ s);have A3:=A2.put (t:=(jS sub L (bJ s)).2);have a0:=A.a0;have a1:=A1.a0;have LN:=λ{β:Type} {O:bD} {h:bm} {d:Nat} {k:KO β}=>wH (O:=O) (h:=h) (d:=d) (k:=k) L
 have q1:(s.p:Int)<(L.length:Int):=bn
 have ab:=λ{β:Type} {k:KO β} {d:Nat}=>v59 (k:=k) (d:=d) [102,110] bu a0
 have ad:eS L s [102,110]=eS L s yh:=rfl;rw[ad,hr] at ab;have M:=λ{β:Type} {k:KO β} {d:Nat}=>v60 (k:=k) (d:=d) ok hL (Oi hp) A2.a0
 have P1:∀ (a b c d y:Cell),dm [a,b,c,d] 1 [y]=[a,y,c,d]:=λ_ _ _ _ _=>rfl
 have w1:IntKind.i64.wrap ((s.p:Int)+1)=((s.p+1:Nat):Int):=by rw[jZ _ bn bn]; omega
 obtain⟨x1,x2,x3,x4,x5,hx⟩:=qIL (jS sub L (bJ s)).1;rw[hx] at M;generalize jS sub L (bJ s)=x at *;have pr:bp [.str x.1.nm,x5,x1,x2,x3,x4]=[.p (.str x.1.nm),.p x5,.p x1,.p x2,.p x3,.p x4]:=rfl;obtain⟨hB,U⟩:∃ hB,hB=((h.own 25 1 (rO L s)).own 25 1 (rO L (bJ s))).own 25 1 (rO L x.2):=⟨_,rfl⟩;rw[<- U] at A3;obtain⟨g,hg⟩:∃ g,g=hB.gen 8+1:=⟨_,rfl⟩;have A4:=(A3.yg 8 g (.cells vx 0) bu).yg 8 g (.cells [.p (.str x.1.nm),.p x5,.p x1,.p x2,.p x3,.p x4] 0) bu;obtain⟨hC,aa⟩:∃ hC,hC=(hB.own 8 g (.cells vx 0)).own 8 g (.cells [.p (.str x.1.nm),.p x5,.p x1,.p x2,.p x3,.p x4] 0):=⟨_,rfl⟩;have ae:hC.get (.own 8 g)=some (.cells [.p (.str x.1.nm),.p x5,.p x1,.p x2,.p x3,.p x4] 0):=by rw[aa]; exact bm.cC _ 8 g _ bu cb
 rw[<- aa] at A4;have e1:=qTp A4 hl x.1.nm x5 x1 x2 x3 x4 g ae (cu x.1.nm (gs.map gE)) 0 bn;obtain⟨h',A5,e2⟩:=qac A4 hl x.1 x5 x1 x2 x3 x4 g ae hx;refine⟨h',A5,jD ?_ (e1.trans e2)⟩;have P6:∀ a b c d e f:Cell,dm vx 0 [a,b,c,d,e,f]=[a,b,c,d,e,f]:=λ_ _ _ _ _ _=>rfl
 have z0:kI ((0:Nat):Int)=kI 0:=rfl;have er:rO L (bJ s) = .cells [.p (qY L),.p (.int .i64 ((s.p+1:Nat):Int)),.p (.int .i64 0),.p (.bool s.tw)] 0:=by unfold bJ; rw[he]
 rw[er] at U M;rw[z0,AN,yS];simp only[bW,rA,rC,rD,a0,he,q1,LN,ab,a1,P1,w1,M,<- U,<- hg,pr,P6,<- aa,cB]
def qX3(ok:n7 0 L sub)(hL:L.length<=900){h:bm}{s:RS}{main:TT}{ns:Es}{gs:Gs}(A:PH h L s main ns gs)(hl:ns.length<=1000)(he:s.e=0)(hp:s.p<L.length)(hr:eS L s yh=false) :
  ∃ h',PH h' L (lW ns (ft sub L (bH L s ja)).1.1 (ft sub L (bH L s ja)).2) main (iX ns (ft sub L (bH L s ja)).1) gs/\ca tab.get S 17 0 1 [r2,qU,q7] h=ca tab.get S 17 0 1 [r2,qU,q7] h':=by
 have I:I1 L s:=⟨λ_=>bn,bn⟩;obtain⟨J1,_⟩:=rX (x:=ja) bu I;obtain⟨J2,_⟩:=Oc J1;obtain⟨J3,_⟩:=rX (x:=[61]) bu J2;obtain⟨J4,_⟩:=ok.inv _ J3;have A1:=A.put (t:=s);have A2:=A1.put (t:=bH L s ja);have A3:=A2.put (t:=(dN L (bH L s ja)).2);have a0:=A.a0;have LN:=λ{β:Type} {O:bD} {h:bm} {d:Nat} {k:KO β}=>wH (O:=O) (h:=h) (d:=d) (k:=k) L
 have q1:(s.p:Int)<(L.length:Int):=bn
 have ab:=λ{β:Type} {k:KO β} {d:Nat}=>v59 (k:=k) (d:=d) [102,110] bu a0
 have ah:eS L s [102,110]=eS L s yh:=rfl;rw[ah,hr] at ab;have ai:∀ {β:Type}{k:KO β}{d:Nat},bE Om (F_ 57) [qU,kS [116,121,112,101]] (h.own 25 1 (rO L s)) d k=k (.dq []) ((h.own 25 1 (rO L s)).own 25 1 (rO L (bH L s ja))):=λ{β k d}=>Ut (k:=k) (d:=d) bn ja bu A1.a0
 have aj:=λ{β:Type} {k:KO β} {d:Nat}=>v61 (k:=k) (d:=d) (by have:=J1.2; omega) A2.a0
 have hx:ft sub L (bH L s ja)=(((dN L (bH L s ja)).1,(sub (bH L (dN L (bH L s ja)).2 [61])).1),bH L (sub (bH L (dN L (bH L s ja)).2 [61])).2 [59]):=rfl;rw[hx];generalize bH L s ja=s1 at *;generalize dN L s1=n at *;obtain⟨hB,ad⟩:∃ hB,hB=((h.own 25 1 (rO L s)).own 25 1 (rO L s1)).own 25 1 (rO L n.2):=⟨_,rfl⟩;rw[<- ad] at A3;obtain⟨g,hg⟩:∃ g,g=hB.gen 11+1:=⟨_,rfl⟩;have A4:=(A3.yg 11 g (.cells z5 0) bu).yg 11 g (.cells [.p (.str n.1),.p (.int .i64 0),.p (.str []),.p .bq,.p .bq] 0) bu;obtain⟨hC,M⟩:∃ hC,hC=(hB.own 11 g (.cells z5 0)).own 11 g (.cells [.p (.str n.1),.p (.int .i64 0),.p (.str []),.p .bq,.p .bq] 0):=⟨_,rfl⟩;rw[<- M] at A4;have ak:=λ{β:Type} {k:KO β} {d:Nat}=>Ut (k:=k) (d:=d) (by have:=J2.2; omega) [61] bu A4.a0
 have A5:=A4.put (t:=bH L n.2 [61]);have af:=λ{β:Type} {k:KO β} {d:Nat}=>v58 (k:=k) (d:=d) ok J3 A5.a0
 have A6:=A5.put (t:=(sub (bH L n.2 [61])).2);generalize bH L n.2 [61]=s3 at *;obtain⟨x1,x2,x3,x4,ag⟩:=nw (sub s3).1;rw[ag] at af;have al:eR (n.1,(sub s3).1)=[.str n.1,x1,x2,x3,x4]:=by show bL.str n.1::(sub s3).1.row=_; rw[ag]
 generalize sub s3=r at *;have pr:bp [x1,x2,x3,x4]=[.p x1,.p x2,.p x3,.p x4]:=rfl;obtain⟨hD,U⟩:∃ hD,hD=((hC.own 25 1 (rO L s3)).own 25 1 (rO L r.2)):=⟨_,rfl⟩;rw[<- U] at A6;have d11:hD.get (.own 11 g)=some (.cells [.p (.str n.1),.p (.int .i64 0),.p (.str []),.p .bq,.p .bq] 0):=by
  rw[U,bm.bN _ 25 1 _ 11 g bu,bm.bN _ 25 1 _ 11 g bu,M];exact bm.cC _ 11 g _ bu cb
 have A7:=A6.yg 11 g (.cells [.p (.str n.1),.p x1,.p x2,.p x3,.p x4] 0) bu;have an:=λ{β:Type} {k:KO β} {d:Nat}=>Ut (k:=k) (d:=d) (by have:=J4.2; omega) [59] bu A7.a0
 have A8:=A7.put (t:=bH L r.2 [59]);obtain⟨hE,aa⟩:∃ hE,hE=(hD.own 11 g (.cells [.p (.str n.1),.p x1,.p x2,.p x3,.p x4] 0)).own 25 1 (rO L (bH L r.2 [59])):=⟨_,rfl⟩;rw[<- aa] at A8;have ae:hE.get (.own 11 g)=some (.cells [.p (.str n.1),.p x1,.p x2,.p x3,.p x4] 0):=by rw[aa,bm.bN _ 25 1 _ 11 g bu]; exact bm.cC _ 11 g _ bu cb
 have e1:=qTh A8 hl n.1 x1 x2 x3 x4 g ae (cu n.1 ns) 0 bn;obtain⟨h',A9,e2⟩:=qab A8 hl (n.1,r.1) x1 x2 x3 x4 g ae al;refine⟨h',A9,jD ?_ (e1.trans e2)⟩;have P5:∀ a b c d e:Cell,dm z5 0 [a,b,c,d,e]=[a,b,c,d,e]:=λ_ _ _ _ _=>rfl
 have P4:∀ a b c d e x y z w:Cell,dm [a,b,c,d,e] 1 [x,y,z,w]=[a,x,y,z,w]:=λ_ _ _ _ _ _ _ _ _=>rfl
 have BB:∀ {β:Type}{k:KO β}{h:bm},bQ Om (.build z5 [(0,1,.k (kS n.1))]) h 124 k=k (.v (.agg [.p (.str n.1),.p (.int .i64 0),.p (.str []),.p .bq,.p .bq])) h:=λ{β k h}=>rfl
 have z0:kI ((0:Nat):Int)=kI 0:=rfl;rw[z0,AN,yS];simp only[bW,rA,rC,rD,a0,he,q1,LN,ab];rw[TV,KK];simp only[bW,rA,rC,rD,ai,aj,BB,<- ad,<- hg,P5,<- M,ak,af,<- U,d11,pr,P4,an,<- aa,cB]
def qWd(ok:n7 0 L sub)(hL:L.length<=900){s:RS}(I:I1 L s):I1 L (jS sub L s).2/\s.p<=(jS sub L s).2.p:=by
 obtain⟨J1,p1⟩:=Oc I;obtain⟨M,p2⟩:=rX (x:=[40]) bu J1;have LP:∀ (f:Nat) (r:RS) (acc:List TT),I1 L r->I1 L (kc sub L f r acc).2/\r.p<=(kc sub L f r acc).2.p:=λf=>by
  induction f with
  |zero=>intro r acc I; exact⟨I,cB _⟩
  |succ f ih =>
   intro r acc I;unfold kc;split
   ·obtain⟨a,b⟩:=rX (x:=[44]) bu I;obtain⟨c,d⟩:=ok.inv _ a;obtain⟨e,g⟩:=ih _ (acc++[(sub (bH L r [44])).1]) c;exact⟨e,bn⟩
   ·exact⟨I,cB _⟩
 have A:I1 L (jx sub L (bH L (dN L s).2 [40])).2/\(bH L (dN L s).2 [40]).p<=(jx sub L (bH L (dN L s).2 [40])).2.p:=by
  unfold jx;split
  ·exact⟨M,cB _⟩
  ·obtain⟨c,d⟩:=ok.inv _ M;obtain⟨e,g⟩:=LP (L.length+2) _ [(sub (bH L (dN L s).2 [40])).1] c;exact⟨e,bn⟩
 obtain⟨A,p3⟩:=A;obtain⟨J4,p4⟩:=rX (x:=[41]) bu A;obtain⟨J5,p5⟩:=rX (x:=[45,62]) bu J4;obtain⟨J6,p6⟩:=ok.inv _ J5;obtain⟨J7,U⟩:=rX (x:=[59]) bu J6;have U:(sub (bH L (bH L (jx sub L (bH L (dN L s).2 [40])).2 [41]) [45,62])).2.p<=(jS sub L s).2.p:=U;exact⟨J7,bn⟩
def qT9(ok:n7 0 L sub){s:RS}(I:I1 L s):I1 L (ft sub L s).2/\s.p<=(ft sub L s).2.p:=by
 obtain⟨M,p1⟩:=Oc I;obtain⟨U,p2⟩:=rX (x:=[61]) bu M;obtain⟨J6,p6⟩:=ok.inv _ U;obtain⟨J7,A⟩:=rX (x:=[59]) bu J6;have A:(sub (bH L (dN L s).2 [61])).2.p<=(ft sub L s).2.p:=A;exact⟨J7,bn⟩
def Z6(ok:n7 0 L sub)(kp:∀ s:RS,s.e≠0->(sub s).2.e≠0)(M:L.length<=900){main:TT}:∀ (f:Nat) (s:RS) (ns:Es) (gs:Gs) (h:bm),PH h L s main ns gs->I1 L s->L.length+1 - s.p<f->ns.length+gs.length+(L.length+1 - s.p)<=L.length+1 ->
  ∃ h',PH h' L (jy sub L f s ns gs).2 main (jy sub L f s ns gs).1.1 (jy sub L f s ns gs).1.2/\ca tab.get S 17 0 1 [r2,qU,q7] h=ca tab.get S 17 0 7 [r2,qU,q7] h'
 |0,s,ns,gs,h,A,I,hf,hn=>bn
 |f+1,s,ns,gs,h,A,I,hf,hn=>by
  unfold jy;by_cases hc:s.e=0/\s.p<L.length
  ·rw[bF hc];obtain⟨he,hp⟩:=hc;cases hr:eS L s yh with
   |true =>
    rw[bF rfl];obtain⟨h1,U,e1⟩:=qXK ok M A bn he hp hr;obtain⟨I2,p2⟩:=qWd ok M (Oi hp);have p2:s.p+1<=(jS sub L (bJ s)).2.p:=p2;have I3:I1 L (Ha gs (jS sub L (bJ s)).1.nm (jS sub L (bJ s)).2):=I2;obtain⟨h2,A2,e2⟩:=Z6 ok kp M f _ _ _ h1 U I3 (by show L.length+1 - (jS sub L (bJ s)).2.p<f; omega) (by rw[qTM]; show ns.length+(gs.length+1)+(L.length+1 - (jS sub L (bJ s)).2.p)<=_; omega);exact⟨h2,A2,e1.trans e2⟩
   |false =>
    rw[bA bu];obtain⟨h1,U,e1⟩:=qX3 ok M A bn he hp hr;obtain⟨J1,q1⟩:=rX (x:=ja) bu I;obtain⟨I2,p2⟩:=qT9 ok J1;have I3:I1 L (lW ns (ft sub L (bH L s ja)).1.1 (ft sub L (bH L s ja)).2):=I2;by_cases ht:eS L s ja=true
    ·have hq:(bH L s ja).p=s.p+1:=by unfold bH; rw[bF ht]; rfl
     obtain⟨h2,A2,e2⟩:=Z6 ok kp M f _ _ _ h1 U I3 (by show L.length+1 - (ft sub L (bH L s ja)).2.p<f; omega) (by rw[qKb]; show ns.length+1+gs.length+(L.length+1 - (ft sub L (bH L s ja)).2.p)<=_; omega);exact⟨h2,A2,e1.trans e2⟩
    ·-- an error: ab loop ends
     have aa:bH L s ja=b9 s 12:=by unfold bH; rw[bA ht]
     have n0:(b9 s 12).e≠0:=λh=>CJ bu h
     have ne:(lW ns (ft sub L (bH L s ja)).1.1 (ft sub L (bH L s ja)).2).e≠0:=by
      show(ft sub L (bH L s ja)).2.e≠0;rw[aa];have r1:∀ (t:RS) (x:LB),t.e≠0->(bH L t x).e≠0:=λt x ht h=>ht (OC h)
      have r2:(dN L (b9 s 12)).2.e≠0:=by
       unfold dN;split
       ·exact n0
       ·exact λh=>CJ bu h
      exact r1 _ _ (kp _ (r1 _ _ r2))
     have hR:∀ (f:Nat),jy sub L f (lW ns (ft sub L (bH L s ja)).1.1 (ft sub L (bH L s ja)).2) (iX ns (ft sub L (bH L s ja)).1) gs=((iX ns (ft sub L (bH L s ja)).1,gs),lW ns (ft sub L (bH L s ja)).1.1 (ft sub L (bH L s ja)).2):=λf=>by
      cases f with
      |zero=>rfl
      |succ f=>unfold jy; rw[bA (λh=>ne h.1)]
     rw[hR];refine⟨h1,U,e1.trans ?_⟩;have a0:=U.a0;generalize lW ns (ft sub L (bH L s ja)).1.1 (ft sub L (bH L s ja)).2=t at *;rw[AN,yS];simp only[bW,a0,ne]
  ·rw[bA hc];refine⟨h,A,?_⟩;have a0:=A.a0;have LN:=λ{β:Type} {O:bD} {h:bm} {d:Nat} {k:KO β}=>wH (O:=O) (h:=h) (d:=d) (k:=k) L
   rw[AN,yS];by_cases he:s.e=0
   ·have q1:¬ (s.p:Int)<(L.length:Int):=by have:=λhp=>hc ⟨he,hp⟩; omega
    simp only[bW,a0,he,q1,LN]
   ·simp only[bW,a0,he]
def qWz{h:bm}{s:RS}{main:TT}{ns:Es}{gs:Gs}(A:PH h L s main ns gs) :
  ca tab.get S 17 0 7 [r2,qU,q7] h=some (.dq [.agg (bp (if (qy L s).e=0 then SC.mk main (jk ns) (jk gs) else SC.zero).row),.c (.p (.int .i64 (qy L s).e))],[]):=by
 have M:=λ{β:Type} {k:KO β} {d:Nat}=>v62 (k:=k) (d:=d) A.a0
 have U:=A.put (t:=qy L s);generalize h.own 25 1 (rO L (qy L s))=h1 at *;generalize qy L s=t at *;have a0:=U.a0;have a2:=U.a2;obtain⟨m1,m2,m3,m4,T,G,hm,a7,BT,BG⟩:=U.a7;have P6:∀ a b c d e f:Cell,dm mi 0 [a,b,c,d,e,f]=[a,b,c,d,e,f]:=λ_ _ _ _ _ _=>rfl
 by_cases he:t.e=0
 ·rw[bF he,he];have er:bp (SC.mk main (jk ns) (jk gs)).row=[.p m1,.p m2,.p m3,.p m4,.p (iq 5 (ns.map eR)),.p (iq 6 (gs.map cV))]:=by
   show bp (main.row++[dI 5 (λp=>eh p.1 p.2) (jk ns),dI 6 cV (jk gs)])=_;rw[hm,Sj,Sj]; rfl
  have fin:∀ h:bm,bS true 0 [.agg [.p m1,.p m2,.p m3,.p m4,T,G],.c (.p (.int .i64 0))] h=some (.dq [.agg (bp (SC.mk main (jk ns) (jk gs)).row),.c (.p (.int .i64 0))],[]):=λh=>by
   rw[ZF _ (by show([Cell.p m1,.p m2,.p m3,.p m4,T,G].all ru&&(ru (.p (.int .i64 0))&&true))=true; simp only[oI,sI,BT.pt,BG.pt]; rfl),er];show some (bt.dq [.agg [.p m1,.p m2,.p m3,.p m4,T.strip,G.strip],.c (.p (.int .i64 0))],_)=_;rw[BT.strip,BG.strip]
  rw[I8,Em];simp only[bW,rA,rC,M,he,a7,a2,P6,cB];exact fin _
 ·rw[bA he];have fin:∀ h:bm,bS true 0 [.agg mi,.c (.p (.int .i64 t.e))] h=some (.dq [.agg (bp SC.zero.row),.c (.p (.int .i64 t.e))],[]):=λh=>mz _ _ rfl
  have TB:∀ {β:Type}{O:bD}{h:bm}{d:Nat}{kt:KT β},br O (.build mi []) h d kt=kt (.v (.agg mi)) h cj:=tQ _ _ rfl;have TN:∀ {β:Type}{O:bD}{h:bm}{d:Nat}{kt:KT β},br O (.cO (.k qU)) h d kt=kt qU h cj:=tQ _ _ rfl;have T4:AI.Touch.apart ⟨[(Ref.own 25 1).site],[],false⟩ ⟨[(Ref.own 2 1).site],[(Ref.own 2 1).site],false⟩=true:=rfl;rw[I8,Em];simp only[bW,rA,rC,qI,M,he,a0,a2,TB,TN,P6,rY,T4,cB];exact fin _
end
def qRt(src:LB):Om 17 [kS src] []=some (.dq [.agg (bp (ug src).row),.c (.p (.int .i64 (nG src)))],[]):=by
 have hl:=Yk src;refine(gD rfl).trans ?_;show ca tab.get S 17 0 0 [kS src] h0=_;have Kg:IM 56 [kS src] (.dq [.c (.p (qY (bP src).1)),.c (.p (.int .i64 (bP src).2))]):=λ{β k h d} =>
  j6 56 [kS src] _ rfl (by rw[qOQ,qF1]) (by rfl)
 have z2:h0.gen 2=0:=rfl;have P6:∀ a b c d e f:Cell,dm mi 0 [a,b,c,d,e,f]=[a,b,c,d,e,f]:=λ_ _ _ _ _ _=>rfl
 by_cases M:(bP src).2=0
 ·have I0:I1 (bP src).1 ⟨0,0,false⟩:=⟨λ_=>eV _,eV _⟩;have ok:n7 0 (bP src).1 (mq (bP src).1 13 1):=⟨λs I=>qLd bn 13 1 bu bu bu s I,ZR _ 13 1⟩;have kp:∀ s:RS,s.e≠0->(mq (bP src).1 13 1 s).2.e≠0:=λs hs=>by
   have:mq (bP src).1 13 1 s=(eQ,s):=qF6 hs;rw[this]; exact hs
  have hE:nG src=(qy (bP src).1 (lR src).2).e:=by unfold nG; rw[bF M]
  have hM:ug src=if (qy (bP src).1 (lR src).2).e=0 then ⟨(mS src).1,jk (lR src).1.1,jk (lR src).1.2⟩ else SC.zero:=by unfold ug; rw[hE]
  have hG:lR src=jy (mq (bP src).1 13 1) (bP src).1 ((bP src).1.length+2) (bH (bP src).1 (mS src).2 [59]) [] []:=rfl;have hT:mS src=mq (bP src).1 13 1 (bH (bP src).1 ⟨0,0,false⟩ sA):=rfl;rw[hM,hE,hG];rw[M] at Kg;obtain⟨J1,_⟩:=rX (x:=sA) bu I0;obtain⟨J2,_⟩:=ok.inv _ J1;rw[<- hT] at J2;generalize (bP src).1=L at *;generalize ae:bH L ⟨0,0,false⟩ sA=s1 at *;obtain⟨J3,_⟩:=rX (x:=[59]) bu J2;obtain⟨hB,U⟩:∃ hB,hB=(h0.own 2 1 (.cells mi 0)).own 25 1 (rO L ⟨0,0,false⟩):=⟨_,rfl⟩;have b0:hB.get (.own 25 1)=some (rO L ⟨0,0,false⟩):=by rw[U]; exact bm.cC _ 25 1 _ bu cb
  have b2:hB.get (.own 2 1)=some (.cells mi 0):=by rw[U]; rfl
  have af:∀ {β:Type}{k:KO β}{d:Nat},bE Om (F_ 57) [qU,kS [100,97,116,97]] hB d k=k (.dq []) (hB.own 25 1 (rO L s1)):=λ{β k d}=>by
   rw[<- ae]; exact Ut (k:=k) (d:=d) (by show 0<=1000000; omega) sA bu b0
  have d0:(hB.own 25 1 (rO L s1)).get (.own 25 1)=some (rO L s1):=bm.cC _ 25 1 _ bu cb;have ab:=λ{β:Type} {k:KO β} {d:Nat}=>v58 (k:=k) (d:=d) ok J1 d0
  rw[<- hT] at ab;generalize mS src=t at *;obtain⟨m1,m2,m3,m4,hm⟩:=nw t.1;rw[hm] at ab;obtain⟨hC,aa⟩:∃ hC,hC=(hB.own 25 1 (rO L s1)).own 25 1 (rO L t.2):=⟨_,rfl⟩;have g7:hC.gen 7=0:=by rw[aa,U]; rfl
  have A:PH ((hC.own 7 1 (.cells mi 0)).own 7 1 (.cells [.p m1,.p m2,.p m3,.p m4,.p .bq,.p .bq] 0)) L t.2 t.1 [] []:=by
   refine⟨?_,?_,m1,m2,m3,m4,.p .bq,.p .bq,hm,bm.cC _ 7 1 _ bu cb,.inl ⟨rfl,rfl⟩,.inl ⟨rfl,rfl⟩⟩
   ·rw[bm.bN _ 7 1 _ 25 1 bu,bm.bN _ 7 1 _ 25 1 bu,aa];exact bm.cC _ 25 1 _ bu cb
   ·rw[bm.bN _ 7 1 _ 2 1 bu,bm.bN _ 7 1 _ 2 1 bu,aa,bm.bN _ 25 1 _ 2 1 bu,bm.bN _ 25 1 _ 2 1 bu];exact b2
  have A1:=A.put (t:=bH L t.2 [59]);have ag:=λ{β:Type} {k:KO β} {d:Nat}=>Ut (k:=k) (d:=d) (by have:=J2.2; omega) [59] bu A.a0
  obtain⟨hD,ad⟩:∃ hD,hD=((hC.own 7 1 (.cells mi 0)).own 7 1 (.cells [.p m1,.p m2,.p m3,.p m4,.p .bq,.p .bq] 0)).own 25 1 (rO L (bH L t.2 [59])):=⟨_,rfl⟩;rw[<- ad] at A1;obtain⟨h9,A9,e9⟩:=Z6 ok kp bn (L.length+2) _ [] [] hD A1 J3 bn (by show 0+0+_<=_; omega);refine jD ?_ (e9.trans (qWz A9));have BD:∀ {β:Type}{k:KO β}{h:bm},bQ Om (.build [.p .bq,.p (.int .i64 0),.p (.int .i64 0),.p (.bool false)] [(0,1,.k (.v (.c (.p (qY L)))))]) h 24 k=k (.v (.agg [.p (qY L),.p (.int .i64 0),.p (.int .i64 0),.p (.bool false)])) h:=λ{β k h}=>rfl
  have pr:bp [m1,m2,m3,m4]=[.p m1,.p m2,.p m3,.p m4]:=rfl;have BM:∀ {β:Type}{k:KO β}{h:bm},bQ Om (.build mi [(0,4,.k (.v (.agg [.p m1,.p m2,.p m3,.p m4])))]) h 30 k=k (.v (.agg [.p m1,.p m2,.p m3,.p m4,.p .bq,.p .bq])) h:=λ{β k h}=>rfl
  have P4:∀ a b c d:Cell,dm mi 0 [a,b,c,d]=[a,b,c,d,.p .bq,.p .bq]:=λ_ _ _ _=>rfl
  rw[Ja,Eo];have er:rO L ⟨0,0,false⟩ = .cells [.p (qY L),.p (.int .i64 0),.p (.int .i64 0),.p (.bool false)] 0:=rfl;rw[er] at U;have gB:(h0.own 2 1 (.cells mi 0)).gen 25=0:=rfl;simp only[bW,rA,rC,rD,z2,Kg,BD,gB,<- U,af,ab,<- aa,g7,pr,P4,P6,ag,<- ad,cB]
 ·have hE:nG src=(bP src).2:=by unfold nG; rw[bA M]
  have hM:ug src=SC.zero:=by unfold ug; rw[hE,bA M]
  rw[hM,hE];generalize (bP src).2=e at *;generalize (bP src).1=L at *;have BZ:∀ {β:Type}{k:KO β}{h:bm}{d:Nat},bQ Om (.build mi []) h d k=k (.v (.agg mi)) h:=λ{β k h d}=>rfl
  have fin:∀ h:bm,bS true 0 [.agg mi,.c (.p (.int .i64 e))] h=some (.dq [.agg (bp SC.zero.row),.c (.p (.int .i64 e))],[]):=λh=>mz _ _ rfl
  rw[Ja,Eo];simp only[bW,rA,rC,z2,Kg,M,BZ,P6,cB];exact fin _
end Go.Proofs.YtnlmlcfipbnpgaaGreatDoor.Ab
namespace Go.AI
section
variable {β:Type} {O:bD} {h:bm} {d:Nat} {kt:KT β}
def qK1(g:FuncId)(A M:bt):br O (.call (.k (.v (.c (.func g [])))) [.k A,.k M]) h d kt=dO (dE O g [A,M] d h) λx=>kt x.1 x.2.1 x.2.2:=by
 show dO (mB (.call (.k (.v (.c (.func g [])))) [.k A,.k M]) .nil) (λp=>dO (p.exec O d h) λx=>kt x.1 x.2.1 x.2.2)=_;rw[zt]; rfl
def qKX(g:FuncId)(A M U:bt):br O (.call (.k (.v (.c (.func g [])))) [.k A,.k M,.k U]) h d kt=dO (dE O g [A,M,U] d h) λx=>kt x.1 x.2.1 x.2.2:=by
 show dO (mB (.call (.k (.v (.c (.func g [])))) [.k A,.k M,.k U]) .nil) (λp=>dO (p.exec O d h) λx=>kt x.1 x.2.1 x.2.2)=_;rw[zt]; rfl
def qH8(g:FuncId)(ws A:List bt)(e:ws.map bt.strip=A.map bt.strip):dE O g ws d h=dE O g A d h:=by
 unfold dE; simp only[e]
def qSt{sz:Nat}{v:Cell}{rows:List (List bL)}(G:fh sz v rows)(g:FuncId)(a:bt):br O (.call (.k (.v (.c (.func g [])))) [.k (.v (.c v)),.k a]) h d kt=br O (.call (.k (.v (.c (.func g [])))) [.k (.v (.c (.p (iq sz rows)))),.k a]) h d kt:=by
 rw[qK1,qK1,qH8 g [.v (.c v),a] [.v (.c (.p (iq sz rows))),a]];show [bt.v (.c v.strip),_]=_;rw[G.strip]; rfl
def qSo{sz:Nat}{v:Cell}{rows:List (List bL)}(G:fh sz v rows)(g:FuncId)(a b:bt):br O (.call (.k (.v (.c (.func g [])))) [.k a,.k b,.k (.v (.c v))]) h d kt=br O (.call (.k (.v (.c (.func g [])))) [.k a,.k b,.k (.v (.c (.p (iq sz rows))))]) h d kt:=by
 rw[qKX,qKX,qH8 g [a,b,.v (.c v)] [a,b,.v (.c (.p (iq sz rows)))]];show [a.strip,b.strip,bt.v (.c v.strip)]=_;rw[G.strip]; rfl
end
end Go.AI
namespace Go.Proofs.YtnlmlcfipbnpgaaGreatDoor.Ab
open Go Go.AI
def u37{β:Type}{k:KO β}{h:bm}{d:Nat}{x:TT}(ok:pJ x):bE Om (F_ 37) [kA x.row] h d k=k (kS (cn x)) h:=j6 37 _ _ (by simp only[jr]) ok rfl
def y40{β:Type}{kt:KT β}{h:bm}{d:Nat}{c:Cell}(xs:List (LB))(B:fh 1 c (xs.map dg))(h1:(Lib.join xs eO).length<=100000000)(A:xs.length<=1000):br Om (.call (.k (F_ 40)) [.k (.v (.c c)),.k (kS [44,32])]) h d kt=kt (kS (Lib.join xs eO)) h cj :=
 (qSt B 40 _).trans (Hg 40 [.v (.c (.p (iq 1 (xs.map dg)))),kS [44,32]] _ rfl (qQJ xs eO bn bn) rfl)
abbrev W4(x:SC):bt:=.v (.c (.p (dI 5 eR x.ts)))
abbrev HA(x:SC):bt:=.v (.c (.p (dI 6 cV x.gs)))
structure TH (x:SC) (h:bm):Prop where
 a1:∃ m1 m2 m3 m4,x.main.row=[m1,m2,m3,m4]/\h.get (.own 1 1)=some (.cells [.p m1,.p m2,.p m3,.p m4,.p (dI 5 eR x.ts),.p (dI 6 cV x.gs)] 0)
def TH.yg{x:SC}{h:bm}(A:TH x h)(e g:Nat)(o:bG)(he:e≠1):TH x (h.own e g o):=by
 obtain⟨m1,m2,m3,m4,hm,a⟩:=A.a1;exact⟨m1,m2,m3,m4,hm,(bm.bN _ e g _ 1 1 he).trans a⟩
def vS{β:Type}{h:bm}{k:KO β}(a b:LB)(A:a.length+b.length<=4611686018427387904):bw .add 0 (kS a) (kS b) h k=k (kS (a++b)) h:=vA 0 a b A
def eR5(p:LB×TT):∃ a1 a2 a3 a4,eR p=[.str p.1,a1,a2,a3,a4]/\p.2.row=[a1,a2,a3,a4]:=by
 obtain⟨a1,a2,a3,a4,h⟩:=nw p.2;exact⟨a1,a2,a3,a4,by show bL.str p.1::p.2.row=_; rw[h],h⟩
def qTe(x:SC)(G:BR x):∀ (m i:Nat) (acc:LB) (h:bm),i+m=x.ts.len->acc.length<=300000000+1000000*i->TH x h ->
  ∃ h',TH x h'/\ca tab.get S 11 0 1 [q1,kS acc,W4 x,kI (x.ts.len:Int),kI (i:Int)] h=ca tab.get S 11 0 2 [q1,kS (acc++(x.ts.list.drop i).flatMap jK)] h'
 |0,i,acc,h,hi,ha,A=>by
  have q:¬ (i:Int)<(x.ts.len:Int):=bn
  refine⟨h,A,?_⟩;rw[tP (show x.ts.list.length<=i by show x.ts.len<=i; omega),jJ,fa,Jn,EE];simp only[bW,q]
 |m+1,i,acc,h,hi,ha,A=>by
  have aa:x.ts.len<=4:=G.lt;have q:(i:Int)<(x.ts.len:Int):=bn
  obtain⟨p,hp,dp,mp⟩:=o9 (l:=x.ts.list) (i:=i) (by show i<x.ts.len; omega);obtain⟨gn,gt⟩:=G.ts p mp;have nl:=DG gn;have tl:=gt.len;have ok:=gt.text;obtain⟨a1,a2,a3,a4,er,hr⟩:=eR5 p;have AT:∀ {β:Type}{h:bm}{k:KO β},bU 5 (W4 x) (kI (i:Int)) h k=k (.v (.c (.p (.dc [.str p.1,a1,a2,a3,a4] 0)))) h:=λ{β h k}=>by
   have t:(0:Int)<=((i:Nat):Int):=bn
   rw[<- er];simp only[bW,t,hp]
  have y:=λ{β:Type} {kt:KT β} {h:bm} {d:Nat}=>YT (kt:=kt) (h:=h) (d:=d) ok
  rw[hr] at y;rw[show kA [a1,a2,a3,a4]=bt.v (.agg [.p a1,.p a2,.p a3,.p a4]) from rfl] at y;obtain⟨g,hg⟩:∃ g,g=h.gen 5+1:=⟨_,rfl⟩;have A2:=(A.yg 5 g (.cells z5 0) bu).yg 5 g (.cells [.p (.str p.1),.p a1,.p a2,.p a3,.p a4] 0) bu;obtain⟨U,M⟩:∃ U,U=(h.own 5 g (.cells z5 0)).own 5 g (.cells [.p (.str p.1),.p a1,.p a2,.p a3,.p a4] 0):=⟨_,rfl⟩;rw[<- M] at A2;have b5:U.get (.own 5 g)=some (.cells [.p (.str p.1),.p a1,.p a2,.p a3,.p a4] 0):=by rw[M]; exact bm.cC _ 5 g _ bu cb
  have LD:∀ {β:Type}{h:bm}{k:KO β},bz true 5 (.v (.c (.p (.dc [.str p.1,a1,a2,a3,a4] 0)))) h k=k (.v (.agg [.p (.str p.1),.p a1,.p a2,.p a3,.p a4])) h:=λ{β h k}=>rfl
  have P5:∀ a b c d e:Cell,dm z5 0 [a,b,c,d,e]=[a,b,c,d,e]:=λ_ _ _ _ _=>rfl
  have pr:bp [.str p.1,a1,a2,a3,a4]=[.p (.str p.1),.p a1,.p a2,.p a3,.p a4]:=rfl;have l5:qq.length=5:=rfl;have l3:vC.length=3:=rfl;have l2:pq.length=2:=rfl;have V1:∀ {β:Type}{h:bm}{k:KO β},bw .add 0 (kS [116,121,112,101,32]) (kS p.1) h k=k (kS (qq++p.1)) h:=λ{β h k}=>vS qq p.1 bn
  have V2:∀ {β:Type}{h:bm}{k:KO β},bw .add 0 (kS (qq++p.1)) (kS [32,61,32]) h k=k (kS (qq++p.1++vC)) h:=λ{β h k}=>vS (qq++p.1) vC (by rw[bV]; omega)
  have V3:∀ {β:Type}{h:bm}{k:KO β},bw .add 0 (kS (qq++p.1++vC)) (kS (cn p.2)) h k=k (kS (qq++p.1++vC++cn p.2)) h:=λ{β h k}=>vS (qq++p.1++vC) (cn p.2) (by rw[bV,bV]; omega)
  have V4:∀ {β:Type}{h:bm}{k:KO β},bw .add 0 (kS (qq++p.1++vC++cn p.2)) (kS [59,10]) h k=k (kS (jK p)) h:=λ{β h k}=>vS (qq++p.1++vC++cn p.2) pq (by rw[bV,bV,bV]; omega)
  have ll:(jK p).length<=300000:=by unfold jK; simp only[bV]; omega
  have V5:∀ {β:Type}{h:bm}{k:KO β},bw .add 0 (kS acc) (kS (jK p)) h k=k (kS (acc++jK p)) h:=λ{β h k}=>vS acc (jK p) bn
  obtain⟨h9,A9,e9⟩:=qTe x G m (i+1) (acc++jK p) U bn (by rw[bV]; omega) A2;refine⟨h9,A9,jD ?_ (e9.trans (by rw[dp,eJ,eH]))⟩;have w:=yq i bn;rw[Jn,EE];simp only[bW,rA,rC,qI,q,AT,LD,<- hg,P5,<- M,V1,V2,V3,V4,V5,y,w,cB]
structure PX (x:SC) (g:Nat) (f:GS) (h:bm):Prop where
 t:TH x h
 a7:∃ c1 c2 c3 c4,f.rs.row=[c1,c2,c3,c4]/\h.get (.own 7 g)=some (.cells [.p (.str f.nm),.p (dI 4 TT.row f.pr),.p c1,.p c2,.p c3,.p c4] 0)
def PX.yg{x:SC}{g:Nat}{f:GS}{h:bm}(A:PX x g f h)(e M:Nat)(o:bG)(h1:e≠1)(U:e≠7):PX x g f (h.own e M o):=by
 obtain⟨c1,c2,c3,c4,hc,a⟩:=A.a7;exact⟨A.t.yg e M o h1,c1,c2,c3,c4,hc,(bm.bN _ e M _ 7 g U).trans a⟩
abbrev s7(g:Nat):bt:=.v (.c (.ptr (.own 7 g) 0))
def qPk(x:SC)(f:GS)(hf:∀ t∈f.pr.list,GT t)(h3:f.pr.list.length<=3)(g:Nat)(acc:LB)(i:Nat):∀ (m k:Nat) (c:Cell) (h:bm),k+m=f.pr.len->fh 1 c (((f.pr.list.take k).map cn).map dg)->AI.GS [53] 1 c (((f.pr.list.take k).map cn).map dg) h->PX x g f h ->
  ∃ c' h',fh 1 c' ((f.pr.list.map cn).map dg)/\PX x g f h'/\ca tab.get S 11 0 4 [kS acc,s7 g,.v (.c c),HA x,kI (x.gs.len:Int),kI (i:Int),.v (.c (.p (dI 4 TT.row f.pr))),kI (f.pr.len:Int),kI (k:Int)] h=ca tab.get S 11 0 5 [kS acc,s7 g,.v (.c c'),HA x,kI (x.gs.len:Int),kI (i:Int)] h'
 |0,k,c,h,hk,B,G,A=>by
  have q:¬ (k:Int)<(f.pr.len:Int):=bn
  have et:f.pr.list.take k=f.pr.list:=gz (by show f.pr.len<=k; omega);rw[et] at B;refine⟨c,h,B,A,?_⟩;rw[Jl,EC];simp only[bW,rA,rC,rD,q]
 |m+1,k,c,h,hk,B,G,A=>by
  have aa:f.pr.len<=3:=h3;have q:(k:Int)<(f.pr.len:Int):=bn
  obtain⟨t,ht,dt,mt⟩:=o9 (l:=f.pr.list) (i:=k) (by show k<f.pr.len; omega);have gt:=hf t mt;obtain⟨a1,a2,a3,a4,hr⟩:=nw t;have AT:∀ {β:Type}{h:bm}{j:KO β},bU 4 (.v (.c (.p (dI 4 TT.row f.pr)))) (kI (k:Int)) h j=j (.v (.c (.p (.dc [a1,a2,a3,a4] 0)))) h:=λ{β h j}=>by
   have t0:(0:Int)<=((k:Nat):Int):=bn
   rw[<- hr];simp only[bW,t0,ht]
  have U:=λ{β:Type} {k:KO β} {h:bm} {d:Nat}=>u37 (k:=k) (h:=h) (d:=d) gt.text
  rw[hr] at U;rw[show kA [a1,a2,a3,a4]=bt.v (.agg [.p a1,.p a2,.p a3,.p a4]) from rfl] at U;obtain⟨u,hu⟩:∃ u,u=h.gen 10+1:=⟨_,rfl⟩;obtain⟨hB,M⟩:∃ hB,hB=(h.own 10 u (.cells z4 0)).own 10 u (.cells [.p a1,.p a2,.p a3,.p a4] 0):=⟨_,rfl⟩;have A2:=(A.yg 10 u (.cells z4 0) bu bu).yg 10 u (.cells [.p a1,.p a2,.p a3,.p a4] 0) bu bu;have G2:AI.GS [53] 1 c (((f.pr.list.take k).map cn).map dg) hB:=by rw[M]; exact(G.own _ _ bu).own _ _ bu
  rw[<- M] at A2;have ab:hB.get (.own 10 u)=some (.cells [.p a1,.p a2,.p a3,.p a4] 0):=by rw[M]; exact bm.cC _ 10 u _ bu cb
  obtain⟨c',h',tt,G',e',T',K',I',X'⟩:=sS (h:=hB) (d:=53) (by':=16) (new:=[[.str (cn t)]]) (b:=.slice 1 true [[.str (cn t)]]) (.inr ⟨_,rfl⟩) G2 bu (λr hr=>by simp at hr; rw[hr]; rfl) cM bu;have es:((f.pr.list.take (k+1)).map cn).map dg=((f.pr.list.take k).map cn).map dg++[[.str (cn t)]]:=by
   rw[qM,ht]; simp[dg]
  obtain⟨rr,er⟩:=X' (.inl bR);have A3:PX x g f h':=by
   obtain⟨m1,m2,m3,m4,hm,b1⟩:=A2.t.a1;obtain⟨c1,c2,c3,c4,hc,b7⟩:=A2.a7;exact⟨⟨m1,m2,m3,m4,hm,K' 1 1 _ bu b1⟩,c1,c2,c3,c4,hc,K' 7 g _ bu b7⟩
  obtain⟨c9,h9,B9,A9,e9⟩:=qPk x f hf h3 g acc i m (k+1) c' h' bn (.inr ⟨by rw[es]; simp,rr,by rw[es]; exact er⟩) (by rw[es]; exact G') A3;refine⟨c9,h9,B9,A9,jD ?_ e9⟩;have AP:∀ {β:Type}{j:KO β},bQ Om (.append 1 16 false (.k (.v (.c c))) (.k (j7 1 true [[.str (cn t)]]))) hB 53 j=j (.v (.c c')) h':=λ{β j}=>by rw[Ch]; exact e' β Om λv h _=>j v h
  have BS:∀ {β:Type}{j:KO β}{h:bm},bQ Om (.cm 1 1 [.p (.str [])] [(0,.k (kS (cn t)))] false) h 52 j=j (j7 1 true [[.str (cn t)]]) h:=λ{β j h}=>qg _ _ rfl
  have LD:∀ {β:Type}{h:bm}{j:KO β},bz true 4 (.v (.c (.p (.dc [a1,a2,a3,a4] 0)))) h j=j (.v (.agg [.p a1,.p a2,.p a3,.p a4])) h:=λ{β h j}=>rfl
  have P4:∀ a b c d:Cell,dm z4 0 [a,b,c,d]=[a,b,c,d]:=λ_ _ _ _=>rfl
  have pr:bp [a1,a2,a3,a4]=[.p a1,.p a2,.p a3,.p a4]:=rfl;have w:=yq k bn;rw[Jl,EC];simp only[bW,rA,rC,q,AT,LD,<- hu,P4,<- M,U,BS,AP,w,cB]
def qTY(f:GS)(A:∀ t∈f.pr.list,GT t)(M:f.pr.list.length<=3):(Lib.join (f.pr.list.map cn) eO).length<=700000:=by
 have:=Z0 200000 (f.pr.list.map cn) (λy U=>by obtain⟨t,ht,rfl⟩:=fk.1 U; exact(A t ht).len);rw[dj] at this;have M:(Lib.join (f.pr.list.map cn) eO).length<=(Lib.joinTail eO (f.pr.list.map cn)).length:=by
  cases f.pr.list.map cn with
  |nil=>exact cB _
  |cons a l =>
   rw[Lib.join_cons];show(a++Lib.joinTail eO l).length<=(eO++a++Lib.joinTail eO l).length;simp
 omega
def qTo(x:SC)(G:BR x):∀ (m i:Nat) (acc:LB) (h:bm),i+m=x.gs.len->acc.length<=310000000+2000000*i->TH x h ->
  ca tab.get S 11 0 3 [kS acc,HA x,kI (x.gs.len:Int),kI (i:Int)] h=some (kS (acc++(x.gs.list.drop i).flatMap kE),[])
 |0,i,acc,h,hi,ha,A=>by
  have q:¬ (i:Int)<(x.gs.len:Int):=bn
  rw[tP (show x.gs.list.length<=i by show x.gs.len<=i; omega),jJ,fa,Jm,ED];simp only[bW,q]
 |m+1,i,acc,h,hi,ha,A=>by
  have ab:x.gs.len<=4:=G.lg;have q:(i:Int)<(x.gs.len:Int):=bn
  obtain⟨f,hf,df,mf⟩:=o9 (l:=x.gs.list) (i:=i) (by show i<x.gs.len; omega);obtain⟨gn,gp,gr⟩:=G.gs f mf;have p3:=G.lp f mf;have nl:=DG gn;have jl:=qTY f gp p3;have tl:=gr.len;obtain⟨a1,a2,a3,a4,hr⟩:=nw f.rs;have er:cV f=[.str f.nm,dI 4 TT.row f.pr,a1,a2,a3,a4]:=by unfold cV; rw[hr]
  have AT:∀ {β:Type}{h:bm}{k:KO β},bU 6 (HA x) (kI (i:Int)) h k=k (.v (.c (.p (.dc [.str f.nm,dI 4 TT.row f.pr,a1,a2,a3,a4] 0)))) h:=λ{β h k}=>by
   have t:(0:Int)<=((i:Nat):Int):=bn
   rw[<- er];simp only[bW,t,hf]
  have LD:∀ {β:Type}{h:bm}{k:KO β},bz true 6 (.v (.c (.p (.dc [.str f.nm,dI 4 TT.row f.pr,a1,a2,a3,a4] 0)))) h k=k (.v (.agg [.p (.str f.nm),.p (dI 4 TT.row f.pr),.p a1,.p a2,.p a3,.p a4])) h:=λ{β h k}=>rfl
  obtain⟨g,hg⟩:∃ g,g=h.gen 7+1:=⟨_,rfl⟩;have A2:=(A.yg 7 g (.cells vx 0) bu).yg 7 g (.cells [.p (.str f.nm),.p (dI 4 TT.row f.pr),.p a1,.p a2,.p a3,.p a4] 0) bu;obtain⟨U,M⟩:∃ U,U=(h.own 7 g (.cells vx 0)).own 7 g (.cells [.p (.str f.nm),.p (dI 4 TT.row f.pr),.p a1,.p a2,.p a3,.p a4] 0):=⟨_,rfl⟩;rw[<- M] at A2;have b7:U.get (.own 7 g)=some (.cells [.p (.str f.nm),.p (dI 4 TT.row f.pr),.p a1,.p a2,.p a3,.p a4] 0):=by rw[M]; exact bm.cC _ 7 g _ bu cb
  have P6:∀ a b c d e f:Cell,dm vx 0 [a,b,c,d,e,f]=[a,b,c,d,e,f]:=λ_ _ _ _ _ _=>rfl
  obtain⟨c,h2,B,A3,e2⟩:=qPk x f gp p3 g acc i f.pr.len 0 (.p .bq) U bn (.inl ⟨bR,rfl⟩) (.inl ⟨bR,rfl⟩) ⟨A2,a1,a2,a3,a4,hr,b7⟩;obtain⟨c1,c2,c3,c4,hc,aa⟩:=A3.a7;have ok:=gr.text;have y:=λ{β:Type} {kt:KT β} {h:bm} {d:Nat}=>YT (kt:=kt) (h:=h) (d:=d) ok
  rw[hc] at y;rw[show kA [c1,c2,c3,c4]=bt.v (.agg [.p c1,.p c2,.p c3,.p c4]) from rfl] at y;have J:=λ{β:Type} {kt:KT β} {h:bm} {d:Nat}=>y40 (kt:=kt) (h:=h) (d:=d) (f.pr.list.map cn) B bn (by rw[dj]; omega)
  generalize hj:Lib.join (f.pr.list.map cn) eO=jn at *;have l3:nQ.length=3:=rfl;have l1:qj.length=1:=rfl;have l5:vU.length=5:=rfl;have l2:pq.length=2:=rfl;have V1:∀ {β:Type}{h:bm}{k:KO β},bw .add 0 (kS [102,110,32]) (kS f.nm) h k=k (kS (nQ++f.nm)) h:=λ{β h k}=>vS nQ f.nm bn
  have V2:∀ {β:Type}{h:bm}{k:KO β},bw .add 0 (kS (nQ++f.nm)) (kS [40]) h k=k (kS (nQ++f.nm++qj)) h:=λ{β h k}=>vS (nQ++f.nm) qj (by rw[bV]; omega)
  have V3:∀ {β:Type}{h:bm}{k:KO β},bw .add 0 (kS (nQ++f.nm++qj)) (kS jn) h k=k (kS (nQ++f.nm++qj++jn)) h:=λ{β h k}=>vS (nQ++f.nm++qj) jn (by simp only[bV]; omega)
  have V4:∀ {β:Type}{h:bm}{k:KO β},bw .add 0 (kS (nQ++f.nm++qj++jn)) (kS [41,32,45,62,32]) h k=k (kS (nQ++f.nm++qj++jn++vU)) h:=λ{β h k}=>vS (nQ++f.nm++qj++jn) vU (by simp only[bV]; omega)
  have V5:∀ {β:Type}{h:bm}{k:KO β},bw .add 0 (kS (nQ++f.nm++qj++jn++vU)) (kS (cn f.rs)) h k=k (kS (nQ++f.nm++qj++jn++vU++cn f.rs)) h:=λ{β h k}=>vS (nQ++f.nm++qj++jn++vU) (cn f.rs) (by simp only[bV]; omega)
  have ef:kE f=nQ++f.nm++qj++jn++vU++cn f.rs++pq:=by unfold kE; rw[hj]
  have V6:∀ {β:Type}{h:bm}{k:KO β},bw .add 0 (kS (nQ++f.nm++qj++jn++vU++cn f.rs)) (kS [59,10]) h k=k (kS (kE f)) h:=λ{β h k}=>by rw[ef]; exact vS (nQ++f.nm++qj++jn++vU++cn f.rs) pq (by simp only[bV]; omega)
  have ll:(kE f).length<=1500000:=by rw[ef]; simp only[bV]; omega
  have V7:∀ {β:Type}{h:bm}{k:KO β},bw .add 0 (kS acc) (kS (kE f)) h k=k (kS (acc++kE f)) h:=λ{β h k}=>vS acc (kE f) bn
  have e9:=qTo x G m (i+1) (acc++kE f) h2 bn (by rw[bV]; omega) A3.t;rw[df,eJ,<- eH];refine jD ?_ e9;have w:=yq i bn;have z0:kI ((0:Nat):Int)=kI 0:=rfl;rw[z0] at e2;have st:ca tab.get S 11 0 3 [kS acc,HA x,kI (x.gs.len:Int),kI (i:Int)] h=ca tab.get S 11 0 4 [kS acc,s7 g,.v (.c (.p .bq)),HA x,kI (x.gs.len:Int),kI (i:Int),.v (.c (.p (dI 4 TT.row f.pr))),kI (f.pr.len:Int),kI 0] U:=by
   rw[Jm,ED];simp only[bW,rA,rC,q,AT,LD,<- hg,P6,<- M,cB]
  refine st.trans (e2.trans ?_);rw[Uj,Lc];simp only[bW,rA,qI,aa,V1,V2,V3,V4,V5,V6,V7,y,J];rw[Ui,Lb];simp only[bW,w]
def qVz(x:SC)(G:BR x):Om 11 [kA x.row] []=some (kS (yc x),[]):=by
 refine(gD rfl).trans ?_;show ca tab.get S 11 0 0 [kA x.row] h0=_;obtain⟨a1,a2,a3,a4,hr⟩:=nw x.main;have er:kA x.row = .v (.agg [.p a1,.p a2,.p a3,.p a4,.p (dI 5 eR x.ts),.p (dI 6 cV x.gs)]):=by
  show bt.v (.agg (bp (x.main.row++[dI 5 eR x.ts,dI 6 cV x.gs])))=_;rw[hr]; rfl
 rw[er];have U:=λ{β:Type} {k:KO β} {h:bm} {d:Nat}=>u37 (k:=k) (h:=h) (d:=d) G.main.text
 rw[hr] at U;rw[show kA [a1,a2,a3,a4]=bt.v (.agg [.p a1,.p a2,.p a3,.p a4]) from rfl] at U;have tl:=G.main.len;have l5:tV.length=5:=rfl;have l2:pq.length=2:=rfl;have V1:∀ {β:Type}{h:bm}{k:KO β},bw .add 0 (kS [100,97,116,97,32]) (kS (cn x.main)) h k=k (kS (tV++cn x.main)) h:=λ{β h k}=>vS tV (cn x.main) bn
 have V2:∀ {β:Type}{h:bm}{k:KO β},bw .add 0 (kS (tV++cn x.main)) (kS [59,10]) h k=k (kS (tV++cn x.main++pq)) h:=λ{β h k}=>vS (tV++cn x.main) pq (by rw[bV]; omega)
 obtain⟨A,M⟩:∃ A,A=h0.own 1 1 (.cells [.p a1,.p a2,.p a3,.p a4,.p (dI 5 eR x.ts),.p (dI 6 cV x.gs)] 0):=⟨_,rfl⟩;have b1:A.get (.own 1 1)=some (.cells [.p a1,.p a2,.p a3,.p a4,.p (dI 5 eR x.ts),.p (dI 6 cV x.gs)] 0):=by rw[M]; rfl
 have g1:h0.gen 1=0:=rfl;obtain⟨h2,A2,e2⟩:=qTe x G x.ts.len 0 (tV++cn x.main++pq) A bn (by simp only[bV]; omega) ⟨a1,a2,a3,a4,hr,b1⟩;obtain⟨m1,m2,m3,m4,hm,b2⟩:=A2.a1;rw[eI] at e2;have aa:(x.ts.list.flatMap jK).length<=1000000*x.ts.list.length:=U7 jK 1000000 _ λp hp=>by
  have gp:=G.ts p hp;have n1:=DG gp.1;have n2:=gp.2.len;have l5:qq.length=5:=rfl;have l3:vC.length=3:=rfl;unfold jK; simp only[bV]; omega
 have ab:=G.lt;have e3:=qTo x G x.gs.len 0 (tV++cn x.main++pq++x.ts.list.flatMap jK) h2 bn (by simp only[bV]; omega) A2;rw[eI] at e3;have z0:kI ((0:Nat):Int)=kI 0:=rfl;rw[z0] at e2 e3;have st:ca tab.get S 11 0 0 [.v (.agg [.p a1,.p a2,.p a3,.p a4,.p (dI 5 eR x.ts),.p (dI 6 cV x.gs)])] h0=ca tab.get S 11 0 1 [q1,kS (tV++cn x.main++pq),W4 x,kI (x.ts.len:Int),kI 0] A:=by
  rw[Ul,Le];simp only[bW,rA,g1,<- M,b1,U,V1,V2]
 refine st.trans (e2.trans ?_);rw[Uk,Ld];simp only[bW,b2];exact e3
def qTi(x:SC)(G:BR x)(h:bm)(A:TH x h):∀ (m i:Nat) (acc:LB),i+m=x.ts.len->acc.length<=300000000+1000000*i ->
  ca tab.get S 12 0 1 [q1,kS acc,kI (i:Int)] h=ca tab.get S 12 0 2 [q1,kS (acc++(x.ts.list.drop i).flatMap jK)] h
 |0,i,acc,hi,M=>by
  have q:¬ (i:Int)<(x.ts.len:Int):=bn
  obtain⟨m1,m2,m3,m4,hm,a1⟩:=A.a1;rw[tP (show x.ts.list.length<=i by show x.ts.len<=i; omega),jJ,fa,Jk,EA];simp only[bW,rA,rD,a1,q]
 |m+1,i,acc,hi,M=>by
  have U:x.ts.len<=4:=G.lt;obtain⟨m1,m2,m3,m4,hm,a1⟩:=A.a1;have q:(i:Int)<(x.ts.len:Int):=bn
  obtain⟨p,hp,dp,mp⟩:=o9 (l:=x.ts.list) (i:=i) (by show i<x.ts.len; omega);obtain⟨gn,gt⟩:=G.ts p mp;have nl:=DG gn;have tl:=gt.len;obtain⟨c1,c2,c3,c4,er,hr⟩:=eR5 p;have AT:∀ {β:Type}{h:bm}{k:KO β},bU 5 (W4 x) (kI (i:Int)) h k=k (.v (.c (.p (.dc [.str p.1,c1,c2,c3,c4] 0)))) h:=λ{β h k}=>by
   have t:(0:Int)<=((i:Nat):Int):=bn
   rw[<- er];simp only[bW,t,hp]
  have y:=λ{β:Type} {kt:KT β} {h:bm} {d:Nat}=>y18 (kt:=kt) (h:=h) (d:=d) gt.AQ
  rw[hr] at y;rw[show kA [c1,c2,c3,c4]=bt.v (.agg [.p c1,.p c2,.p c3,.p c4]) from rfl] at y;have LT:∀ {β:Type}{O:bD}{h:bm}{d:Nat}{kt:KT β},br O (.load true 4 (.k (.v (.c (.p (.dc [.str p.1,c1,c2,c3,c4] 1)))))) h d kt=kt (.v (.agg [.p c1,.p c2,.p c3,.p c4])) h cj:=λ{β O h d kt}=>tQ _ _ rfl
  have LN:∀ {β:Type}{O:bD}{h:bm}{d:Nat}{kt:KT β},br O (.load false 1 (.k (.v (.c (.p (.dc [.str p.1,c1,c2,c3,c4] 0)))))) h d kt=kt (kS p.1) h cj:=λ{β O h d kt}=>tQ _ _ rfl
  have l5:qq.length=5:=rfl;have l3:vC.length=3:=rfl;have l2:pq.length=2:=rfl;have V1:∀ {β:Type}{h:bm}{k:KO β},bw .add 0 (kS acc) (kS [116,121,112,101,32]) h k=k (kS (acc++qq)) h:=λ{β h k}=>vS acc qq bn
  have V2:∀ {β:Type}{h:bm}{k:KO β},bw .add 0 (kS (acc++qq)) (kS p.1) h k=k (kS (acc++qq++p.1)) h:=λ{β h k}=>vS (acc++qq) p.1 (by rw[bV]; omega)
  have V3:∀ {β:Type}{h:bm}{k:KO β},bw .add 0 (kS (acc++qq++p.1)) (kS [32,61,32]) h k=k (kS (acc++qq++p.1++vC)) h:=λ{β h k}=>vS (acc++qq++p.1) vC (by simp only[bV]; omega)
  have V4:∀ {β:Type}{h:bm}{k:KO β},bw .add 0 (kS (acc++qq++p.1++vC)) (kS (cn p.2)) h k=k (kS (acc++qq++p.1++vC++cn p.2)) h:=λ{β h k}=>vS (acc++qq++p.1++vC) (cn p.2) (by simp only[bV]; omega)
  have ea:acc++qq++p.1++vC++cn p.2++pq=acc++jK p:=by unfold jK; simp only[eH]
  have V5:∀ {β:Type}{h:bm}{k:KO β},bw .add 0 (kS (acc++qq++p.1++vC++cn p.2)) (kS [59,10]) h k=k (kS (acc++jK p)) h:=λ{β h k}=>by rw[<- ea]; exact vS (acc++qq++p.1++vC++cn p.2) pq (by simp only[bV]; omega)
  have ll:(jK p).length<=300000:=by unfold jK; simp only[bV]; omega
  have e9:=qTi x G h A m (i+1) (acc++jK p) bn (by rw[bV]; omega);rw[dp,eJ,<- eH];refine jD ?_ e9;have w:=yq i bn;rw[Jk,EA];simp only[bW,qI,D1,a1,q,AT,LT,LN,V1,V2,V3,V4,V5,y,w]
def ZB(x:SC)(f:GS)(i:Nat)(hi:x.gs.list[i]?=some f)(hf:∀ t∈f.pr.list,GT t)(h3:f.pr.list.length<=3)(h:bm)(A:TH x h):∀ (m k:Nat) (acc:LB),k+m=f.pr.len->acc.length<=400000000+1000000*k ->
  ca tab.get S 12 0 4 [q1,kS acc,kI (i:Int),kI (k:Int)] h=ca tab.get S 12 0 6 [q1,kS (acc++jn k ((f.pr.list.drop k).map cn)),kI (i:Int)] h
 |0,k,acc,hk,ha=>by
  have q:¬ (k:Int)<(f.pr.len:Int):=bn
  obtain⟨m1,m2,m3,m4,hm,a1⟩:=A.a1;obtain⟨c1,c2,c3,c4,hr⟩:=nw f.rs;have er:cV f=[.str f.nm,dI 4 TT.row f.pr,c1,c2,c3,c4]:=by unfold cV; rw[hr]
  have M:∀ {β:Type}{h:bm}{k:KO β},bU 6 (HA x) (kI (i:Int)) h k=k (.v (.c (.p (.dc [.str f.nm,dI 4 TT.row f.pr,c1,c2,c3,c4] 0)))) h:=λ{β h k}=>by
   have t:(0:Int)<=((i:Nat):Int):=bn
   rw[<- er];simp only[bW,t,hi]
  have LP:∀ {β:Type}{h:bm}{k:KO β},bz false 1 (.v (.c (.p (.dc [.str f.nm,dI 4 TT.row f.pr,c1,c2,c3,c4] 1)))) h k=k (.v (.c (.p (dI 4 TT.row f.pr)))) h:=λ{β h k}=>rfl
  rw[tP (show f.pr.list.length<=k by show f.pr.len<=k; omega),kL,qPI,fa,Di,BI];simp only[bW,rA,rD,a1,M,LP,q]
 |m+1,k,acc,hk,ha=>by
  have ab:f.pr.len<=3:=h3;have q:(k:Int)<(f.pr.len:Int):=bn
  obtain⟨m1,m2,m3,m4,hm,a1⟩:=A.a1;obtain⟨c1,c2,c3,c4,hr⟩:=nw f.rs;have er:cV f=[.str f.nm,dI 4 TT.row f.pr,c1,c2,c3,c4]:=by unfold cV; rw[hr]
  have M:∀ {β:Type}{h:bm}{k:KO β},bU 6 (HA x) (kI (i:Int)) h k=k (.v (.c (.p (.dc [.str f.nm,dI 4 TT.row f.pr,c1,c2,c3,c4] 0)))) h:=λ{β h k}=>by
   have t:(0:Int)<=((i:Nat):Int):=bn
   rw[<- er];simp only[bW,t,hi]
  have LP:∀ {β:Type}{h:bm}{k:KO β},bz false 1 (.v (.c (.p (.dc [.str f.nm,dI 4 TT.row f.pr,c1,c2,c3,c4] 1)))) h k=k (.v (.c (.p (dI 4 TT.row f.pr)))) h:=λ{β h k}=>rfl
  obtain⟨t,ht,dt,mt⟩:=o9 (l:=f.pr.list) (i:=k) (by show k<f.pr.len; omega);have gt:=hf t mt;have tl:=gt.len;obtain⟨d1,d2,d3,d4,hd⟩:=nw t;have BT:∀ {β:Type}{h:bm}{j:KO β},bU 4 (.v (.c (.p (dI 4 TT.row f.pr)))) (kI (k:Int)) h j=j (.v (.c (.p (.dc [d1,d2,d3,d4] 0)))) h:=λ{β h j}=>by
   have t0:(0:Int)<=((k:Nat):Int):=bn
   rw[<- hd];simp only[bW,t0,ht]
  have LD:∀ {β:Type}{h:bm}{j:KO β},bz true 4 (.v (.c (.p (.dc [d1,d2,d3,d4] 0)))) h j=j (.v (.agg [.p d1,.p d2,.p d3,.p d4])) h:=λ{β h j}=>rfl
  have U:=λ{β:Type} {k:KO β} {h:bm} {d:Nat}=>WZ (k:=k) (h:=h) (d:=d) gt.AQ
  rw[hd] at U;rw[show kA [d1,d2,d3,d4]=bt.v (.agg [.p d1,.p d2,.p d3,.p d4]) from rfl] at U;have w:=yq k bn;rw[dt,dr,qMd];have l2:eO.length=2:=rfl;by_cases k0:k=0
  ·subst k0;have e9:=ZB x f i hi hf h3 h A m 1 (acc++cn t) bn (by rw[bV]; omega);have V2:∀ {β:Type}{h:bm}{k:KO β},bw .add 0 (kS acc) (kS (cn t)) h k=k (kS (acc++cn t)) h:=λ{β h k}=>vS acc (cn t) bn
   have z0:kI ((0:Nat):Int)=kI 0:=rfl;have aa:((0:Nat):Int)=0:=rfl;rw[bF rfl,kK,<- eH];refine jD ?_ e9;rw[aa] at q BT w;rw[z0,Di,BI];simp only[bW,rA,rD,rF,a1,M,LP,q];rw[Ji,Ey];simp only[bW,a1,M,LP,BT,LD,U,V2,w]
  ·have e9:=ZB x f i hi hf h3 h A m (k+1) (acc++eO++cn t) bn (by simp only[bV]; omega);have V1:∀ {β:Type}{h:bm}{k:KO β},bw .add 0 (kS acc) (kS [44,32]) h k=k (kS (acc++eO)) h:=λ{β h k}=>vS acc eO bn
   have V2:∀ {β:Type}{h:bm}{k:KO β},bw .add 0 (kS (acc++eO)) (kS (cn t)) h k=k (kS (acc++eO++cn t)) h:=λ{β h k}=>vS (acc++eO) (cn t) (by rw[bV]; omega)
   have q0:(0:Int)<(k:Int):=bn
   rw[bA k0,<- eH,<- eH];refine jD ?_ e9;rw[Di,BI];simp only[bW,a1,M,LP,q,q0,V1];rw[Ji,Ey];simp only[bW,a1,M,LP,BT,LD,U,V2,w]
def jn0(l:List (LB)):jn 0 l=Lib.join l eO:=rfl
def qTf(x:SC)(G:BR x)(h:bm)(A:TH x h):∀ (m i:Nat) (acc:LB),i+m=x.gs.len->acc.length<=310000000+2000000*i ->
  ca tab.get S 12 0 3 [q1,kS acc,kI (i:Int)] h=some (kS (acc++(x.gs.list.drop i).flatMap kE),[])
 |0,i,acc,hi,ha=>by
  have q:¬ (i:Int)<(x.gs.len:Int):=bn
  obtain⟨m1,m2,m3,m4,hm,a1⟩:=A.a1;rw[tP (show x.gs.list.length<=i by show x.gs.len<=i; omega),jJ,fa,Jj,Ez];simp only[bW,rA,rD,a1,q]
 |m+1,i,acc,hi,ha=>by
  have aa:x.gs.len<=4:=G.lg;have q:(i:Int)<(x.gs.len:Int):=bn
  obtain⟨m1,m2,m3,m4,hm,a1⟩:=A.a1;obtain⟨f,hf,df,mf⟩:=o9 (l:=x.gs.list) (i:=i) (by show i<x.gs.len; omega);obtain⟨gn,gp,gr⟩:=G.gs f mf;have p3:=G.lp f mf;have nl:=DG gn;have jl:=qTY f gp p3;have tl:=gr.len;obtain⟨c1,c2,c3,c4,hr⟩:=nw f.rs;have er:cV f=[.str f.nm,dI 4 TT.row f.pr,c1,c2,c3,c4]:=by unfold cV; rw[hr]
  have AT:∀ {β:Type}{h:bm}{k:KO β},bU 6 (HA x) (kI (i:Int)) h k=k (.v (.c (.p (.dc [.str f.nm,dI 4 TT.row f.pr,c1,c2,c3,c4] 0)))) h:=λ{β h k}=>by
   have t:(0:Int)<=((i:Nat):Int):=bn
   rw[<- er];simp only[bW,t,hf]
  have LN:∀ {β:Type}{h:bm}{k:KO β},bz false 1 (.v (.c (.p (.dc [.str f.nm,dI 4 TT.row f.pr,c1,c2,c3,c4] 0)))) h k=k (kS f.nm) h:=λ{β h k}=>rfl
  have LR:∀ {β:Type}{h:bm}{k:KO β},bz true 4 (.v (.c (.p (.dc [.str f.nm,dI 4 TT.row f.pr,c1,c2,c3,c4] 2)))) h k=k (.v (.agg [.p c1,.p c2,.p c3,.p c4])) h:=λ{β h k}=>rfl
  have U:=λ{β:Type} {k:KO β} {h:bm} {d:Nat}=>WZ (k:=k) (h:=h) (d:=d) gr.AQ
  rw[hr] at U;rw[show kA [c1,c2,c3,c4]=bt.v (.agg [.p c1,.p c2,.p c3,.p c4]) from rfl] at U;have l3:nQ.length=3:=rfl;have l1:qj.length=1:=rfl;have l5:vU.length=5:=rfl;have l2:pq.length=2:=rfl;have V1:∀ {β:Type}{h:bm}{k:KO β},bw .add 0 (kS acc) (kS [102,110,32]) h k=k (kS (acc++nQ)) h:=λ{β h k}=>vS acc nQ bn
  have V2:∀ {β:Type}{h:bm}{k:KO β},bw .add 0 (kS (acc++nQ)) (kS f.nm) h k=k (kS (acc++nQ++f.nm)) h:=λ{β h k}=>vS (acc++nQ) f.nm (by rw[bV]; omega)
  have V3:∀ {β:Type}{h:bm}{k:KO β},bw .add 0 (kS (acc++nQ++f.nm)) (kS [40]) h k=k (kS (acc++nQ++f.nm++qj)) h:=λ{β h k}=>vS (acc++nQ++f.nm) qj (by simp only[bV]; omega)
  have e2:=ZB x f i hf gp p3 h A f.pr.len 0 (acc++nQ++f.nm++qj) bn (by simp only[bV]; omega);rw[eI,jn0] at e2;generalize hj:Lib.join (f.pr.list.map cn) eO=M at *;have V4:∀ {β:Type}{h:bm}{k:KO β},bw .add 0 (kS (acc++nQ++f.nm++qj++M)) (kS [41,32,45,62,32]) h k=k (kS (acc++nQ++f.nm++qj++M++vU)) h:=λ{β h k}=>vS (acc++nQ++f.nm++qj++M) vU (by simp only[bV]; omega)
  have V5:∀ {β:Type}{h:bm}{k:KO β},bw .add 0 (kS (acc++nQ++f.nm++qj++M++vU)) (kS (cn f.rs)) h k=k (kS (acc++nQ++f.nm++qj++M++vU++cn f.rs)) h:=λ{β h k}=>vS (acc++nQ++f.nm++qj++M++vU) (cn f.rs) (by simp only[bV]; omega)
  have ea:acc++nQ++f.nm++qj++M++vU++cn f.rs++pq=acc++kE f:=by unfold kE; rw[hj]; simp only[eH]
  have V6:∀ {β:Type}{h:bm}{k:KO β},bw .add 0 (kS (acc++nQ++f.nm++qj++M++vU++cn f.rs)) (kS [59,10]) h k=k (kS (acc++kE f)) h:=λ{β h k}=>by rw[<- ea]; exact vS (acc++nQ++f.nm++qj++M++vU++cn f.rs) pq (by simp only[bV]; omega)
  have ll:(kE f).length<=1500000:=by unfold kE; rw[hj]; simp only[bV]; omega
  have e9:=qTf x G h A m (i+1) (acc++kE f) bn (by rw[bV]; omega);rw[df,eJ,<- eH];refine jD ?_ e9;have w:=yq i bn;have z0:kI ((0:Nat):Int)=kI 0:=rfl;rw[z0] at e2;have st:ca tab.get S 12 0 3 [q1,kS acc,kI (i:Int)] h=ca tab.get S 12 0 4 [q1,kS (acc++nQ++f.nm++qj),kI (i:Int),kI 0] h:=by
   rw[Jj,Ez];simp only[bW,a1,q,AT,LN,V1,V2,V3]
  refine st.trans (e2.trans ?_);rw[Uf,KZ];simp only[bW,a1,AT,LR,U,V4,V5,V6];rw[Ue,KY];simp only[bW,w]
def qUO(x:SC)(G:BR x):Om 12 [kA x.row] []=some (kS (yc x),[]):=by
 refine(gD rfl).trans ?_;show ca tab.get S 12 0 0 [kA x.row] h0=_;obtain⟨a1,a2,a3,a4,hr⟩:=nw x.main;have er:kA x.row = .v (.agg [.p a1,.p a2,.p a3,.p a4,.p (dI 5 eR x.ts),.p (dI 6 cV x.gs)]):=by
  show bt.v (.agg (bp (x.main.row++[dI 5 eR x.ts,dI 6 cV x.gs])))=_;rw[hr]; rfl
 rw[er];have U:=λ{β:Type} {k:KO β} {h:bm} {d:Nat}=>WZ (k:=k) (h:=h) (d:=d) G.main.AQ
 rw[hr] at U;rw[show kA [a1,a2,a3,a4]=bt.v (.agg [.p a1,.p a2,.p a3,.p a4]) from rfl] at U;have tl:=G.main.len;have l5:tV.length=5:=rfl;have l2:pq.length=2:=rfl;have V1:∀ {β:Type}{h:bm}{k:KO β},bw .add 0 (kS [100,97,116,97,32]) (kS (cn x.main)) h k=k (kS (tV++cn x.main)) h:=λ{β h k}=>vS tV (cn x.main) bn
 have V2:∀ {β:Type}{h:bm}{k:KO β},bw .add 0 (kS (tV++cn x.main)) (kS [59,10]) h k=k (kS (tV++cn x.main++pq)) h:=λ{β h k}=>vS (tV++cn x.main) pq (by rw[bV]; omega)
 obtain⟨M,aa⟩:∃ M,M=h0.own 1 1 (.cells [.p a1,.p a2,.p a3,.p a4,.p (dI 5 eR x.ts),.p (dI 6 cV x.gs)] 0):=⟨_,rfl⟩;have b1:M.get (.own 1 1)=some (.cells [.p a1,.p a2,.p a3,.p a4,.p (dI 5 eR x.ts),.p (dI 6 cV x.gs)] 0):=by rw[aa]; rfl
 have g1:h0.gen 1=0:=rfl;have A:TH x M:=⟨a1,a2,a3,a4,hr,b1⟩;have e2:=qTi x G M A x.ts.len 0 (tV++cn x.main++pq) bn (by simp only[bV]; omega);rw[eI] at e2;have ab:(x.ts.list.flatMap jK).length<=1000000*x.ts.list.length:=U7 jK 1000000 _ λp hp=>by
  have gp:=G.ts p hp;have n1:=DG gp.1;have n2:=gp.2.len;have l5:qq.length=5:=rfl;have l3:vC.length=3:=rfl;unfold jK; simp only[bV]; omega
 have ad:=G.lt;have e3:=qTf x G M A x.gs.len 0 (tV++cn x.main++pq++x.ts.list.flatMap jK) bn (by simp only[bV]; omega);rw[eI] at e3;have z0:kI ((0:Nat):Int)=kI 0:=rfl;rw[z0] at e2 e3;have st:ca tab.get S 12 0 0 [.v (.agg [.p a1,.p a2,.p a3,.p a4,.p (dI 5 eR x.ts),.p (dI 6 cV x.gs)])] h0=ca tab.get S 12 0 1 [q1,kS (tV++cn x.main++pq),kI 0] M:=by
  rw[Uh,La];simp only[bW,rA,g1,<- aa,b1,U,V1,V2]
 refine st.trans (e2.trans ?_);rw[Ug,K9];exact e3
def zA:List (LB):=[[65],[66,101,101],[67,97,116],[68,111,103]]
def kP:List (LB):=[[102,97],[102,98],[102,99],[102,100]]
def jT(ts:List RW):List (LB):=zA.take (min ts.length 4)
def CD(ns:List (LB))(p:LB×RW):LB×TT:=(p.1,fZ ns 5 p.2)
def wj(ns:List (LB))(p:LB×RW):GS:=⟨p.1,jk ((p.2.kids.list.take 3).map (fZ ns 4)),fZ ns 4 p.2⟩
def zj(main:RW)(ts gs:List RW):SC:=⟨fZ (jT ts) 6 main,jk (((jT ts).zip ts).map (CD (jT ts))),jk ((kP.zip gs).map (wj (jT ts)))⟩
abbrev r6:bt:=.v (.c (.ptr (.own 6 1) 0))
structure SH (h:bm) (main:RW) (cs:List Cell):Prop where
 a3:h.get (.own 3 1)=some (.cells (bp main.row) 0)
 a6:h.get (.own 6 1)=some (.cells mi 0)
 a7:h.get (.own 7 1)=some (.cells cs 0)
def qTm(main:RW)(ts gs:Sl RW):∀ (m i:Nat) (v:Cell) (h:bm),i+m=min ts.len 4->fh 1 v ((zA.take i).map dg)->AI.GS [30] 1 v ((zA.take i).map dg) h->SH h main mi ->
  ∃ U h',fh 1 U ((jT ts.list).map dg)/\SH h' main mi/\ca tab.get S 10 0 1 [mw ts,mw gs,t3,r6,q7,.v (.c v),kI (i:Int)] h=ca tab.get S 10 0 2 [mw ts,mw gs,t3,r6,q7,.v (.c U)] h'
 |0,i,v,h,hi,B,G,A=>by
  have e:jT ts.list=zA.take i:=by unfold jT; rw[show ts.list.length=ts.len from rfl,<- hi]; rfl
  refine⟨v,h,by rw[e]; exact B,A,?_⟩;rw[Jr,ES];by_cases h1:(i:Int)<(ts.len:Int)
  ·have q:¬ (i:Int)<4:=bn
   simp only[bW,h1,q]
  ·simp only[bW,h1]
 |m+1,i,v,h,hi,B,G,A=>by
  have h1:(i:Int)<(ts.len:Int):=bn
  have q:(i:Int)<4:=bn
  obtain⟨n,hn,dn,mn⟩:=o9 (l:=zA) (i:=i) (by show i<4; omega);have WB:∀ (β:Type) (h:bm) (k:KO β),bQ Om (.cm 1 4 [.p (.str [])] [(0,.k (kS [65])),(1,.k (kS [66,101,101])),(2,.k (kS [67,97,116])),(3,.k (kS [68,111,103]))] false) h 25 k=k (j7 1 true (zA.map dg)) h:=λβ h k=>qg _ _ rfl
  have WA:∀ (β:Type) (h:bm) (k:KO β),bU 1 (j7 1 true (zA.map dg)) (kI (i:Int)) h k=k (.v (.c (.p (.dc (dg n) 0)))) h:=λβ h k=>by
   have:(zA.map dg)[i]?=some (dg n):=by rw[dP,hn]; rfl
   exact Vh (h:=h) (k:=k) 1 true (zA.map dg) i _ this
  obtain⟨c',h',tt,G',e',T',M,I',X'⟩:=sS (h:=h) (d:=30) (by':=16) (new:=[[.str n]]) (b:=.slice 1 true [[.str n]]) (.inr ⟨_,rfl⟩) G bu (λr hr=>by simp at hr; rw[hr]; rfl) cM bu;obtain⟨rr,er⟩:=X' (.inl bR);have es:(zA.take (i+1)).map dg=(zA.take i).map dg++[[.str n]]:=by rw[qM,hn]; simp[dg]
  obtain⟨v9,h9,B9,A9,e9⟩:=qTm main ts gs m (i+1) c' h' bn (.inr ⟨by rw[es]; simp,rr,by rw[es]; exact er⟩) (by rw[es]; exact G') ⟨M 3 1 _ bu A.a3,M 6 1 _ bu A.a6,M 7 1 _ bu A.a7⟩;refine⟨v9,h9,B9,A9,jD ?_ e9⟩;have AP:∀ {β:Type}{j:KO β},bQ Om (.append 1 16 false (.k (.v (.c v))) (.k (j7 1 true [[.str n]]))) h 30 j=j (.v (.c c')) h':=λ{β j}=>by rw[Ch]; exact e' β Om λv h _=>j v h
  have BS:∀ {β:Type}{j:KO β}{h:bm},bQ Om (.cm 1 1 [.p (.str [])] [(0,.k (kS n))] false) h 29 j=j (j7 1 true [[.str n]]) h:=λ{β j h}=>qg _ _ rfl
  have w:=yq i bn;rw[Jr,ES];generalize j7 1 true (zA.map dg)=MP at *;simp only[bW,h1,q,WB,WA,BS,AP,w]
def XC{v:Cell}{ns:List (LB)}(hn:ns.length<=1000)(B:fh 1 v (ns.map dg))(d:Nat)(hd:d<=1000)(r:RW)(sm:qe r) :
  (∀ {β:Type}{kt:KT β}{h:bm}{e:Nat},br Om (.call (.k (F_ 39)) [.k (kA r.row),.k (kI (d:Int)),.k (.v (.c v))]) h e kt=kt (kA (fZ ns d r).row) h cj) /\
  (∀ {β:Type}{k:KO β}{h:bm}{e:Nat},bE Om (F_ 39) [kA r.row,kI (d:Int),.v (.c v)] h e k=k (kA (fZ ns d r).row) h):=by
 have ok:=qKp (jk ns) (by show(jk ns).list.length<=1000; rw[yr]; exact hn) d hd r sm;rw[yr] at ok;refine⟨λ{β kt h e}=>(qSo B 39 _ _).trans ?_,λ{β k h e}=>?_⟩
 ·rw[Sj];exact Hg 39 [kA r.row,kI (d:Int),.v (.c (.p (dI 1 dg (jk ns))))] _ (by simp only[jr]) ok (by simp only[jr])
 ·have st:bE Om (F_ 39) [kA r.row,kI (d:Int),.v (.c v)] h e k=bE Om (F_ 39) [kA r.row,kI (d:Int),.v (.c (.p (iq 1 (ns.map dg))))] h e k:=by
   rw[Yg 39 [kA r.row,kI (d:Int),.v (.c v)],Yg 39 [kA r.row,kI (d:Int),.v (.c (.p (iq 1 (ns.map dg))))]];show bE Om _ [(kA r.row).strip,_,bt.v (.c v.strip)] h e k=_;rw[B.strip]; rfl
  rw[st,Sj];exact j6 39 _ _ (by simp only[jr]) ok (by simp only[jr])
def Ou(r:RW):∃ M U b3 A,r.row=[M,U,b3,A]/\A=dI 4 RW.row r.kids:=⟨_,_,_,_,RW.fD r,rfl⟩
def qTg(main:RW)(ts gs:Sl RW)(hs:∀ r∈ts.list,qe r)(v:Cell)(B:fh 1 v ((jT ts.list).map dg)):∀ (m i:Nat) (T:Cell) (h:bm),i+m=(jT ts.list).length->fh 5 T (((((jT ts.list).zip ts.list).map (CD (jT ts.list))).take i).map eR) ->
  AI.GS [51] 5 T (((((jT ts.list).zip ts.list).map (CD (jT ts.list))).take i).map eR) h->SH h main [.p (.int .i64 0),.p (.str []),.p .bq,.p .bq,T,.p .bq] ->
  ∃ T' h',fh 5 T' ((((jT ts.list).zip ts.list).map (CD (jT ts.list))).map eR)/\SH h' main [.p (.int .i64 0),.p (.str []),.p .bq,.p .bq,T',.p .bq] /\
   ca tab.get S 10 0 3 [mw ts,mw gs,t3,r6,q7,.v (.c v),kI (i:Int)] h=ca tab.get S 10 0 4 [mw gs,t3,r6,q7,.v (.c v)] h'
 |0,i,T,h,hi,BT,G,A=>by
  have hz:(((jT ts.list).zip ts.list).map (CD (jT ts.list))).length<=i:=by rw[dj,xE]; omega
  rw[gz hz] at BT;refine⟨T,h,BT,A,?_⟩;have LN:=λ{β:Type} {O:bD} {h:bm} {d:Nat} {k:KO β}=>B.len (O:=O) (h:=h) (d:=d) (k:=k)
  have ml:((jT ts.list).map dg).length=(jT ts.list).length:=dj _;have q:¬ (i:Int)<((jT ts.list).length:Int):=bn
  rw[Jq,ER];simp only[bW,LN,ml,q]
 |m+1,i,T,h,hi,BT,G,A=>by
  have LN:=λ{β:Type} {O:bD} {h:bm} {d:Nat} {k:KO β}=>B.len (O:=O) (h:=h) (d:=d) (k:=k)
  have aa:=λ{β:Type} {h:bm} {k:KO β} (i:Int)=>B.at (h:=h) (k:=k) i
  have ml:((jT ts.list).map dg).length=(jT ts.list).length:=dj _;have q:(i:Int)<((jT ts.list).length:Int):=bn
  have q0:(0:Int)<=(i:Int):=bn
  have ae:(jT ts.list).length<=4/\(jT ts.list).length<=ts.list.length:=by unfold jT; rw[ji]; exact⟨by show min _ 4<=4; omega,bn⟩
  obtain⟨n,hn,_,mn⟩:=o9 (l:=jT ts.list) (i:=i) bn;obtain⟨r,M,_,mr⟩:=o9 (l:=ts.list) (i:=i) bn;have rn:((jT ts.list).map dg)[i]?=some (dg n):=by rw[dP,hn]; rfl
  have ab:(dg n)[0]?=some (.str n):=rfl;have hp:(((jT ts.list).zip ts.list).map (CD (jT ts.list)))[i]?=some (n,fZ (jT ts.list) 5 r):=by
   have e:((jT ts.list).zip ts.list)[i]?=some (n,r):=Fe.2 ⟨hn,M⟩;rw[dP,e]; rfl
  have sm:=hs r mr;have y:=λ{β:Type} {kt:KT β} {h:bm} {e:Nat}=>(XC bn B 5 bu r sm).1 (kt:=kt) (h:=h) (e:=e)
  obtain⟨U,b2,b3,b4,hb,_⟩:=Ou r;have AT:∀ {β:Type}{h:bm}{k:KO β},bU 4 (mw ts) (kI (i:Int)) h k=k (.v (.c (.p (.dc [U,b2,b3,b4] 0)))) h:=λ{β h k}=>by
   rw[<- hb];simp only[bW,q0,M]
  have LT:∀ {β:Type}{O:bD}{h:bm}{d:Nat}{kt:KT β},br O (.load true 4 (.k (.v (.c (.p (.dc [U,b2,b3,b4] 0)))))) h d kt=kt (.v (.agg [.p U,.p b2,.p b3,.p b4])) h cj:=λ{β O h d kt}=>tQ _ _ rfl
  rw[hb,show kA [U,b2,b3,b4]=bt.v (.agg [.p U,.p b2,.p b3,.p b4]) from rfl] at y;generalize hx:fZ (jT ts.list) 5 r=t at *;obtain⟨c1,c2,c3,c4,hc⟩:=nw t;rw[hc,show kA [c1,c2,c3,c4]=bt.v (.agg [.p c1,.p c2,.p c3,.p c4]) from rfl] at y;have ad:eR (n,t)=[.str n,c1,c2,c3,c4]:=by show bL.str n::t.row=_; rw[hc]
  obtain⟨c',h',tt,G',e',T',K',I',X'⟩:=sS (h:=h) (d:=51) (by':=88) (new:=[[.str n,c1,c2,c3,c4]]) (b:=.slice 5 true [[.str n,c1,c2,c3,c4]]) (.inr ⟨_,rfl⟩) G bu (λr M=>by simp at M; rw[M]; rfl) cM bu;obtain⟨rr,er⟩:=X' (.inl bR);have es:(((((jT ts.list).zip ts.list).map (CD (jT ts.list))).take (i+1)).map eR)=(((((jT ts.list).zip ts.list).map (CD (jT ts.list))).take i).map eR)++[[.str n,c1,c2,c3,c4]]:=by
   rw[qM,hp,gG]; show _++[eR (n,t)]=_; rw[ad]
  have k7:h'.get (.own 7 1)=some (.cells [.p (.int .i64 0),.p (.str []),.p .bq,.p .bq,T,.p .bq] 0):=K' 7 1 _ bu A.a7;obtain⟨T9,h9,B9,A9,e9⟩:=qTg main ts gs hs v B m (i+1) c' (h'.own 7 1 (.cells [.p (.int .i64 0),.p (.str []),.p .bq,.p .bq,c',.p .bq] 0)) bn (.inr ⟨by rw[es]; simp,rr,by rw[es]; exact er⟩) (by rw[es]; exact G'.own _ _ bu)
   ⟨(bm.bN _ 7 1 _ 3 1 bu).trans (K' 3 1 _ bu A.a3),(bm.bN _ 7 1 _ 6 1 bu).trans (K' 6 1 _ bu A.a6),bm.cC _ 7 1 _ bu cb⟩
  refine⟨T9,h9,B9,A9,jD ?_ e9⟩;have a7:=A.a7;have BB:∀ {β:Type}{O:bD}{h:bm}{d:Nat}{kt:KT β},br O (.build z5 [(0,1,.k (kS n)),(1,4,.k (.v (.agg [.p c1,.p c2,.p c3,.p c4])))]) h d kt=kt (.v (.agg [.p (.str n),.p c1,.p c2,.p c3,.p c4])) h cj:=λ{β O h d kt}=>tQ _ _ rfl
  have BS:∀ {β:Type}{O:bD}{h:bm}{d:Nat}{kt:KT β},br O (.cm 5 1 z5 [(0,.k (.v (.agg [.p (.str n),.p c1,.p c2,.p c3,.p c4])))] false) h d kt=kt (j7 5 true [[.str n,c1,c2,c3,c4]]) h cj:=Hk 5 _ [.str n,c1,c2,c3,c4] rfl rfl;have P1:∀ a b c d T G:Cell,dm [a,b,c,d,T,G] 4 [c']=[a,b,c,d,c',G]:=λ_ _ _ _ _ _=>rfl
  have k5:kI ((5:Nat):Int)=kI 5:=rfl;rw[k5] at y;have w:=yq i bn;rw[Jq,ER];simp only[bW,rA,rD,qI,D1,LN,aa,ml,q,q0,rn,ab,a7,AT,LT,y,BB,BS,e',k7,P1,rY,w]
end Go.Proofs.YtnlmlcfipbnpgaaGreatDoor.Ab
namespace Go.AI
section
variable {β:Type} {O:bD} {h:bm} {d:Nat} {k:KO β} {kt:KT β}
def qRH(z a b c e f g:Cell)(z2 z3 z4 z5 z6:Cell):br O (.cm 6 1 [z,z2,z3,z4,z5,z6] [(0,.k (.v (.agg [a,b,c,e,f,g])))] true) h d kt=kt (.v (.c (.cf (.im h.bY.length) 0 1 (some 1) 6))) (h.push (.cells [a,b,c,e,f,g] 0)) ⟨[],[.im h.bY.length],true⟩ :=
 JR _ [] _ _ _ _ rfl rfl
end
end Go.AI
namespace Go.Proofs.YtnlmlcfipbnpgaaGreatDoor.Ab
open Go Go.AI
def IP(h:bm)(gs:Gs)(G:Cell):Prop:=(gs=[]/\G = .p .bq)\/(gs≠[]/\∃ j cs,G = .cf (.im j) 0 gs.length none 6/\h.get (.im j)=some (.cells cs 0)/\cs.map Cell.strip=bp (gs.map cV).flatten/\cs.all ru=true/\cs.length=gs.length*6)
def IP.dY{h h':bm}{gs:Gs}{G:Cell}(A:IP h gs G)(k:∀ j,h'.get (.im j)=h.get (.im j)):IP h' gs G:=by
 rcases A with a|⟨n,j,cs,e,M,r⟩
 ·exact .inl a
 ·exact .inr ⟨n,j,cs,e,(k j).trans M,r⟩
def IP.gU{h:bm}{gs:Gs}{G:Cell}(A:IP h gs G):∃ fr,AI.freeze h eA G=some (dI 6 cV (jk gs),fr):=by
 rcases A with ⟨rfl,rfl⟩|⟨n,j,cs,rfl,M,hs,hp,hl⟩
 ·exact⟨[],rfl⟩
 ·obtain⟨xs,U,e2⟩:=qHe h 28 cs hp;have ex:bp xs=bp (gs.map cV).flatten:=U.symm.trans hs;have e:jk gs = .mk false gs:=by cases gs with|nil=>exact absurd rfl n|cons _ _=>rfl
  have ht:(cs.drop 0).take (gs.length*6)=cs:=by rw[eI]; exact gz bn
  have h2:(xs.map λx=>(x,([]:List Ref))).map (λx=>Cell.p x.1)=bp xs:=by rw[fU]; rfl
  have hz:∀ r∈gs.map cV,r.length=6:=λr hr=>by obtain⟨p,_,rfl⟩:=fk.1 hr; exact JK _
  have hc:=Ya 6 (gs.map cV) hz;rw[dj] at hc;refine⟨.im j::(xs.map λx=>(x,([]:List Ref))).flatMap (·.2),?_⟩;show AI.freeze h (28+2) (.cf (.im j) 0 gs.length none 6)=_;unfold AI.freeze;rw[e];simp only[M,ht,e2,rL,eG,h2,ex,hc];rfl
def IP.add{h:bm}{gs:Gs}{G:Cell}(A:IP h gs G)(f:GS)(hl:gs.length<=1000)(a b c d e g:Cell)(hs:[a,b,c,d,e,g].map Cell.strip=bp (cV f))(hp:[a,b,c,d,e,g].all ru=true) :
  ∃ G' h',IP h' (gs++[f]) G'/\(∀ e g,h'.get (.own e g)=h.get (.own e g))/\(∀ e,h'.gen e=h.gen e) /\
   ∀ {β:Type}{O:bD}{k:KO β}(z z2 z3 z4 z5 z6:Cell),(bQ O (.cm 6 1 [z,z2,z3,z4,z5,z6] [(0,.k (.v (.agg [a,b,c,d,e,g])))] true) h 110 λx h=>bQ O (.append 6 112 true (.k (.v (.c G))) (.k x)) h 111 k)=k (.v (.c G')) h':=by
 obtain⟨M,U⟩:∃ M,M=h.push (.cells [a,b,c,d,e,g] 0):=⟨_,rfl⟩;have gA:M.get (.im h.bY.length)=some (.cells [a,b,c,d,e,g] 0):=by rw[U]; exact Sp _ _ _ _ rfl
 have oA:∀ e g,M.get (.own e g)=h.get (.own e g):=λe g=>by rw[U]; rfl
 have nA:∀ e,M.gen e=h.gen e:=λe=>by rw[U]; rfl
 rcases A with ⟨rfl,rfl⟩|⟨n,j,cs,rfl,hg,hS,hP,hL⟩
 ·refine⟨.cf (.im M.bY.length) 0 1 none 6,M.push (.cells [a,b,c,d,e,g] 0),.inr ⟨bR,M.bY.length,_,rfl,Sp _ _ _ _ rfl,by rw[hs]; simp,hp,rfl⟩,oA,nA,λ{β O k} z z2 z3 z4 z5 z6=>?_⟩;rw[Ch,qRH];show bQ O _ (h.push (.cells [a,b,c,d,e,g] 0)) 111 k=_;rw[<- U,Ch];exact Yb (sz:=6) (by':=112) (lb:=1) (capb:=some 1) bn bn gA rfl
 ·have lt:j<h.bY.length:=(cQ.1 (bm.ej hg).1).1;have gj:M.get (.im j)=some (.cells cs 0):=by rw[U]; exact(uj _ _ _ lt).trans hg
  have aa:(M.put (.im j) .dead).bY.length=M.bY.length:=by show(M.bY.set j .dead).length=_; rw[vl]
  refine⟨.cf (.im M.bY.length) 0 (gs.length+1) none 6,(M.put (.im j) .dead).push (.cells (cs++[a,b,c,d,e,g]) 0),.inr ⟨bR,M.bY.length,cs++[a,b,c,d,e,g],?_,?_,?_,?_,?_⟩,oA,nA,λ{β O k} z z2 z3 z4 z5 z6=>?_⟩
  ·rw[bV]; rfl
  ·exact Sp _ _ _ _ aa
  ·rw[gG,hS,hs,gG,List.flatten_append]; unfold bp; simp
  ·rw[List.all_append,hP,hp]; rfl
  ·rw[bV,bV,hL,gM]; simp; omega
  ·rw[Ch,qRH];show bQ O _ (h.push (.cells [a,b,c,d,e,g] 0)) 111 k=_;rw[<- U,Ch];exact X9 (sz:=6) (by':=112) (la:=gs.length) (lb:=1) (capb:=some 1) bn bn gj gA hL rfl
structure SG (h:bm) (m1 m2 m3 m4:bL) (T:Cell) (gs:Gs):Prop where
 a6:h.get (.own 6 1)=some (.cells mi 0)
 a7:∃ G,h.get (.own 7 1)=some (.cells [.p m1,.p m2,.p m3,.p m4,T,G] 0)/\IP h gs G
def SG.yg{h:bm}{m1 m2 m3 m4:bL}{T:Cell}{gs:Gs}(A:SG h m1 m2 m3 m4 T gs)(e g:Nat)(o:bG)(M:e≠6)(U:e≠7):SG (h.own e g o) m1 m2 m3 m4 T gs:=by
 obtain⟨G,a,x⟩:=A.a7;exact⟨(bm.bN _ e g _ 6 1 M).trans A.a6,G,(bm.bN _ e g _ 7 1 U).trans a,x.dY λj=>rfl⟩
abbrev Zq(g:Nat):bt:=.v (.c (.ptr (.own 12 g) 0))
section
variable {m1 m2 m3 m4:bL} {T v:Cell} {ns:List (LB)}
def qTZ(gs:Sl RW)(B:fh 1 v (ns.map dg))(hn:ns.length<=1000)(i:Nat)(r:RW)(U:gs.list[i]?=some r)(sm:qe r)(done:Gs)(g:Nat)(nm:LB)(c1 c2 c3 c4:bL):∀ (m k:Nat) (c:Cell) (h:bm),k+m=min r.kids.len 3 ->
  fh 4 c (((r.kids.list.take k).map (fZ ns 4)).map TT.row)->AI.GS [105] 4 c (((r.kids.list.take k).map (fZ ns 4)).map TT.row) h->SG h m1 m2 m3 m4 T done->h.get (.own 12 g)=some (.cells [.p (.str nm),c,.p c1,.p c2,.p c3,.p c4] 0) ->
  ∃ c' h',fh 4 c' (((r.kids.list.take 3).map (fZ ns 4)).map TT.row)/\SG h' m1 m2 m3 m4 T done/\h'.get (.own 12 g)=some (.cells [.p (.str nm),c',.p c1,.p c2,.p c3,.p c4] 0) /\
   ca tab.get S 10 0 6 [mw gs,r6,q7,.v (.c v),kI (i:Int),Zq g,kI (k:Int)] h=ca tab.get S 10 0 7 [mw gs,r6,q7,.v (.c v),kI (i:Int),Zq g] h'
 |0,k,c,h,hk,Bc,G,A,a12=>by
  have e:r.kids.list.take 3=r.kids.list.take k:=by
   by_cases h3:r.kids.len<=3
   ·rw[gz (show r.kids.list.length<=3 from h3),gz (by show r.kids.len<=k; omega)]
   ·rw[show k=3 by omega]
  refine⟨c,h,by rw[e]; exact Bc,A,a12,?_⟩;have q0:(0:Int)<=(i:Int):=bn
  obtain⟨b1,b2,b3,b4,hb,M⟩:=Ou r;subst M;have AT:∀ {β:Type}{h:bm}{k:KO β},bU 4 (mw gs) (kI (i:Int)) h k=k (.v (.c (.p (.dc [b1,b2,b3,dI 4 RW.row r.kids] 0)))) h:=λ{β h k}=>by
   rw[<- hb];simp only[bW,q0,U]
  have LK:∀ {β:Type}{h:bm}{k:KO β},bz false 1 (.v (.c (.p (.dc [b1,b2,b3,dI 4 RW.row r.kids] 3)))) h k=k (mw r.kids) h:=λ{β h k}=>rfl
  rw[Jo,EO];by_cases h1:(k:Int)<(r.kids.len:Int)
  ·have q:¬ (k:Int)<3:=bn
   simp only[bW,AT,LK,h1,q]
  ·simp only[bW,AT,LK,h1]
 |m+1,k,c,h,hk,Bc,G,A,a12=>by
  have h1:(k:Int)<(r.kids.len:Int):=bn
  have q:(k:Int)<3:=bn
  have q0:(0:Int)<=(i:Int):=bn
  have q1:(0:Int)<=(k:Int):=bn
  obtain⟨x,hx,_,mx⟩:=o9 (l:=r.kids.list) (i:=k) (by show k<r.kids.len; omega);have aa:qe x:=((RZ r).1 sm).2.2 x mx;obtain⟨b1,b2,b3,b4,hb,M⟩:=Ou r;subst M;obtain⟨d1,d2,d3,d4,hd,_⟩:=Ou x;have AT:∀ {β:Type}{h:bm}{k:KO β},bU 4 (mw gs) (kI (i:Int)) h k=k (.v (.c (.p (.dc [b1,b2,b3,dI 4 RW.row r.kids] 0)))) h:=λ{β h k}=>by
   rw[<- hb];simp only[bW,q0,U]
  have AK:∀ {β:Type}{h:bm}{j:KO β},bU 4 (mw r.kids) (kI (k:Int)) h j=j (.v (.c (.p (.dc [d1,d2,d3,d4] 0)))) h:=λ{β h j}=>by
   rw[<- hd];simp only[bW,q1,hx]
  have LK:∀ {β:Type}{h:bm}{k:KO β},bz false 1 (.v (.c (.p (.dc [b1,b2,b3,dI 4 RW.row r.kids] 3)))) h k=k (mw r.kids) h:=λ{β h k}=>rfl
  have LT:∀ {β:Type}{O:bD}{h:bm}{d:Nat}{kt:KT β},br O (.load false 1 (.k (.v (.c (.p (.dc [b1,b2,b3,dI 4 RW.row r.kids] 3)))))) h d kt=kt (mw r.kids) h cj:=λ{β O h d kt}=>tQ _ _ rfl
  have LX:∀ {β:Type}{O:bD}{h:bm}{d:Nat}{kt:KT β},br O (.load true 4 (.k (.v (.c (.p (.dc [d1,d2,d3,d4] 0)))))) h d kt=kt (.v (.agg [.p d1,.p d2,.p d3,.p d4])) h cj:=λ{β O h d kt}=>tQ _ _ rfl
  have y:=λ{β:Type} {kt:KT β} {h:bm} {e:Nat}=>(XC hn B 4 bu x aa).1 (kt:=kt) (h:=h) (e:=e)
  rw[hd,show kA [d1,d2,d3,d4]=bt.v (.agg [.p d1,.p d2,.p d3,.p d4]) from rfl] at y;have es:((r.kids.list.take (k+1)).map (fZ ns 4)).map TT.row=((r.kids.list.take k).map (fZ ns 4)).map TT.row++[(fZ ns 4 x).row]:=by
   rw[qM,hx]; simp
  generalize fZ ns 4 x=t at *;have k4:kI ((4:Nat):Int)=kI 4:=rfl;rw[k4] at y;obtain⟨c',h',tt,G',e',T',K',I',X'⟩:=sS (h:=h) (d:=105) (by':=72) (new:=[t.row]) (b:=.slice 4 true [t.row]) (.inr ⟨_,rfl⟩) G bu (λr U=>by simp at U; rw[U]; exact TT.ct t) cM bu;obtain⟨rr,er⟩:=X' (.inl bR);have ab:h'.get (.own 12 g)=some (.cells [.p (.str nm),c,.p c1,.p c2,.p c3,.p c4] 0):=K' 12 g _ bu a12;have A2:SG h' m1 m2 m3 m4 T done:=by
   obtain⟨G0,a,xx⟩:=A.a7;exact⟨K' 6 1 _ bu A.a6,G0,K' 7 1 _ bu a,xx.dY I'⟩
  obtain⟨c9,h9,B9,A9,a9,e9⟩:=qTZ gs B hn i r U sm done g nm c1 c2 c3 c4 m (k+1) c' (h'.own 12 g (.cells [.p (.str nm),c',.p c1,.p c2,.p c3,.p c4] 0)) bn (.inr ⟨by rw[es]; simp,rr,by rw[es]; exact er⟩) (by rw[es]; exact G'.own _ _ bu) (A2.yg 12 g _ bu bu) (bm.cC _ 12 g _ bu cb);refine⟨c9,h9,B9,A9,a9,jD ?_ e9⟩;have BS:∀ {β:Type}{O:bD}{h:bm}{d:Nat}{kt:KT β},br O (.cm 4 1 z4 [(0,.k (.v (.agg (bp t.row))))] false) h d kt=kt (j7 4 true [t.row]) h cj:=Hk 4 _ _ rfl (TT.ct t);have P1:∀ a b c d T G:Cell,dm [a,b,c,d,T,G] 1 [c']=[a,c',c,d,T,G]:=λ_ _ _ _ _ _=>rfl
  have w:=yq k bn;rw[Jo,EO];simp only[bW,rA,rD,qI,D1,AT,AK,LK,LT,LX,h1,q,a12,y,BS,e',ab,P1,rY,w]
def qTw(gs:Sl RW)(hs:∀ r∈gs.list,qe r)(B:fh 1 v (ns.map dg))(hn:ns.length<=1000):∀ (m i:Nat) (h:bm),i+m=min gs.len 4->SG h m1 m2 m3 m4 T (((kP.zip gs.list).map (wj ns)).take i) ->
  ∃ h',SG h' m1 m2 m3 m4 T ((kP.zip gs.list).map (wj ns))/\ca tab.get S 10 0 5 [mw gs,r6,q7,.v (.c v),kI (i:Int)] h=ca tab.get S 10 0 9 [r6,q7] h'
 |0,i,h,hi,A=>by
  have hz:((kP.zip gs.list).map (wj ns)).length<=i:=by rw[dj,xE]; show min 4 gs.len<=i; omega
  rw[gz hz] at A;refine⟨h,A,?_⟩;rw[Jp,EP];by_cases h1:(i:Int)<(gs.len:Int)
  ·have q:¬ (i:Int)<4:=bn
   simp only[bW,h1,q]
  ·simp only[bW,h1]
 |m+1,i,h,hi,A=>by
  have h1:(i:Int)<(gs.len:Int):=bn
  have q:(i:Int)<4:=bn
  have q0:(0:Int)<=(i:Int):=bn
  obtain⟨n,U,_,mn⟩:=o9 (l:=kP) (i:=i) (by show i<4; omega);obtain⟨r,hr,_,mr⟩:=o9 (l:=gs.list) (i:=i) (by show i<gs.len; omega);have sm:=hs r mr;have hz:((kP.zip gs.list).map (wj ns))[i]?=some (wj ns (n,r)):=by
   have e:(kP.zip gs.list)[i]?=some (n,r):=Fe.2 ⟨U,hr⟩;rw[dP,e]; rfl
  have eD:((kP.zip gs.list).map (wj ns)).take (i+1)=((kP.zip gs.list).map (wj ns)).take i++[wj ns (n,r)]:=by rw[qM,hz]; rfl
  have lD:(((kP.zip gs.list).map (wj ns)).take i).length<=4:=by rw[ji]; omega
  generalize hD:((kP.zip gs.list).map (wj ns)).take i=done at *;obtain⟨b1,b2,b3,b4,hb,aa⟩:=Ou r;subst aa;have WB:∀ {β:Type}{O:bD}{h:bm}{d:Nat}{kt:KT β},br O (.cm 1 4 [.p (.str [])] [(0,.k (kS [102,97])),(1,.k (kS [102,98])),(2,.k (kS [102,99])),(3,.k (kS [102,100]))] false) h d kt=kt (j7 1 true (kP.map dg)) h cj:=λ{β O h d kt}=>tQ _ _ rfl
  have WA:∀ {β:Type}{h:bm}{k:KO β},bU 1 (j7 1 true (kP.map dg)) (kI (i:Int)) h k=k (.v (.c (.p (.dc [.str n] 0)))) h:=λ{β h k}=>by
   have:(kP.map dg)[i]?=some [.str n]:=by rw[dP,U]; rfl
   exact Vh (h:=h) (k:=k) 1 true (kP.map dg) i _ this
  have AT:∀ {β:Type}{h:bm}{k:KO β},bU 4 (mw gs) (kI (i:Int)) h k=k (.v (.c (.p (.dc [b1,b2,b3,dI 4 RW.row r.kids] 0)))) h:=λ{β h k}=>by
   rw[<- hb];simp only[bW,q0,hr]
  have LT:∀ {β:Type}{O:bD}{h:bm}{d:Nat}{kt:KT β},br O (.load true 4 (.k (.v (.c (.p (.dc [b1,b2,b3,dI 4 RW.row r.kids] 0)))))) h d kt=kt (.v (.agg [.p b1,.p b2,.p b3,.p (dI 4 RW.row r.kids)])) h cj:=λ{β O h d kt}=>tQ _ _ rfl
  have LN:∀ {β:Type}{O:bD}{h:bm}{d:Nat}{kt:KT β},br O (.load false 1 (.k (.v (.c (.p (.dc [.str n] 0)))))) h d kt=kt (kS n) h cj:=λ{β O h d kt}=>tQ _ _ rfl
  have y:=λ{β:Type} {kt:KT β} {h:bm} {e:Nat}=>(XC hn B 4 bu r sm).1 (kt:=kt) (h:=h) (e:=e)
  rw[hb,show kA [b1,b2,b3,dI 4 RW.row r.kids]=bt.v (.agg [.p b1,.p b2,.p b3,.p (dI 4 RW.row r.kids)]) from rfl] at y;have k4:kI ((4:Nat):Int)=kI 4:=rfl;rw[k4] at y;have eF:cV (wj ns (n,r)) = .str n::dI 4 TT.row (jk ((r.kids.list.take 3).map (fZ ns 4)))::(fZ ns 4 r).row:=rfl;obtain⟨c1,c2,c3,c4,hc⟩:=nw (fZ ns 4 r);rw[hc,show kA [c1,c2,c3,c4]=bt.v (.agg [.p c1,.p c2,.p c3,.p c4]) from rfl] at y;rw[hc] at eF;obtain⟨g,hg⟩:∃ g,g=h.gen 12+1:=⟨_,rfl⟩;obtain⟨hA,M⟩:∃ hA,hA=(h.own 12 g (.cells vx 0)).own 12 g (.cells [.p (.str n),.p .bq,.p c1,.p c2,.p c3,.p c4] 0):=⟨_,rfl⟩;have A1:=(A.yg 12 g (.cells vx 0) bu bu).yg 12 g (.cells [.p (.str n),.p .bq,.p c1,.p c2,.p c3,.p c4] 0) bu bu;rw[<- M] at A1;have a12:hA.get (.own 12 g)=some (.cells [.p (.str n),.p .bq,.p c1,.p c2,.p c3,.p c4] 0):=by rw[M]; exact bm.cC _ 12 g _ bu cb
  obtain⟨c,h2,Bc,A2,ab,e2⟩:=qTZ gs B hn i r hr sm done g n c1 c2 c3 c4 (min r.kids.len 3) 0 (.p .bq) hA bn (.inl ⟨bR,rfl⟩) (.inl ⟨bR,rfl⟩) A1 a12;obtain⟨G,a7,xG⟩:=A2.a7
  obtain⟨G',h3,ad,o3,n3,e3⟩:=xG.add (wj ns (n,r)) bn (.p (.str n)) c (.p c1) (.p c2) (.p c3) (.p c4) (by
   rw[eF];show [Cell.p (.str n),c.strip,.p c1,.p c2,.p c3,.p c4]=_
   rw[Bc.strip,Sj]; rfl) (by simp only[oI,sI,Bc.pt]; rfl)
  have a6:=A2.a6;have b7:h3.get (.own 7 1)=some (.cells [.p m1,.p m2,.p m3,.p m4,T,G] 0):=(o3 7 1).trans a7;have A3:SG (h3.own 7 1 (.cells [.p m1,.p m2,.p m3,.p m4,T,G'] 0)) m1 m2 m3 m4 T (((kP.zip gs.list).map (wj ns)).take (i+1)):=by
   rw[eD];exact⟨(bm.bN _ 7 1 _ 6 1 bu).trans ((o3 6 1).trans a6),G',bm.cC _ 7 1 _ bu cb,ad.dY λj=>rfl⟩
  obtain⟨h9,A9,e9⟩:=qTw gs hs B hn m (i+1) _ bn A3;refine⟨h9,A9,jD ?_ e9⟩;have BB:∀ {β:Type}{O:bD}{h:bm}{d:Nat}{kt:KT β},br O (.build vx [(0,1,.k (kS n)),(2,4,.k (.v (.agg [.p c1,.p c2,.p c3,.p c4])))]) h d kt=kt (.v (.agg [.p (.str n),.p .bq,.p c1,.p c2,.p c3,.p c4])) h cj:=λ{β O h d kt}=>tQ _ _ rfl
  have P6:∀ a b c d e f:Cell,dm vx 0 [a,b,c,d,e,f]=[a,b,c,d,e,f]:=λ_ _ _ _ _ _=>rfl
  have P1:∀ a b c d T G:Cell,dm [a,b,c,d,T,G] 5 [G']=[a,b,c,d,T,G']:=λ_ _ _ _ _ _=>rfl
  have z0:kI ((0:Nat):Int)=kI 0:=rfl;rw[z0] at e2;have w:=yq i bn;have st:ca tab.get S 10 0 5 [mw gs,r6,q7,.v (.c v),kI (i:Int)] h=ca tab.get S 10 0 6 [mw gs,r6,q7,.v (.c v),kI (i:Int),Zq g,kI 0] hA:=by
   rw[Jp,EP];generalize j7 1 true (kP.map dg)=MP at *;simp only[bW,rA,rC,qI,D1,h1,q,WB,WA,AT,LT,LN,y,BB,rY,U6,<- hg,P6,<- M,cB]
  refine st.trans (e2.trans ?_);have E3:∀ {β:Type}{k:KO β},(bQ Om (.cm 6 1 vx [(0,.k (.v (.agg [.p (.str n),c,.p c1,.p c2,.p c3,.p c4])))] true) h2 110 λx h=>bQ Om (.append 6 112 true (.k (.v (.c G))) (.k x)) h 111 k)=k (.v (.c G')) h3:=λ{β k}=>e3 _ _ _ _ _ _
  rw[Uo,Lh];simp only[bW,rA,a7,ab];refine(E3 (k:=_)).trans ?_;simp only[bW,rA,rD,b7,P1,cB];rw[Un,Lg];simp only[bW,w]
end
def qWI{h:bm}{main:TT}{m1 m2 m3 m4:bL}{T:Cell}{ts:Es}{gs:Gs}(hm:main.row=[m1,m2,m3,m4])(U:fh 5 T (ts.map eR))(A:SG h m1 m2 m3 m4 T gs) :
  ca tab.get S 10 0 9 [r6,q7] h=some (kA (SC.mk main (jk ts) (jk gs)).row,[]):=by
 have a6:=A.a6;obtain⟨G,a7,xG⟩:=A.a7;have P6:∀ a b c d e f:Cell,dm mi 0 [a,b,c,d,e,f]=[a,b,c,d,e,f]:=λ_ _ _ _ _ _=>rfl
 have fin:∀ M:bm,(∀ j,M.get (.im j)=h.get (.im j))->bS true 0 [.agg [.p m1,.p m2,.p m3,.p m4,T,G]] M=some (kA (SC.mk main (jk ts) (jk gs)).row,[]):=by
  intro M hk;obtain⟨f2,e2⟩:=(xG.dY hk).gU;obtain⟨xT,t1,t2⟩:=qFr M 29 T U.pt;have et:xT=dI 5 (λp=>eh p.1 p.2) (jk ts):=by
   have:=t1.symm.trans U.strip;rw[Sj] at this;exact Cell.p.inj this
  subst et;refine qMy (fr:=f2) ?_ (by simp only[jr]);have em:([.p m1,.p m2,.p m3,.p m4,T,G]:List Cell).mapM (AI.freeze M eA)=some [(m1,[]),(m2,[]),(m3,[]),(m4,[]),(dI 5 (λp=>eh p.1 p.2) (jk ts),[]),(dI 6 cV (jk gs),f2)]:=by
   have fp:∀ x:bL,AI.freeze M eA (.p x)=some (x,[]):=λx=>rfl
   have t2:AI.freeze M eA T=some (dI 5 (λp=>eh p.1 p.2) (jk ts),[]):=t2;simp only[ek,gg,fp,t2,e2,gC,rL,eG]
  have e3:fJ M (.agg [.p m1,.p m2,.p m3,.p m4,T,G])=some (.agg (bp (SC.mk main (jk ts) (jk gs)).row),f2):=by
   show(List.mapM (AI.freeze M eA) [.p m1,.p m2,.p m3,.p m4,T,G]).map _=_;rw[em];unfold SC.row;rw[hm];simp[bp]
  show(fJ M (.agg [.p m1,.p m2,.p m3,.p m4,T,G])).map _=_;rw[e3]; rfl
 rw[Um,Lf];simp only[bW,rA,rC,a6,a7,P6,cB];exact fin _ (λj=>rfl)
def qXe(main:RW)(ts gs:Sl RW)(hm:qe main)(aa:∀ r∈ts.list,qe r)(ab:∀ r∈gs.list,qe r):Om 10 [kA main.row,mw ts,mw gs] []=some (kA (zj main ts.list gs.list).row,[]):=by
 refine(gD rfl).trans ?_;show ca tab.get S 10 0 0 [kA main.row,mw ts,mw gs] h0=_;obtain⟨A,M⟩:∃ A,A=((h0.own 3 1 (.cells (bp main.row) 0)).own 6 1 (.cells mi 0)).own 7 1 (.cells mi 0):=⟨_,rfl⟩;have A0:SH A main mi:=by rw[M]; exact⟨rfl,rfl,rfl⟩
 obtain⟨v,h1,B,A1,e1⟩:=qTm main ts gs (min ts.len 4) 0 (.p .bq) A bn (.inl ⟨bR,rfl⟩) (.inl ⟨bR,rfl⟩) A0;obtain⟨T,h2,BT,A2,e2⟩:=qTg main ts gs aa v B (jT ts.list).length 0 (.p .bq) h1 bn (.inl ⟨bR,rfl⟩) (.inl ⟨bR,rfl⟩) A1;have hn:(jT ts.list).length<=1000:=by unfold jT; rw[ji]; show min _ 4<=1000; omega
 have y:=λ{β:Type} {k:KO β} {h:bm} {e:Nat}=>(XC hn B 6 bu main hm).2 (k:=k) (h:=h) (e:=e)
 have k6:kI ((6:Nat):Int)=kI 6:=rfl;rw[k6] at y;have hS:zj main ts.list gs.list=SC.mk (fZ (jT ts.list) 6 main) (jk (((jT ts.list).zip ts.list).map (CD (jT ts.list)))) (jk ((kP.zip gs.list).map (wj (jT ts.list)))):=rfl;rw[hS];generalize hx:fZ (jT ts.list) 6 main=t at *;obtain⟨m1,m2,m3,m4,ht⟩:=nw t;rw[ht,show kA [m1,m2,m3,m4]=bt.v (.agg [.p m1,.p m2,.p m3,.p m4]) from rfl] at y;obtain⟨U,b2,b3,b4,hb,_⟩:=Ou main;have a3:=A2.a3;have a7:=A2.a7;rw[hb] at a3;rw[hb,show kA [U,b2,b3,b4]=bt.v (.agg [.p U,.p b2,.p b3,.p b4]) from rfl] at y;have pr:bp [U,b2,b3,b4]=[.p U,.p b2,.p b3,.p b4]:=rfl;rw[pr] at a3;have S0:SG (h2.own 7 1 (.cells [.p m1,.p m2,.p m3,.p m4,T,.p .bq] 0)) m1 m2 m3 m4 T (((kP.zip gs.list).map (wj (jT ts.list))).take 0) :=
  ⟨(bm.bN _ 7 1 _ 6 1 bu).trans A2.a6,.p .bq,bm.cC _ 7 1 _ bu cb,.inl ⟨bR,rfl⟩⟩
 obtain⟨h3,A3,e3⟩:=qTw gs ab B hn (min gs.len 4) 0 _ bn S0;have P4:∀ a b c d e f x y z w:Cell,dm [a,b,c,d,e,f] 0 [x,y,z,w]=[x,y,z,w,e,f]:=λ_ _ _ _ _ _ _ _ _ _=>rfl
 have z0:kI ((0:Nat):Int)=kI 0:=rfl;rw[z0] at e1 e2 e3;have g3:h0.gen 3=0:=rfl;have g6:∀ o,(h0.own 3 1 o).gen 6=0:=λ_=>rfl
 have st:ca tab.get S 10 0 0 [kA main.row,mw ts,mw gs] h0=ca tab.get S 10 0 1 [mw ts,mw gs,t3,r6,q7,.v (.c (.p .bq)),kI 0] A:=by
  rw[Ur,Lm];simp only[bW,rE,g3,g6,<- M]
 refine st.trans (e1.trans ?_);rw[Uq,Lj];refine e2.trans ?_;have s4:ca tab.get S 10 0 4 [mw gs,t3,r6,q7,.v (.c v)] h2=ca tab.get S 10 0 5 [mw gs,r6,q7,.v (.c v),kI 0] (h2.own 7 1 (.cells [.p m1,.p m2,.p m3,.p m4,T,.p .bq] 0)):=by
  rw[Up,Li];simp only[bW,rA,rD,a3,a7,y,P4,cB]
 exact s4.trans (e3.trans (qWI ht BT A3))
def qXY(ts:List RW):DL (jT ts):=by
 intro w hw;have:w∈zA:=qN hw;simp only[zA,dK,lL,lK] at this
 rcases this with rfl|rfl|rfl|rfl <;> exact⟨bu,bu⟩
def wB{α β:Type}:∀ (a:List α) (b:List β),((a.zip b).map Prod.fst).Sublist a
 |[],b=>bR
 |x::a,[]=>bR
 |x::a,y::b=>by
  rw[List.zip_cons_cons,dr];exact(wB a b).cons_cons x
def qMw{α:Type}(f:α->LB×TT)(l:List α):xY (l.map f)↔(l.map λx=>(f x).1).Pairwise λp q=>cX p q=true:=by
 unfold xY;rw[pD,pD];rfl
def qUC(main:RW)(ts gs:List RW):BR (zj main ts gs):=by
 have ok:=qXY ts;have g:∀ d,d+1<=6->∀ r,GT (fZ (jT ts) (d+1) r):=λd hd r=>qVF ok d hd r
 have pT:zA.Pairwise λp q=>cX p q=true:=bu
 have M:kP.Pairwise λp q=>cX p q=true:=bu
 have U:((jT ts).zip ts).length<=4:=by
  have:(jT ts).length<=4:=by unfold jT; rw[ji]; omega
  rw[xE]; omega
 have l2:(kP.zip gs).length<=4:=by rw[xE]; show min 4 _<=4; omega
 refine⟨g 5 bu main,?_,?_,?_,?_,?_,?_,?_⟩
 ·show ∀ p∈(jk (((jT ts).zip ts).map (CD (jT ts)))).list,_;rw[yr];intro p hp;obtain⟨q,A,rfl⟩:=fk.1 hp;exact⟨(ok q.1 (List.of_mem_zip A).1).1,g 4 bu q.2⟩
 ·show ∀ p∈(jk ((kP.zip gs).map (wj (jT ts)))).list,_;rw[yr];intro p hp;obtain⟨q,A,rfl⟩:=fk.1 hp;refine⟨?_,?_,g 3 bu q.2⟩
  ·have:q.1∈kP:=(List.of_mem_zip A).1;show fK q.1=true;simp only[kP,dK,lL,lK] at this
   rcases this with e|e|e|e <;> rw[e] <;> decide
  ·show ∀ t∈(jk ((q.2.kids.list.take 3).map (fZ (jT ts) 4))).list,GT t;rw[yr];intro t ht;obtain⟨r,_,rfl⟩:=fk.1 ht;exact g 3 bu r
 ·show(jk (((jT ts).zip ts).map (CD (jT ts)))).list.length<=4;rw[yr,dj]; exact U
 ·show(jk ((kP.zip gs).map (wj (jT ts)))).list.length<=4;rw[yr,dj]; exact l2
 ·show ∀ p∈(jk ((kP.zip gs).map (wj (jT ts)))).list,p.pr.list.length<=3;rw[yr];intro p hp;obtain⟨q,A,rfl⟩:=fk.1 hp;show(jk ((q.2.kids.list.take 3).map (fZ (jT ts) 4))).list.length<=3;rw[yr,dj,ji]; omega
 ·show xY (jk (((jT ts).zip ts).map (CD (jT ts)))).list;rw[yr,qMw];exact(pT.sublist (List.take_sublist _ _)).sublist (wB _ _)
 ·show xY ((jk ((kP.zip gs).map (wj (jT ts)))).list.map gE);rw[yr,fU,qMw];exact M.sublist (wB _ _)
def qPR(a n:Int)(hn:0<n)(hs:n<4000000000):Om 15 [kI a,kI n] []=some (kI (cK a n),[]):=by
 refine(gD rfl).trans ?_;show ca tab.get S 15 0 0 [kI a,kI n] h0=_;have hb:=DH a n hn;rw[Jc,yT];unfold cK at hb ⊢;by_cases h:a.tmod n<0
 ·rw[bF h] at hb ⊢;have hw:IntKind.i64.wrap (a.tmod n+n)=a.tmod n+n:=jZ _ bn bn;simp only[bW,Vb 0 .i64 a n bn,h,hw]
 ·rw[bA h];simp only[bW,Vb 0 .i64 a n bn,h]
def v9{β:Type}{k:KO β}{h:bm}{d:Nat}(m:RW)(ts gs:Sl RW):bE Om (F_ 9) [kA m.row,mw ts,mw gs] h d k=k (kB (ou m ts gs)) h:=j6 9 _ _ (by simp only[jr]) (qUF m ts gs) rfl
def v10{β:Type}{k:KO β}{h:bm}{d:Nat}(m:RW)(ts gs:Sl RW)(f:ou m ts gs=true):bE Om (F_ 10) [kA m.row,mw ts,mw gs] h d k=k (kA (zj m ts.list gs.list).row) h:=by
 obtain⟨a,b,c,A,e⟩:=qPg f;exact j6 10 _ _ (by simp only[jr]) (qXe m ts gs a A e) (by simp only[jr])
def v11{β:Type}{k:KO β}{h:bm}{d:Nat}{x:SC}(G:BR x):bE Om (F_ 11) [kA x.row] h d k=k (kS (yc x)) h:=j6 11 _ _ (by simp only[jr]) (qVz x G) rfl
def v12{β:Type}{k:KO β}{h:bm}{d:Nat}{x:SC}(G:BR x):bE Om (F_ 12) [kA x.row] h d k=k (kS (yc x)) h:=j6 12 _ _ (by simp only[jr]) (qUO x G) rfl
def Zj{β:Type}{k:KO β}{h:bm}{d:Nat}(s:LB):bE Om (F_ 17) [kS s] h d k=k (.dq [.agg (bp (rh s).row),.c (.p (.int .i64 (lX s)))]) h:=by
 obtain⟨A,M⟩:=qF9 s;rw[A,M];exact j6 17 _ _ (by simp only[jr]) (qRt s) (by simp only[jr])
def qLs(a:SC):qw a a=true:=by
 unfold qw;rw[JT _ _ (lJ _),qEq jR (λp=>by unfold jR; rw[cI rfl,JT _ _ (lJ _)]; rfl),qEq jG (λp=>by unfold jG; rw[cI rfl,qHt,JT _ _ (lJ _)]; rfl)];rfl
def Zp(x:SC):∃ a b c d e f,x.row=[a,b,c,d,e,f]:=by
 obtain⟨a,b,c,d,h⟩:=nw x.main;exact⟨a,b,c,d,_,_,by unfold SC.row; rw[h]; rfl⟩
def qQI(l:List (LB))(h3:l.length=5):∀ (i:Nat) (h:bm),ca tab.get S 3 0 1 [j7 1 true (l.map dg),kI (i:Int)] h=some (kB true,[]):=by
 refine CI 5 (λi hi h=>?_) (λi hi aa h=>?_) <;> rw[YY,WM]
 ·have LN:∀ (β:Type) (A:KO β) (M:bm) (d:Nat),cP Om 2 (j7 1 true (l.map dg)) M d A=A (kI (5:Int)) M:=λβ A M d=>by simp only[bW,dj,h3]; rfl
  have h1:¬ (i:Int)<5:=bn
  generalize j7 1 true (l.map dg)=MP at *;simp only[bW,LN,h1]
 ·have LN:∀ (β:Type) (A:KO β) (M:bm) (d:Nat),cP Om 2 (j7 1 true (l.map dg)) M d A=A (kI (5:Int)) M:=λβ A M d=>by simp only[bW,dj,h3]; rfl
  have h1:(i:Int)<5:=bn
  obtain⟨x,hx,dx,mx⟩:=o9 (l:=l) (i:=i) bn;have AT:∀ (β:Type) (A:KO β) (M:bm),bU 1 (j7 1 true (l.map dg)) (kI (i:Int)) M A=A (.v (.c (.p (.dc (dg x) 0)))) M:=λβ A M=>by
   have:(l.map dg)[i]?=some (dg x):=by rw[dP,hx]; rfl
   exact Vh (h:=M) (k:=A) 1 true (l.map dg) i _ this
  generalize j7 1 true (l.map dg)=MP at *;have C1:=λ(β:Type) (A:KO β) (M:bm) (d:Nat)=>v22 (k:=A) (h:=M) (d:=d) x
  have C2:=λ(β:Type) (A:KO β) (M:bm) (d:Nat)=>Zj (k:=A) (h:=M) (d:=d) x
  have U:=λ(β:Type) (A:KO β) (M:bm) (d:Nat)=>v23 (k:=A) (h:=M) (d:=d) (ZJ x) (ZJ x)
  rw[qLs] at U;obtain⟨a1,a2,a3,a4,a5,a6,hr⟩:=Zp (rh x);rw[hr] at C1 C2 U;have pr:bp [a1,a2,a3,a4,a5,a6]=[.p a1,.p a2,.p a3,.p a4,.p a5,.p a6]:=rfl;rw[pr] at C1 C2;rw[show kA [a1,a2,a3,a4,a5,a6]=bt.v (.agg [.p a1,.p a2,.p a3,.p a4,.p a5,.p a6]) from rfl] at U;generalize lX x=e at *;have P6:∀ a b c d e f:Cell,dm mi 0 [a,b,c,d,e,f]=[a,b,c,d,e,f]:=λ_ _ _ _ _ _=>rfl
  simp only[bW,rA,rC,rE,LN,h1,AT,C1,C2,U,P6,aa,sT i bn,cB]
def qRg(s:LB)(m:RW)(ts gs:Sl RW)(a:Int)(l:Sl Int):r8 S (ca tab.get S) 3 [kS s,kA m.row,mw ts,mw gs,kI a,SP l] []=some (kB true,[]):=by
 refine(gD rfl).trans ?_;show ca tab.get S 3 0 0 [kS s,kA m.row,mw ts,mw gs,kI a,SP l] h0=_;obtain⟨b1,b2,b3,b4,hb,_⟩:=Ou m;rw[YZ,WN];have aa:IM 8 [] (kB true):=λ{β k h d}=>j6 8 _ _ rfl qVM rfl
 have y9:=λ(β:Type) (M:KO β) (A:bm) (d:Nat)=>v9 (k:=M) (h:=A) (d:=d) m ts gs
 rw[hb,show kA [b1,b2,b3,b4]=bt.v (.agg [.p b1,.p b2,.p b3,.p b4]) from rfl] at y9;have er:kA m.row=bt.v (.agg [.p b1,.p b2,.p b3,.p b4]):=by rw[hb]; rfl
 by_cases hs:(800:Int)<(s.length:Int)
 ·rw[er];simp only[bW,aa,hs]
 cases hf:ou m ts gs with
 |false =>
  rw[hf] at y9;rw[er];simp only[bW,rA,rC,aa,y9,hs]
 |true =>
  rw[hf] at y9;have G:=qUC m ts.list gs.list;have R:=qOz G;have tl:=qUy G;have ab:=λ(β:Type) (M:KO β) (A:bm) (d:Nat)=>v10 (k:=M) (h:=A) (d:=d) m ts gs hf
  rw[er] at ab;rw[er];have ae:=λ(β:Type) (M:KO β) (A:bm) (d:Nat)=>v11 (k:=M) (h:=A) (d:=d) G
  have RO:=λ(β:Type) (M:KO β) (A:bm) (d:Nat)=>v12 (k:=M) (h:=A) (d:=d) G
  have C1:=λ(β:Type) (M:KO β) (A:bm) (d:Nat)=>v22 (k:=M) (h:=A) (d:=d) (yc (zj m ts.list gs.list))
  have af:=λ(β:Type) (M:KO β) (A:bm) (d:Nat)=>v23 (k:=M) (h:=A) (d:=d) G.sm (ZJ (yc (zj m ts.list gs.list)))
  have ym:=λ(β:Type) (M:KO β) (A:bm) (d:Nat)=>u15 (k:=M) (h:=A) (d:=d) l
  have ml:=qVV l.list;generalize zj m ts.list gs.list=x at *;obtain⟨a1,a2,a3,a4,a5,a6,hr⟩:=Zp x;obtain⟨c1,c2,c3,c4,c5,c6,ah⟩:=Zp (rh (yc x));rw[hr,show kA [a1,a2,a3,a4,a5,a6]=bt.v (.agg [.p a1,.p a2,.p a3,.p a4,.p a5,.p a6]) from rfl] at ab ae RO af;rw[ah,show kA [c1,c2,c3,c4,c5,c6]=bt.v (.agg [.p c1,.p c2,.p c3,.p c4,.p c5,.p c6]) from rfl] at af;rw[ah,show bp [c1,c2,c3,c4,c5,c6]=[.p c1,.p c2,.p c3,.p c4,.p c5,.p c6] from rfl] at C1;generalize qw x (rh (yc x))=same at *;generalize lX (yc x)=e at *;generalize yc x=U at *;have P6:∀ a b c d e f:Cell,dm mi 0 [a,b,c,d,e,f]=[a,b,c,d,e,f]:=λ_ _ _ _ _ _=>rfl
  have hw:=DH a ((U.length:Int)+1) bn;have ag:∀ (β:Type) (M:KO β) (A:bm) (d:Nat),bE Om (F_ 15) [kI a,kI ((U.length+1:Nat):Int)] A d M=M (kI (((cK a ((U.length:Int)+1)).toNat:Nat):Int)) A:=λβ M A d=>by
   have e:((cK a ((U.length:Int)+1)).toNat:Int)=cK a ((U.length:Int)+1):=Int.toNat_of_nonneg hw.1;have e2:((U.length+1:Nat):Int)=(U.length:Int)+1:=Int.natCast_succ _;rw[e,e2];exact j6 15 _ _ rfl (qPR a ((U.length:Int)+1) bn bn) rfl
  have hk:(cK a ((U.length:Int)+1)).toNat<=U.length:=bn
  generalize (cK a ((U.length:Int)+1)).toNat=w at *;have W1:IntKind.i64.wrap ((U.length:Int)+1)=((U.length+1:Nat):Int):=sT U.length bn;have S1:∀ (β:Type) (M:KO β) (A:bm) (d:Nat),bQ Om (.slice 0 true (.k (kS U)) none (some (.k (kI (w:Int)))) none) A d M=M (kS (U.take w)) A:=λβ M A d=>XI U w hk
  have S2:∀ (β:Type) (M:KO β) (A:bm) (d:Nat),bQ Om (.slice 0 true (.k (kS U)) (some (.k (kI (w:Int)))) none none) A d M=M (kS (U.drop w)) A:=λβ M A d=>Vc U w hk
  have l1:(U.take w).length<=U.length:=by rw[ji]; omega
  have l2:(U.drop w).length<=U.length:=by rw[j0]; omega
  generalize U.take w=t1 at *;generalize U.drop w=t2 at *;generalize DQ l.list=mx at *;have V1:∀ (β:Type) (M:KO β) (A:bm),bw .add 0 (kS t1) (kS mx) A M=M (kS (t1++mx)) A:=λβ M A=>RV _ _ bn
  have V2:∀ (β:Type) (M:KO β) (A:bm),bw .add 0 (kS (t1++mx)) (kS t2) A M=M (kS (t1++mx++t2)) A:=λβ M A=>RV _ _ (by rw[bV]; omega)
  have V3:∀ (β:Type) (M:KO β) (A:bm),bw .add 0 (kS [100,97,116,97,32,73,110,116,59]) (kS mx) A M=M (kS (SF++mx)) A:=λβ M A=>RV SF mx (by have:SF.length=9:=rfl; omega)
  have V4:∀ (β:Type) (M:KO β) (A:bm),bw .add 0 (kS U) (kS t2) A M=M (kS (U++t2)) A:=λβ M A=>RV _ _ bn
  have fin:=qQI [s,t1,t1++mx++t2,SF++mx,U++t2] rfl 0;have N2:∀ (β:Type) (M:KO β) (A:bm) (a b c d e:LB),bQ Om (.cm 1 5 [.p (.str [])] [(0,.k (kS a)),(1,.k (kS b)),(2,.k (kS c)),(3,.k (kS d)),(4,.k (kS e))] false) A 98 M=M (j7 1 true ([a,b,c,d,e].map dg)) A:=λ_ _ _ _ _ _ _ _=>qg _ _ rfl
  generalize hM:j7 1 true ([s,t1,t1++mx++t2,SF++mx,U++t2].map dg)=MP at *;have N3:∀ (β:Type) (M:KO β) (A:bm),bQ Om (.cm 1 5 [.p (.str [])] [(0,.k (kS s)),(1,.k (kS t1)),(2,.k (kS (t1++mx++t2))),(3,.k (kS (SF++mx))),(4,.k (kS (U++t2)))] false) A 98 M=M MP A:=λβ M A=>by rw[<- hM]; exact N2 β M A _ _ _ _ _
  have ad:∀ A:bm,ca tab.get S 3 0 1 [MP,kI 0] A=some (kB true,[]):=fin
  rcases R with q|q|⟨q,e2⟩
  ·subst q;simp only[bW,rA,rC,rE,rH,aa,y9,hs,ab,ae,RO,C1,P6,ag,W1,S1,S2,ym,V1,V2,V3,V4,N3,ad,cB]
  ·subst q;simp only[bW,rA,rC,rE,rH,aa,y9,hs,ab,ae,RO,C1,P6,ag,W1,S1,S2,ym,V1,V2,V3,V4,N3,ad,cB]
  ·subst q;rw[e2] at af;simp only[bW,rA,rC,rE,rH,aa,y9,hs,ab,ae,RO,C1,af,P6,ag,W1,S1,S2,ym,V1,V2,V3,V4,N3,ad,cB]
def VB:Option (List Int)->Sl Int
 |none=>.nil
 |some l=>.mk false l
def qVu(o:Option (List Int)):DX .i64 o=dI 1 wN (VB o):=by cases o <;> rfl
def yn(s:LB)(m:RW)(ts gs:Sl RW)(a:Int)(o:Option (List Int)):r8 S (ca tab.get S) 3 [kS s,kA m.row,mw ts,mw gs,kI a,.v (.c (.p (DX .i64 o)))] []=some (kB true,[]):=by
 rw[qVu];exact qRg s m ts gs a (VB o)
#print axioms yn
end Go.Proofs.YtnlmlcfipbnpgaaGreatDoor.Ab
