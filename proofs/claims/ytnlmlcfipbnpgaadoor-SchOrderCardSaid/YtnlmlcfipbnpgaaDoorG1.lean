/- The rules,the contracts,the plain laws that lead to the statement. Own work. Condition: what each theorem names. -/
import Derived.Test.YtnlmlcfipbnpgaaDoorG0
set_option linter.all false
set_option linter.unusedVariables false
set_option linter.unusedSimpArgs false
set_option linter.unusedSectionVars false
set_option maxRecDepth 100000
set_option maxHeartbeats 4000000
open Nat renaming reduceAdd->rA,reduceMul->rB,reduceLT->rC,reduceLeDiff->rD,reduceEqDiff->rE
open Int renaming reduceLT->rF,reduceLE->rG,reduceEq->rH,reduceToNat->rI
open Option renaming some.injEq->rJ,bind_eq_some_iff->rK,bind_eq_bind->rL
namespace Go.Proofs.YtnlmlcfipbnpgaaDoor.Ab
open Go Go.AI
def begM(x:Tok):Bool:=decide (x.kind=1)||(decide (x.kind=4)&&decide (x.text=[123]))
def hedM(d:Int)(L:List Tok)(s:RS):RS:=if (begM (peekM L s)&&decide (12<d))=true then failM (mustM s (begM (peekM L s))) 13 else mustM s (begM (peekM L s))
def leafT(k:Int):TT := .mk k [] .nil .nil
def zeroT:TT:=leafT 0
def angM(L:List Tok)(s:RS):RS:=mustM (takeM 4 L s [60]) (isM 4 L s [60])
def engM(L:List Tok)(s:RS):RS:=mustM (takeM 4 L s [62]) (isM 4 L s [62])
def ofM(sub:RS->TT×RS)(L:List Tok)(k:Int)(s:RS):TT×RS:=(.mk k [] .nil (.mk true [(sub (angM L s)).1]),engM L (sub (angM L s)).2)
noncomputable def wrdT(sub:RS->TT×RS)(L:List Tok)(w:List UInt8)(s:RS):TT×RS :=
 if w=wordM 1 then (leafT 1,s) else if w=wordM 2 then (leafT 2,s) else if w=wordM 3 then (leafT 3,s) else if w=wordM 8 then recdM sub L 8 s
 else if w=wordM 4 then ofM sub L 4 s else if w=wordM 5 then ofM sub L 5 s else if w=wordM 6 then ofM sub L 6 s else (.mk 9 w .nil .nil,s)
noncomputable def oneP(sub:RS->TT×RS)(d:Int)(L:List Tok)(s:RS):TT×RS :=
 if (hedM d L s).e≠0 then (zeroT,hedM d L s) else if (peekM L s).kind=4 then recdM sub L 7 (hedM d L s) else wrdT sub L (peekM L s).text (nextM (hedM d L s))
def recOK(sub:RS->TT×RS)(ok:RS->Prop)(L:List Tok)(s:RS):Prop:=rowOK sub ok L [125] (opnM L s)/\(rowM sub L [125] (opnM L s)).1.length<=1000
def wrdOK(sub:RS->TT×RS)(ok:RS->Prop)(L:List Tok)(w:List UInt8)(s:RS):Prop:=(w=wordM 8->recOK sub ok L s)/\((w=wordM 4\/w=wordM 5\/w=wordM 6)->ok (angM L s))
def oneOK(sub:RS->TT×RS)(ok:RS->Prop)(d:Int)(L:List Tok)(s:RS):Prop :=
 (hedM d L s).e=0->((peekM L s).kind=4->recOK sub ok L (hedM d L s))/\((peekM L s).kind≠4->wrdOK sub ok L (peekM L s).text (nextM (hedM d L s)))
structure OH (h:Heap) (L:List Tok) (s:RS) (x:Tok):Prop where
 g0:h.get (.im 0)=some (rO L s)
 o4:h.get (.own 4 1)=some (.cells z4 0)
 o5:h.get (.own 5 1)=some (.cells x.cells 0)
 g8:h.gen 8=0
abbrev o4P:TVal := .v (.c (.ptr (.own 4 1) 0))
abbrev o5P:TVal := .v (.c (.ptr (.own 5 1) 0))
theorem qTG(s:RS)(e:Int):(failM s e).p=s.p:=by unfold failM; split <;> rfl
theorem qIJ(d:Int)(L:List Tok)(s:RS):(hedM d L s).p=s.p:=by
 unfold hedM;split
 ·rw[qTG,qBS]
 ·rw[qBS]
theorem one0(d:Int)(L:List Tok)(s:RS):∃ h,OH h L (hedM d L s) (peekM L s)/\lim tab.get S 34 1 0 [P0,kI d] { ims:=[rO L s],owns := .nil }=lim tab.get S 34 1 1 [P0,kI d,o4P,o5P] h:=by
 have g0:∀ x:AObj,((Heap.mk [rO L s] .nil).own 4 1 x).get (.im 0)=some (rO L s):=λ_=>rfl
 have U:=λ(x:AObj) (β:Type) (k:TVal->Heap->Option β) (d:Nat)=>u55 (k:=k) (d:=d) (g0 x)
 have gn:(Heap.mk [rO L s] .nil).gen 4=0:=rfl;have gn5:(Heap.mk [rO L s] .nil).gen 5=0:=rfl;have P4:∀ a b c d:Cell,put1 zT 0 [a,b,c,d]=[a,b,c,d]:=λ_ _ _ _=>rfl
 unfold hedM begM;rw[qIL] at U;generalize hx:peekM L s=x at *;generalize hH:(((Heap.mk [rO L s] .nil).own 4 1 (.cells z4 0)).own 5 1 (.cells zT 0)).own 5 1 (.cells [.p (.int .i64 x.kind),.p (.str x.text),.p (.int .i64 x.n),.p (.int .i64 x.pos)] 0)=H;have H0:H.get (.im 0)=some (rO L s):=by rw[<- hH]; rfl
 have U39:=λ(b:Bool) (β:Type) (k:TVal->Heap->Option β) (d:Nat)=>u39 (k:=k) (d:=d) b H0
 have OHp:∀ s',OH (H.put (.im 0) (rO L s')) L s' x:=λs'=>by rw[<- hH]; exact⟨rfl,rfl,rfl,rfl⟩
 have OHp2:∀ s' s'',OH ((H.put (.im 0) (rO L s')).put (.im 0) (rO L s'')) L s'' x:=λs' s''=>by rw[<- hH]; exact⟨rfl,rfl,rfl,rfl⟩
 have g5:H.get (.own 5 1)=some (.cells [.p (.int .i64 x.kind),.p (.str x.text),.p (.int .i64 x.n),.p (.int .i64 x.pos)] 0):=by rw[<- hH]; rfl
 generalize hb:(decide (x.kind=1)||(decide (x.kind=4)&&decide (x.text=[123])))=b;have U56:=λ(s':RS) (β:Type) (k:TVal->Heap->Option β) (d:Nat)=>u56 (k:=k) (d:=d) 13 (OHp s').g0
 have GO:lim tab.get S 34 1 0 [P0,kI d] { ims:=[rO L s],owns := .nil }=(vcall Om (.v (.c (.func 39 []))) [P0,kB b] H 26 λx26 h=>vguard (kB b) true (λkk=>kk (kI d) h) h λx29 h=>vguard (kB b) true (λkk=>vbin .gtr 0 x29 (kI 12) h kk) h λx30 h=>vop Om (.pick (.k (kB b)) (.k x30) (.k (kB false))) h 31 λx31 h=>vif x31 (vcall Om (.v (.c (.func 56 []))) [P0,kI 13] h 33 λx33 h=>lim tab.get S 34 1 1 [P0,kI d,o4P,o5P] h) (lim tab.get S 34 1 1 [P0,kI d,o4P,o5P] h)):=by
  rw[w34_0,b34_0];cases h1:decide (x.kind=1) with
  |true =>
   rw[h1,Bool.true_or] at hb;subst hb;simp (maxSteps:=9999999) +contextual only[exa,rA,rB,rC,rD,rE,rF,rG,rH,rI,exW,U,gn,gn5,P4,h1,hH,g5]
  |false =>
   rw[h1,Bool.false_or] at hb;cases h4:decide (x.kind=4) with
   |true =>
    rw[h4,Bool.true_and] at hb;cases ht:decide (x.text=[123]) with
    |true =>
     rw[ht] at hb;subst hb;simp (maxSteps:=9999999) +contextual only[exa,rA,rB,rC,rD,rE,rF,rG,rH,rI,exW,U,gn,gn5,P4,h1,h4,ht,hH,g5]
    |false =>
     rw[ht] at hb;subst hb;simp (maxSteps:=9999999) +contextual only[exa,rA,rB,rC,rD,rE,rF,rG,rH,rI,exW,U,gn,gn5,P4,h1,h4,ht,hH,g5]
   |false =>
    rw[h4,Bool.false_and] at hb;subst hb;simp (maxSteps:=9999999) +contextual only[exa,rA,rB,rC,rD,rE,rF,rG,rH,rI,exW,U,gn,gn5,P4,h1,h4,hH,g5]
 cases b with
 |false =>
  refine⟨_,OHp (mustM s false),GO.trans ?_⟩;simp (maxSteps:=9999999) +contextual only[exa,rA,rB,rC,rD,rE,rF,rG,rH,rI,exW,U39]
 |true =>
  by_cases hd:12<d
  ·rw[Bool.true_and,if_pos (decide_eq_true hd)];refine⟨_,OHp2 (mustM s true) _,GO.trans ?_⟩;simp (maxSteps:=9999999) +contextual only[exa,rA,rB,rC,rD,rE,rF,rG,rH,rI,exW,U39,hd,U56]
  ·rw[Bool.true_and,if_neg (by rw[decide_eq_false hd]; decide)];refine⟨_,OHp (mustM s true),GO.trans ?_⟩;simp (maxSteps:=9999999) +contextual only[exa,rA,rB,rC,rD,rE,rF,rG,rH,rI,exW,U39,hd]
theorem qBZ(t:TT):put1 z4 0 (pcells t.row)=pcells t.row:=qBA _ _ (by rw[qAN,TT.row_len]; rfl)
theorem qC1{h:Heap}{L:List Tok}{s:RS}(t:TT)(o:AObj)(hg:h.get (.im 0)=some (rO L s)):vfin true 1 [.agg (pcells t.row)] (h.own 4 1 o)=some (kA t.row,[rO L s]) :=
 qAP true [.agg (pcells t.row)] _ (by simp only[exP]) hg (qAC L s)
theorem qIR{d:Int}{L:List Tok}{sub:RS->TT×RS}{okP:RS->Prop}(ok:SubOK d L sub okP)(hd:0<=d/\d<=100)(hL:L.length<=1000)(k:Int)(hk:k=4\/k=5\/k=6){h:Heap}{s:RS}{x:Tok}(hs:s.p<=L.length)(A:OH h L s x)(hw:x.text=wordM k)(ho:okP (angM L s)) :
  lim tab.get S 34 1 2 [P0,kI d,o4P,o5P,kI k] h=some (kA (ofM sub L k s).1.row,[rO L (ofM sub L k s).2]):=by
 have I0:I1 L s:=⟨λ_=>hs,by omega⟩;have Ia:I1 L (angM L s):=qEa _ (qEj (by decide) I0).1;have c34:=ok.one _ Ia ho;obtain⟨Ib,_⟩:=ok.inv _ Ia;unfold ofM;have U41:=λ(β:Type) (kk:TVal->Heap->Option β) (d:Nat)=>u41 (k:=kk) (d:=d) (by omega:s.p<=1000000) [60] A.g0
 generalize hh1:h.put (.im 0) (rO L (takeM 4 L s [60]))=h1 at U41;have G1:h1.get (.im 0)=some (rO L (takeM 4 L s [60])):=by rw[<- hh1]; exact Heap.zput_self A.g0 (λe=>by cases e)
 have U39:=λ(β:Type) (kk:TVal->Heap->Option β) (d:Nat)=>u39 (k:=kk) (d:=d) (isM 4 L s [60]) G1
 rw[show mustM (takeM 4 L s [60]) (isM 4 L s [60])=angM L s from rfl] at U39;generalize hh2:h1.put (.im 0) (rO L (angM L s))=h2 at U39;have G2:h2.get (.im 0)=some (rO L (angM L s)):=by rw[<- hh2]; exact Heap.zput_self G1 (λe=>by cases e)
 have ed:IntKind.i64.wrap (d+1)=d+1:=qAL _ (by omega) (by omega);generalize hr:sub (angM L s)=r at *;have U34:∀ (β:Type) (kk:TVal->Heap->Option β) (e:Nat),vcall Om (.v (.c (.func 34 []))) [P0,kI (d+1)] h2 e kk=kk (kA r.1.row) (h2.put (.im 0) (rO L r.2)):=λβ kk e =>
  qAU 34 (.im 0) 0 [] [kI (d+1)] _ _ _ rfl rfl G2 (qAC L _) (qAC L _) (by simp only[exP]) c34
 generalize hh3:h2.put (.im 0) (rO L r.2)=h3 at U34;have G3:h3.get (.im 0)=some (rO L r.2):=by rw[<- hh3]; exact Heap.zput_self G2 (λe=>by cases e)
 have Z3:∀ dd g,h3.get (.own dd g)=h.get (.own dd g):=λdd g=>by rw[<- hh3,<- hh2,<- hh1]; rfl
 have gn3:h3.gen 8=0:=by rw[<- hh3,<- hh2,<- hh1]; exact A.g8
 obtain⟨a1,a2,a3,a4,hrow⟩:∃ a1 a2 a3 a4,r.1.row=[a1,a2,a3,a4]:=by cases r.1; exact⟨_,_,_,_,rfl⟩
 have pr:pcells r.1.row=[.p a1,.p a2,.p a3,.p a4]:=by rw[hrow]; rfl
 generalize hh4:(h3.own 8 1 (.cells z4 0)).own 8 1 (.cells (pcells r.1.row) 0)=h4;have G4:h4.get (.im 0)=some (rO L r.2):=by rw[<- hh4]; exact G3
 have o8:h4.get (.own 8 1)=some (.cells (pcells r.1.row) 0):=by rw[<- hh4]; exact Heap.own_get _ _ _ _ (by decide) (λe=>by cases e)
 have o44:h4.get (.own 4 1)=some (.cells z4 0):=by rw[<- hh4]; exact(Heap.own_get_ne _ 8 _ _ 4 1 (by decide)).trans ((Heap.own_get_ne _ 8 _ _ 4 1 (by decide)).trans ((Z3 4 1).trans A.o4))
 have hp2:r.2.p<=1000000:=by have:=Ib.2; omega
 have V41:=λ(β:Type) (kk:TVal->Heap->Option β) (d:Nat)=>u41 (k:=kk) (d:=d) hp2 [62] G4
 generalize hh5:h4.put (.im 0) (rO L (takeM 4 L r.2 [62]))=h5 at V41;have G5:h5.get (.im 0)=some (rO L (takeM 4 L r.2 [62])):=by rw[<- hh5]; exact Heap.zput_self G4 (λe=>by cases e)
 have V39:=λ(β:Type) (kk:TVal->Heap->Option β) (d:Nat)=>u39 (k:=kk) (d:=d) (isM 4 L r.2 [62]) G5
 rw[show mustM (takeM 4 L r.2 [62]) (isM 4 L r.2 [62])=engM L r.2 from rfl] at V39;generalize hh6:h5.put (.im 0) (rO L (engM L r.2))=h6 at V39;have G6:h6.get (.im 0)=some (rO L (engM L r.2)):=by rw[<- hh6]; exact Heap.zput_self G5 (λe=>by cases e)
 have o86:h6.get (.own 8 1)=some (.cells (pcells r.1.row) 0):=by rw[<- hh6,<- hh5]; exact o8
 have o46:h6.get (.own 4 1)=some (.cells z4 0):=by rw[<- hh6,<- hh5]; exact o44
 have o5x:h.get (.own 5 1)=some (.cells [.p (.int .i64 x.kind),.p (.str x.text),.p (.int .i64 x.n),.p (.int .i64 x.pos)] 0):=A.o5;have k6:¬ (6:Int)<k:=by omega
 have B1:∀ (β:Type) (kk:TVal->Heap->Option β) (hh:Heap),vop Om (.bslice 4 1 z4 [(0,.k (kA r.1.row))] false) hh 96 kk=kk (kSl 4 true [r.1.row]) hh:=λβ kk hh=>by rw[hrow]; exact qAx _ _ rfl
 have B2:∀ (β:Type) (kk:TVal->Heap->Option β) (hh:Heap),vop Om (.build z4 [(0,1,.k (kI k)),(3,1,.k (kSl 4 true [r.1.row]))]) hh 97 kk=kk (kA (TT.mk k [] .nil (.mk true [r.1])).row) hh:=λ_ _ _=>rfl
 have L4:(pcells r.1.row).length=4:=by rw[qAN,TT.row_len]
 have T4:(pcells r.1.row).take 4=pcells r.1.row:=List.take_of_length_le (by omega);have Pz:=qBZ r.1;have Pk:=qBZ (TT.mk k [] .nil (.mk true [r.1]));have Lk:(pcells (TT.mk k [] .nil (.mk true [r.1])).row).length=4:=by rw[qAN,TT.row_len]
 have Tk:(pcells (TT.mk k [] .nil (.mk true [r.1])).row).take 4=pcells (TT.mk k [] .nil (.mk true [r.1])).row:=List.take_of_length_le (by omega);have fin:=qC1 (TT.mk k [] .nil (.mk true [r.1])) (.cells (pcells (TT.mk k [] .nil (.mk true [r.1])).row) 0) G6;rw[w34_2,b34_2];simp (maxSteps:=9999999) +contextual only[exa,rA,rB,rC,rD,rE,rF,rG,rH,rI,exW,exY,k6,o5x,y32,hw,U41,U39,ed,U34,gn3,hh4,V41,V39,o86,o46,B1,B2,L4,T4,Pz,Pk,Lk,Tk,fin]
theorem qFg{d:Int}{L:List Tok}(k:Int)(hk:k=4\/k=5\/k=6){h:Heap}{s:RS}{x:Tok}(A:OH h L s x)(hw:x.text≠wordM k) :
  lim tab.get S 34 1 2 [P0,kI d,o4P,o5P,kI k] h=lim tab.get S 34 1 2 [P0,kI d,o4P,o5P,kI (k+1)] h:=by
 have o5x:h.get (.own 5 1)=some (.cells [.p (.int .i64 x.kind),.p (.str x.text),.p (.int .i64 x.n),.p (.int .i64 x.pos)] 0):=A.o5;have k6:¬ (6:Int)<k:=by omega
 have ew:IntKind.i64.wrap (k+1)=k+1:=qAL _ (by omega) (by omega)
 conv=>lhs; rw[w34_2,b34_2]
 simp (maxSteps:=9999999) +contextual only[exa,rA,rB,rC,rD,rE,rF,rG,rH,rI,exW,exY,k6,o5x,y32,hw,ew]
theorem qPL{d:Int}{L:List Tok}{h:Heap}{s:RS}{x:Tok}(A:OH h L s x) :
  lim tab.get S 34 1 2 [P0,kI d,o4P,o5P,kI 7] h=some (kA (TT.mk 9 x.text .nil .nil).row,[rO L s]):=by
 have o5x:h.get (.own 5 1)=some (.cells [.p (.int .i64 x.kind),.p (.str x.text),.p (.int .i64 x.n),.p (.int .i64 x.pos)] 0):=A.o5;have B2:∀ (β:Type) (kk:TVal->Heap->Option β) (hh:Heap),vop Om (.build z4 [(0,1,.k (kI 9)),(1,1,.k (kS x.text))]) hh 100 kk=kk (kA (TT.mk 9 x.text .nil .nil).row) hh:=λ_ _ _=>rfl
 have Pk:=qBZ (TT.mk 9 x.text .nil .nil);have Lk:(pcells (TT.mk 9 x.text .nil .nil).row).length=4:=by rw[qAN,TT.row_len]
 have Tk:(pcells (TT.mk 9 x.text .nil .nil).row).take 4=pcells (TT.mk 9 x.text .nil .nil).row:=List.take_of_length_le (by omega);have fin:=qC1 (TT.mk 9 x.text .nil .nil) (.cells (pcells (TT.mk 9 x.text .nil .nil).row) 0) A.g0;rw[w34_2,b34_2];simp (maxSteps:=9999999) +contextual only[exa,rA,rB,rC,rD,rE,rF,rG,rH,rI,exW,exY];rw[w34_3,b34_3];simp (maxSteps:=9999999) +contextual only[exa,rA,rB,rC,rD,rE,rF,rG,rH,rI,exW,exY,o5x,A.o4,B2,Pk,Lk,Tk,fin]
theorem qRD{d:Int}{L:List Tok}{sub:RS->TT×RS}{okP:RS->Prop}(ok:SubOK d L sub okP)(hd:0<=d/\d<=100)(hL:L.length<=1000){h:Heap}{s:RS}{x:Tok}(hs:s.p<=L.length)(A:OH h L s x)(ho:(x.text=wordM 4\/x.text=wordM 5\/x.text=wordM 6)->okP (angM L s)) :
  lim tab.get S 34 1 2 [P0,kI d,o4P,o5P,kI 4] h=some (kA (if x.text=wordM 4 then ofM sub L 4 s else if x.text=wordM 5 then ofM sub L 5 s else if x.text=wordM 6 then ofM sub L 6 s else (.mk 9 x.text .nil .nil,s)).1.row,[rO L (if x.text=wordM 4 then ofM sub L 4 s else if x.text=wordM 5 then ofM sub L 5 s else if x.text=wordM 6 then ofM sub L 6 s else (.mk 9 x.text .nil .nil,s)).2]):=by
 by_cases h4:x.text=wordM 4
 ·rw[if_pos h4]; exact qIR ok hd hL 4 (.inl rfl) hs A h4 (ho (.inl h4))
 ·rw[if_neg h4,qFg 4 (.inl rfl) A h4];by_cases h5:x.text=wordM 5
  ·rw[if_pos h5]; exact qIR ok hd hL 5 (.inr (.inl rfl)) hs A h5 (ho (.inr (.inl h5)))
  ·rw[if_neg h5];refine(qFg 5 (.inr (.inl rfl)) A h5).trans ?_;by_cases h6:x.text=wordM 6
   ·rw[if_pos h6]; exact qIR ok hd hL 6 (.inr (.inr rfl)) hs A h6 (ho (.inr (.inr h6)))
   ·rw[if_neg h6];refine(qFg 6 (.inr (.inr rfl)) A h6).trans ?_;exact qPL A
theorem one1{d:Int}{L:List Tok}{sub:RS->TT×RS}{okP:RS->Prop}(ok:SubOK d L sub okP)(hd:0<=d/\d<=100)(hL:L.length<=1000){h:Heap}{s:RS}{x:Tok}(A:OH h L s x)(he:s.e=0)(hs:s.p<=L.length)(hs1:x.kind≠4->s.p+1<=L.length)(o4:x.kind=4->recOK sub okP L s)(ow:x.kind≠4->wrdOK sub okP L x.text (nextM s)) :
  lim tab.get S 34 1 1 [P0,kI d,o4P,o5P] h=some (kA (if x.kind=4 then recdM sub L 7 s else wrdT sub L x.text (nextM s)).1.row,[rO L (if x.kind=4 then recdM sub L 7 s else wrdT sub L x.text (nextM s)).2]):=by
 have o5x:h.get (.own 5 1)=some (.cells [.p (.int .i64 x.kind),.p (.str x.text),.p (.int .i64 x.n),.p (.int .i64 x.pos)] 0):=A.o5;have z5':∀ t:TT,(pcells t.row).length=4:=λt=>by rw[qAN,TT.row_len]
 have Tz:∀ t:TT,(pcells t.row).take 4=pcells t.row:=λt=>List.take_of_length_le (by rw[z5']; exact Nat.le_refl _)
 have R57:∀ (kd:Int) (s':RS) (h':Heap),h'.get (.im 0)=some (rO L s')->s'.p<=L.length->recOK sub okP L s'->∀ (β:Type) (kk:TVal->Heap->Option β) (e:Nat),vcall Om (.v (.c (.func 57 []))) [P0,kI kd,kI d] h' e kk=kk (kA (recdM sub L kd s').1.row) (h'.put (.im 0) (rO L (recdM sub L kd s').2)):=λkd s' h' hg hp ro β kk e =>
  qAU 57 (.im 0) 0 [] [kI kd,kI d] _ _ _ rfl rfl hg (qAC L _) (qAC L _) (by simp only[exP]) (qTr ok hd hL kd s' hp ro.1 ro.2)
 rw[w34_1,b34_1];cases hk4:decide (x.kind=4) with
 |true =>
  have h4:=of_decide_eq_true hk4;rw[if_pos h4];have U:=R57 7 s h A.g0 hs (o4 h4);generalize recdM sub L 7 s=r at *;have G1:(h.put (.im 0) (rO L r.2)).get (.im 0)=some (rO L r.2):=Heap.zput_self A.g0 (λe=>by cases e);have fin:=qC1 r.1 (.cells (pcells r.1.row) 0) G1;have Pk:=qBZ r.1;have Lk:=z5' r.1;have Tk:=Tz r.1;simp (maxSteps:=9999999) +contextual only[exa,rA,rB,rC,rD,rE,rF,rG,rH,rI,exW,exY,A.g0,he,o5x,hk4,U,A.o4,Pk,Lk,Tk,fin]
 |false =>
  have h4:=of_decide_eq_false hk4;rw[if_neg h4];have hsp:=hs1 h4;have w1:IntKind.i64.wrap ((s.p:Int)+1)=((s.p+1:Nat):Int):=by rw[qAL _ (by omega) (by omega)]; omega
  have P1:∀ (a b c e y:Cell),put1 [a,b,c,e] 1 [y]=[a,y,c,e]:=λ_ _ _ _ _=>rfl
  generalize hh1:h.put (.im 0) (rO L (nextM s))=h1;have hh1':h.put (.im 0) (.cells [.p (tksP L),.p (.int .i64 ((s.p+1:Nat):Int)),.p (.int .i64 0),.p (.bool s.tw)] 0)=h1:=by rw[<- he]; exact hh1
  have B:OH h1 L (nextM s) x:=by
   rw[<- hh1];exact⟨Heap.zput_self A.g0 (λe=>by cases e),A.o4,A.o5,A.g8⟩
  have b5x:h1.get (.own 5 1)=some (.cells [.p (.int .i64 x.kind),.p (.str x.text),.p (.int .i64 x.n),.p (.int .i64 x.pos)] 0):=B.o5;obtain⟨ow1,ow2⟩:=ow h4;have LF:∀ k:Int,∀ (β:Type) (kk:TVal->Heap->Option β) (hh:Heap) (dd:Nat),vop Om (.build z4 [(0,1,.k (kI k))]) hh dd kk=kk (kA (leafT k).row) hh:=λ_ _ _ _ _=>rfl
  have fin:=λk=>qC1 (leafT k) (.cells (pcells (leafT k).row) 0) B.g0
  have Pl:=λk=>qBZ (leafT k)
  have Ll:=λk=>z5' (leafT k)
  have Tl:=λk=>Tz (leafT k)
  unfold wrdT;cases q1:decide (x.text=wordM 1) with
  |true =>
   rw[if_pos (of_decide_eq_true q1)];simp (maxSteps:=9999999) +contextual only[exa,rA,rB,rC,rD,rE,rF,rG,rH,rI,exW,exY,A.g0,he,o5x,hk4,w1,P1,hh1',b5x,u32,q1,LF,A.o4,B.o4,Pl,Ll,Tl,fin]
  |false =>
   rw[if_neg (of_decide_eq_false q1)];cases q2:decide (x.text=wordM 2) with
   |true =>
    rw[if_pos (of_decide_eq_true q2)];simp (maxSteps:=9999999) +contextual only[exa,rA,rB,rC,rD,rE,rF,rG,rH,rI,exW,exY,A.g0,he,o5x,hk4,w1,P1,hh1',b5x,u32,q1,q2,LF,A.o4,B.o4,Pl,Ll,Tl,fin]
   |false =>
    rw[if_neg (of_decide_eq_false q2)];cases q3:decide (x.text=wordM 3) with
    |true =>
     rw[if_pos (of_decide_eq_true q3)];simp (maxSteps:=9999999) +contextual only[exa,rA,rB,rC,rD,rE,rF,rG,rH,rI,exW,exY,A.g0,he,o5x,hk4,w1,P1,hh1',b5x,u32,q1,q2,q3,LF,A.o4,B.o4,Pl,Ll,Tl,fin]
    |false =>
     rw[if_neg (of_decide_eq_false q3)];cases q8:decide (x.text=wordM 8) with
     |true =>
      rw[if_pos (of_decide_eq_true q8)];have U:=R57 8 (nextM s) h1 B.g0 hsp (ow1 (of_decide_eq_true q8));generalize recdM sub L 8 (nextM s)=r at *;have G1:(h1.put (.im 0) (rO L r.2)).get (.im 0)=some (rO L r.2):=Heap.zput_self B.g0 (λe=>by cases e);have finr:=qC1 r.1 (.cells (pcells r.1.row) 0) G1;have Pk:=qBZ r.1;have Lk:=z5' r.1;have Tk:=Tz r.1;simp (maxSteps:=9999999) +contextual only[exa,rA,rB,rC,rD,rE,rF,rG,rH,rI,exW,exY,A.g0,he,o5x,hk4,w1,P1,hh1',b5x,u32,q1,q2,q3,q8,LF,A.o4,B.o4,Pl,Ll,Tl,U,Pk,Lk,Tk,finr]
     |false =>
      rw[if_neg (of_decide_eq_false q8)];refine Eq.trans ?_ (qRD ok hd hL hsp B ow2);simp (maxSteps:=9999999) +contextual only[exa,rA,rB,rC,rD,rE,rF,rG,rH,rI,exW,exY,A.g0,he,o5x,hk4,w1,P1,hh1',b5x,u32,q1,q2,q3,q8,LF,A.o4,B.o4,Pl,Ll,Tl,fin]
theorem qHO{s:RS}{b:Bool}(h:(mustM s b).e=0):b=true/\s.e=0:=by
 unfold mustM at h;split at h
 ·rename_i hb; exact⟨hb,h⟩
 ·exact absurd h (qGU _ _ (by decide))
theorem qGq{d:Int}{L:List Tok}{s:RS}(h:(hedM d L s).e=0):hedM d L s=s/\begM (peekM L s)=true/\s.e=0/\d<=12:=by
 unfold hedM at h ⊢;split at h
 ·exact absurd h (qGU _ _ (by decide))
 ·rename_i hb;obtain⟨h1,h2⟩:=qHO h;rw[if_neg hb];refine⟨by rw[h1]; rfl,h1,h2,?_⟩;rw[h1,Bool.true_and,decide_eq_true_eq] at hb;omega
theorem qT2{d:Int}{L:List Tok}{sub:RS->TT×RS}{okP:RS->Prop}(ok:SubOK d L sub okP)(hd:0<=d/\d<=100)(hL:L.length<=1000)(s:RS)(I:I1 L s)(o:oneOK sub okP d L s) :
  Om 34 [P0,kI d] [rO L s]=some (kA (oneP sub d L s).1.row,[rO L (oneP sub d L s).2]):=by
 refine(qAD rfl).trans ?_;show lim tab.get S 34 1 0 [P0,kI d] { ims:=[rO L s],owns := .nil }=_;obtain⟨h,A,e⟩:=one0 d L s;rw[e];unfold oneP;by_cases he:(hedM d L s).e=0
 ·obtain⟨h1,h2,h3,h4⟩:=qGq he;obtain⟨o1,o2⟩:=o he;rw[if_neg (λh=>h he)];have hp:=I.1 h3;have hsp:(peekM L s).kind≠4->(hedM d L s).p+1<=L.length:=λhk=>by
   rw[qIJ];unfold begM at h2;rw[decide_eq_false hk,Bool.false_and,Bool.or_false,decide_eq_true_eq] at h2;exact(qCo (by rw[h2]; decide)).2
  exact one1 ok hd hL A he (by rw[qIJ]; exact hp) hsp o1 o2
 ·rw[if_pos he];have o5x:h.get (.own 5 1)=some (.cells [.p (.int .i64 (peekM L s).kind),.p (.str (peekM L s).text),.p (.int .i64 (peekM L s).n),.p (.int .i64 (peekM L s).pos)] 0):=A.o5;have LF:∀ (β:Type) (kk:TVal->Heap->Option β) (hh:Heap),vop Om (.build z4 []) hh 39 kk=kk (kA zeroT.row) hh:=λ_ _ _=>rfl
  have fin:=qC1 zeroT (.cells (pcells zeroT.row) 0) A.g0;have Pl:=qBZ zeroT;have Ll:(pcells zeroT.row).length=4:=rfl;have Tl:(pcells zeroT.row).take 4=pcells zeroT.row:=rfl;have A0:=A.g0;generalize hedM d L s=s2 at *;rw[w34_1,b34_1];simp (maxSteps:=9999999) +contextual only[exa,rA,rB,rC,rD,rE,rF,rG,rH,rI,exW,exY,A0,he,LF,A.o4,Pl,Ll,Tl,fin]
def Inv(L:List Tok)(sub:RS->TT×RS):Prop:=∀ s,I1 L s->I1 L (sub s).2/\s.p<=(sub s).2.p
theorem qCN{L:List Tok}{sub:RS->TT×RS}(inv:Inv L sub){s:RS}(h:s.p<=L.length):I1 L (fieldM sub L s).2/\s.p<=(fieldM sub L s).2.p:=by
 obtain⟨h1,h2⟩:=qGS h;obtain⟨h3,h4⟩:=inv _ h1;exact⟨h3,by show s.p<=(sub (colM L s)).2.p; omega⟩
theorem qAg{L:List Tok}{s:RS}(x:List UInt8)(h:I1 L s):I1 L (mustM (takeM 4 L s x) (isM 4 L s x))/\s.p<=(mustM (takeM 4 L s x) (isM 4 L s x)).p:=by
 obtain⟨h1,h2⟩:=qEj (k:=4) (x:=x) (by decide) h;exact⟨qEa _ h1,by rw[qBS]; exact h2⟩
theorem qJB{L:List Tok}{sub:RS->TT×RS}(inv:Inv L sub)(x:List UInt8):∀ (f:Nat) (s:RS) (acc:Es),I1 L s->I1 L (loopM sub L x f s acc).2/\s.p<=(loopM sub L x f s acc).2.p
 |0,s,acc,h=>⟨h,Nat.le_refl _⟩
 |f+1,s,acc,h=>by
  unfold loopM;split
  ·rename_i hi;have hl:=(qBC (by decide) hi).2;have hn:(nextM s).p<=L.length:=hl;obtain⟨h1,h2⟩:=qCN inv hn;obtain⟨h3,h4⟩:=qJB inv x f _ (acc++[(fieldM sub L (nextM s)).1]) h1;refine⟨h3,?_⟩;have:(nextM s).p=s.p+1:=rfl;omega
  ·exact qAg x h
theorem qQn{L:List Tok}{sub:RS->TT×RS}(inv:Inv L sub)(x:List UInt8){s:RS}(h:s.p<=L.length):I1 L (rowM sub L x s).2/\s.p<=(rowM sub L x s).2.p:=by
 unfold rowM;split
 ·rename_i hi;have hl:=(qBC (by decide) hi).2;exact⟨⟨λ_=>hl,by show s.p+1<=_; omega⟩,by show s.p<=s.p+1; omega⟩
 ·obtain⟨h1,h2⟩:=qCN inv h;obtain⟨h3,h4⟩:=qJB inv x (L.length+2) _ [(fieldM sub L s).1] h1;exact⟨h3,by omega⟩
theorem qSt{L:List Tok}{s:RS}:s.p<=(opnM L s).p:=by
 unfold opnM;rw[qBS];unfold takeM;split
 ·show s.p<=s.p+1; omega
 ·exact Nat.le_refl _
theorem qKL{L:List Tok}{sub:RS->TT×RS}(inv:Inv L sub)(kd:Int){s:RS}(h:s.p<=L.length):I1 L (recdM sub L kd s).2/\s.p<=(recdM sub L kd s).2.p:=by
 obtain⟨h1,h2⟩:=qQn inv [125] (qGw h);have h3:=qSt (L:=L) (s:=s);exact⟨⟨h1.1,h1.2⟩,by show s.p<=(rowM sub L [125] (opnM L s)).2.p; omega⟩
theorem qJV{L:List Tok}{sub:RS->TT×RS}(inv:Inv L sub)(k:Int){s:RS}(h:s.p<=L.length):I1 L (ofM sub L k s).2/\s.p<=(ofM sub L k s).2.p:=by
 obtain⟨h1,h2⟩:=qAg (L:=L) (s:=s) [60] ⟨λ_=>h,by omega⟩;obtain⟨h3,h4⟩:=inv _ h1;obtain⟨h5,h6⟩:=qAg [62] h3
 exact⟨h5,by
  show s.p<=(mustM (takeM 4 L (sub (angM L s)).2 [62]) (isM 4 L (sub (angM L s)).2 [62])).p;have h2':s.p<=(angM L s).p:=h2;have h4':(angM L s).p<=(sub (angM L s)).2.p:=h4;have h6':(sub (angM L s)).2.p<=(mustM (takeM 4 L (sub (angM L s)).2 [62]) (isM 4 L (sub (angM L s)).2 [62])).p:=h6
  omega⟩
theorem qSF{L:List Tok}{sub:RS->TT×RS}(inv:Inv L sub)(w:List UInt8){s:RS}(h:s.p<=L.length):I1 L (wrdT sub L w s).2/\s.p<=(wrdT sub L w s).2.p:=by
 have me:I1 L s/\s.p<=s.p:=⟨⟨λ_=>h,by omega⟩,Nat.le_refl _⟩;unfold wrdT;split
 ·exact me
 split
 ·exact me
 split
 ·exact me
 split
 ·exact qKL inv 8 h
 split
 ·exact qJV inv 4 h
 split
 ·exact qJV inv 5 h
 split
 ·exact qJV inv 6 h
 ·exact me
theorem qRK{L:List Tok}{sub:RS->TT×RS}(inv:Inv L sub)(d:Int):Inv L (oneP sub d L):=by
 intro s I;unfold oneP;by_cases he:(hedM d L s).e=0
 ·obtain⟨h1,h2,h3,h4⟩:=qGq he;rw[if_neg (λh=>h he),h1];have hp:=I.1 h3;by_cases hk:(peekM L s).kind=4
  ·rw[if_pos hk]; exact qKL inv 7 hp
  ·rw[if_neg hk];unfold begM at h2;rw[decide_eq_false hk,Bool.false_and,Bool.or_false,decide_eq_true_eq] at h2;have hl:=(qCo (L:=L) (s:=s) (by rw[h2]; decide)).2;obtain⟨h5,h6⟩:=qSF inv (peekM L s).text (s:=nextM s) (by show s.p+1<=_; omega);have:(nextM s).p=s.p+1:=rfl;exact⟨h5,by omega⟩
 ·rw[if_pos he];refine⟨⟨λh=>absurd h he,by rw[qIJ]; exact I.2⟩,by rw[qIJ]; exact Nat.le_refl _⟩
noncomputable def oneF(L:List Tok):Nat->Int->RS->TT×RS
 |0,_=>λs=>(zeroT,s)
 |n+1,d=>oneP (oneF L n (d+1)) d L
def okF(L:List Tok):Nat->Int->RS->Prop
 |0,_=>λ_=>False
 |n+1,d=>oneOK (oneF L n (d+1)) (okF L n (d+1)) d L
theorem qDF(L:List Tok):∀ (n:Nat) (d:Int),Inv L (oneF L n d)
 |0,d=>λs I=>⟨I,Nat.le_refl _⟩
 |n+1,d=>qRK (qDF L n (d+1)) d
theorem qHD{L:List Tok}(hL:L.length<=1000):∀ (n:Nat) (d:Int),0<=d->d+n<=100->∀ s,I1 L s->okF L n d s->Om 34 [P0,kI d] [rO L s]=some (kA (oneF L n d s).1.row,[rO L (oneF L n d s).2])
 |0,d,_,_,s,I,o=>o.elim
 |n+1,d,h0,h1,s,I,o =>
  qT2 (sub:=oneF L n (d+1)) (okP:=okF L n (d+1)) ⟨λs I o=>qHD hL n (d+1) (by omega) (by omega) s I o,qDF L n (d+1)⟩ ⟨h0,by omega⟩ hL s I o
def wordsM(src:List UInt8):List Tok×Int:=match tokensM src with
 |.error e=>([],e)
 |.ok l=>(l,0)
theorem qHW(src:List UInt8):toksVal (tokensM src) = .tup [.c (.p (tksP (wordsM src).1)),.c (.p (.int .i64 (wordsM src).2))]:=by
 unfold wordsM;cases tokensM src <;> rfl
abbrev s0M(src:List UInt8):RS:=⟨0,(wordsM src).2,false⟩
theorem qFe(L:List Tok)(s:RS):Rooted [rO L s]:=Star.rooted ⟨(qAC L s).1,(λe=>by cases e),(λo ho=>by cases ho),by decide⟩
theorem qOS(src:List UInt8):Om 33 [kS src] []=some (.v (.c (.ptr (.im 0) 0)),[rO (wordsM src).1 (s0M src)]):=by
 refine(qAD rfl).trans ?_;show lim tab.get S 33 0 0 [kS src] h0=some (_,[rO (wordsM src).1 ⟨0,(wordsM src).2,false⟩]);have c:=λ{β:Type} {k:TVal->Heap->Option β} {h:Heap} {d:Nat}=>qAH (O:=Om) (k:=k) (h:=h) (d:=d) 54 [kS src] _ rfl (qOC src) (by rw[qHW]; rfl)
 rw[qHW] at c;rw[w33_0,b33_0];generalize (wordsM src).1=L at *;generalize (wordsM src).2=e at *;simp (maxSteps:=9999999) +contextual only[exa,rA,rB,rC,rD,rE,rF,rG,rH,rI,exW,c];have A:At (h0.own 13 1 (rO L ⟨0,e,false⟩)) [.own 13 1] [rO L ⟨0,e,false⟩]:=by
  refine⟨by simp,rfl,λi r o e1 e2 => ?_⟩
  match i with
  |0 =>
   cases e1; cases e2;rw[(qAC L _).2];exact Heap.own_get _ 13 1 _ (by decide) (λe=>by cases e)
  |i+1=>simp at e1
 exact qQy A (qFe L _) rfl false [.c (.ptr (.own 13 1) 0)] _ rfl rfl
theorem qE0(src:List UInt8):(wordsM src).1.length<=400:=by
 unfold wordsM;cases ht:tokensM src with
 |error e=>simp
 |ok l =>
  show l.length<=400;unfold tokensM at ht;split at ht
  ·cases ht
  ·unfold toksFin at ht;split at ht
   ·cases ht
   ·split at ht
    ·cases ht
    ·cases ht; omega
noncomputable def typeR(src:List UInt8):TT×RS:=oneF (wordsM src).1 13 1 (s0M src)
noncomputable def typeE(src:List UInt8):Int:=errM (endM (wordsM src).1 (typeR src).2)
noncomputable def typeM(src:List UInt8):TT:=if typeE src=0 then (typeR src).1 else zeroT
def typeOK(src:List UInt8):Prop:=okF (wordsM src).1 13 1 (s0M src)
theorem qTK(src:List UInt8)(ok:typeOK src):Om 16 [kS src] []=some (.tup [.agg (pcells (typeM src).row),.c (.p (.int .i64 (typeE src)))],[]):=by
 have hl:=qE0 src;have c34:=qHD (L:=(wordsM src).1) (by omega) 13 1 (by decide) (by decide) (s0M src) ⟨λ_=>Nat.zero_le _,Nat.zero_le _⟩ ok;refine(qAD rfl).trans ?_;show lim tab.get S 16 0 0 [kS src] h0=_;obtain⟨h1,c33,A1,K1,G1,L1⟩:=qIw (O:=Om) (show allB pT [kS src]=true from rfl) (qOS src) (qFe _ _).1 (h0.own 2 1 (.cells z4 0));have e0:(TVal.v (.c (.ptr (.im 0) 0))).ren (back [] [rO (wordsM src).1 (s0M src)].length (newRef (h0.own 2 1 (.cells z4 0)).ims.length))=P0:=rfl;rw[e0] at c33;have g0:h1.get (.im 0)=some (rO (wordsM src).1 (s0M src)):=by
  have:=A1.get 0 (.im 0) _ rfl rfl;rw[(qAC _ _).2] at this;exact this
 have o2:h1.get (.own 2 1)=some (.cells z4 0):=K1 _ _ (Heap.own_get _ 2 1 _ (by decide) (λe=>by cases e));have gn5:h1.gen 5=0:=(G1 5).trans rfl;unfold typeM typeE typeR;generalize (wordsM src).1=L at *;generalize s0M src=s at *;generalize oneF L 13 1 s=r at *;have U34:∀ (β:Type) (kk:TVal->Heap->Option β) (e:Nat),vcall Om (.v (.c (.func 34 []))) [P0,kI 1] h1 e kk=kk (kA r.1.row) (h1.put (.im 0) (rO L r.2)):=λβ kk e =>
  qAU 34 (.im 0) 0 [] [kI 1] _ _ _ rfl rfl g0 (qAC L _) (qAC L _) (by simp only[exP]) c34
 generalize hh2:h1.put (.im 0) (rO L r.2)=h2 at U34;have g2:h2.get (.im 0)=some (rO L r.2):=by rw[<- hh2]; exact Heap.zput_self g0 (λe=>by cases e)
 generalize hh3:(h2.own 5 1 (.cells z4 0)).own 5 1 (.cells (pcells r.1.row) 0)=h3;have g3:h3.get (.im 0)=some (rO L r.2):=by rw[<- hh3]; exact g2
 have gn52:h2.gen 5=0:=by rw[<- hh2]; exact gn5
 have o53:h3.get (.own 5 1)=some (.cells (pcells r.1.row) 0):=by rw[<- hh3]; exact Heap.own_get _ _ _ _ (by decide) (λe=>by cases e)
 have o23:h3.get (.own 2 1)=some (.cells z4 0):=by rw[<- hh3,<- hh2]; exact(Heap.own_get_ne _ 5 _ _ 2 1 (by decide)).trans ((Heap.own_get_ne _ 5 _ _ 2 1 (by decide)).trans o2)
 have U35:=λ(β:Type) (kk:TVal->Heap->Option β) (e:Nat)=>u35 (k:=kk) (d:=e) g3
 have BZ:∀ (β:Type) (kk:TVal->Heap->Option β) (hh:Heap),vop Om (.build z4 []) hh 15 kk=kk (kA zeroT.row) hh:=λ_ _ _=>rfl
 have z5':∀ t:TT,(pcells t.row).length=4:=λt=>by rw[qAN,TT.row_len]
 have Tz:∀ t:TT,(pcells t.row).take 4=pcells t.row:=λt=>List.take_of_length_le (by rw[z5']; exact Nat.le_refl _)
 have P1:=qBZ r.1;have P0':=qBZ zeroT;have L1':=z5' r.1;have L0':=z5' zeroT;have T1:=Tz r.1;have T0:=Tz zeroT;have fz:∀ (t:TT) (e:Int) (h:Heap),vfin true 0 [.agg (pcells t.row),.c (.p (.int .i64 e))] h=some (.tup [.agg (pcells t.row),.c (.p (.int .i64 e))],[]):=λt e h=>qAJ _ _ (by simp only[exP])
 have gn2:(h0.own 2 1 (.cells z4 0)).gen 2=1:=rfl;rw[w16_0,b16_0];by_cases he:errM (endM L r.2)=0
 ·rw[if_pos he];simp (maxSteps:=9999999) +contextual only[exa,rA,rB,rC,rD,rE,rF,rG,rH,rI,exW,c33,U34,gn52,hh3,U35,he,o53,o23,P1,L1',T1,fz]
 ·rw[if_neg he];simp (maxSteps:=9999999) +contextual only[exa,rA,rB,rC,rD,rE,rF,rG,rH,rI,exW,c33,U34,gn52,hh3,U35,he,o53,o23,BZ,P0',L0',T0,fz]
def sepM(x:List UInt8)(L:List Tok)(s:RS):RS:=mustM (takeM 4 L (nmS1 L s) x) (isM 4 L (nmS1 L s) x)
theorem qRt(L:List Tok)(s:RS)(v:TT)(s':RS)(hp:s.p<=900000)(e1:Om 34 [P0,kI 1] [rO L (sepM [61] L s)]=some (kA v.row,[rO L s'])) :
  Om 42 [P0] [rO L s]=some (kA (eRow (peekM L s).text v),[rO L s']):=by
 refine(qAD rfl).trans ?_;show lim tab.get S 42 1 0 [P0] (Heap.mk [rO L s] .nil)=_;have hp1:(nmS1 L s).p<=1000000:=by rw[qB6]; omega
 have c65:=λ{β:Type} {k:TVal->Heap->Option β} {h:Heap} {d:Nat} (hg:h.get (.im 0)=some (rO L s))=>u65 (k:=k) (d:=d) (by omega) hg
 have c41:=λ{β:Type} {k:TVal->Heap->Option β} {h:Heap} {d:Nat} (hg:h.get (.im 0)=some (rO L (nmS1 L s)))=>u41 (k:=k) (d:=d) hp1 [61] hg
 have c39:=λ{β:Type} {k:TVal->Heap->Option β} {h:Heap} {d:Nat} (hg:h.get (.im 0)=some (rO L (takeM 4 L (nmS1 L s) [61])))=>u39 (k:=k) (d:=d) (isM 4 L (nmS1 L s) [61]) hg
 have c34:∀ {β:Type}{k:TVal->Heap->Option β}{h:Heap}{e:Nat},h.get (.im 0)=some (rO L (sepM [61] L s))->vcall Om (.v (.c (.func 34 []))) [P0,kI 1] h e k=k (kA v.row) (h.put (.im 0) (rO L s')):=λ{β k h e} hg =>
  qAU 34 (.im 0) 0 [] [kI 1] _ _ _ rfl rfl hg (qAC L _) (qAC L _) (by simp only[exP]) e1
 obtain⟨a1,a2,a3,a4,hrow⟩:∃ a1 a2 a3 a4,v.row=[a1,a2,a3,a4]:=by cases v; exact⟨_,_,_,_,rfl⟩
 unfold eRow;rw[hrow] at c34 ⊢;change ∀ {β:Type}{k:TVal->Heap->Option β}{h:Heap}{d:Nat},h.get (.im 0)=some (rO L s)->vcall Om (.v (.c (.func 65 []))) [P0] h d k=k (kS (peekM L s).text) (h.put (.im 0) (rO L (nmS1 L s))) at c65;change ∀ {β:Type}{k:TVal->Heap->Option β}{h:Heap}{d:Nat},h.get (.im 0)=some (rO L (takeM 4 L (nmS1 L s) [61]))->vcall Om (.v (.c (.func 39 []))) [P0,kB (isM 4 L (nmS1 L s) [61])] h d k=k (.tup []) (h.put (.im 0) (rO L (sepM [61] L s))) at c39;have pr:pcells [a1,a2,a3,a4]=[.p a1,.p a2,.p a3,.p a4]:=rfl;have pr5:∀ b,pcells [b,a1,a2,a3,a4]=[.p b,.p a1,.p a2,.p a3,.p a4]:=λ_=>rfl
 generalize isM 4 L (nmS1 L s) [61]=bc at *;generalize takeM 4 L (nmS1 L s) [61]=s2 at *;generalize sepM [61] L s=s3 at *;generalize nmS1 L s=s1 at *;generalize (peekM L s).text=key at *;have P5:∀ a b c d e:Cell,put1 z5 0 [a,b,c,d,e]=[a,b,c,d,e]:=λ_ _ _ _ _=>rfl
 have P4:∀ a b c d e x y z w:Cell,put1 [a,b,c,d,e] 1 [x,y,z,w]=[a,x,y,z,w]:=λ_ _ _ _ _ _ _ _ _=>rfl
 have GP:∀ (a b:RS) (cs:List AObj) (o:TM (Nat×AObj)),(Heap.mk (rO L a::cs) o).put (.im 0) (rO L b)=Heap.mk (rO L b::cs) o:=λ_ _ _ _=>rfl
 have G0:∀ (a:RS) (cs:List AObj) (o:TM (Nat×AObj)),(Heap.mk (rO L a::cs) o).get (.im 0)=some (rO L a):=λ_ _ _=>rfl
 rw[w42_0,b42_0];simp (maxSteps:=9999999) +contextual only[exa,rA,rB,rC,rD,rE,rF,rG,rH,rI,exW,exY,G0,GP,qHN,c65,c41,c39,c34,if_false,pr,oneOf,P5,P4];exact qAP true [.agg (pcells [.str key,a1,a2,a3,a4])] _ (by simp only[exP]) rfl (qAC L s')
theorem qSV(p q:List UInt8×TT):Om 45 [kA (eRow p.1 p.2),kA (eRow q.1 q.2)] []=some (kI (cmpM p.1 q.1),[]):=by
 refine(qAD rfl).trans ?_;obtain⟨a1,a2,a3,a4,ha⟩:=qAY p.2;obtain⟨b1,b2,b3,b4,hb⟩:=qAY q.2;unfold eRow;rw[ha,hb];show lim tab.get S 45 0 0 [.v (.agg [.p (.str p.1),.p a1,.p a2,.p a3,.p a4]),.v (.agg [.p (.str q.1),.p b1,.p b2,.p b3,.p b4])] h0=_;have c:=λ{β:Type} {k:TVal->Heap->Option β} {h:Heap} {d:Nat}=>qAH (O:=Om) (k:=k) (h:=h) (d:=d) 46 [kS p.1,kS q.1] _ rfl (qIt p.1 q.1) rfl
 rw[w45_0,b45_0];simp (maxSteps:=9999999) +contextual only[exa,rA,rB,rC,rD,rE,rF,rG,rH,rI,c,oneOf]
abbrev F45:TVal := .v (.c (.func 45 []))
abbrev SKN:SK (List UInt8×TT) where
 z:=5
 row:=λp=>eRow p.1 p.2
 hrow:=λp=>qA0 p.1 p.2
 key:=λp=>p.1
 F:=45
 fI:=94
 fM:=95
 fR:=124
 fS:=150
 fT:=68
 fE:=44
 cmp:=qSV
 nI:=λ_ _=>rfl
 nM:=λ_ _=>rfl
 nR:=λ_ _=>rfl
 nS:=λ_ _=>rfl
 nT:=λ_ _=>rfl
 nE:=λ_ _=>rfl
 wI_0:=w94_0 S
 wI_1:=w94_1 S
 wI_2:=w94_2 S
 wI_3:=w94_3 S
 wM_0:=w95_0 S
 wM_1:=w95_1 S
 wM_2:=w95_2 S
 wM_3:=w95_3 S
 wM_4:=w95_4 S
 wM_5:=w95_5 S
 wM_6:=w95_6 S
 wM_7:=w95_7 S
 wM_8:=w95_8 S
 wM_9:=w95_9 S
 wM_10:=w95_10 S
 wM_11:=w95_11 S
 wM_12:=w95_12 S
 wM_13:=w95_13 S
 wM_14:=w95_14 S
 wM_15:=w95_15 S
 wR_0:=w124_0 S
 wR_1:=w124_1 S
 wR_2:=w124_2 S
 wS_0:=w150_0 S
 wS_1:=w150_1 S
 wT_0:=w68_0 S
 wT_1:=w68_1 S
 wT_2:=w68_2 S
 wT_3:=w68_3 S
 wT_4:=w68_4 S
 wT_5:=w68_5 S
 wT_6:=w68_6 S
 wE_0:=w44_0 S
noncomputable def sortedMN(l:Es):Es:=srtK SKN l
theorem qBf(l:Es)(h:l.length<=1000):Ord ltE (sortedMN l)/\(sortedMN l).Perm l/\Om 44 [sE0 l.length,F45] [.cells (pcells (eRows l)) 0]=some (.tup [],[.cells (pcells (eRows (sortedMN l))) 0]):=qT7 SKN l h
theorem qBj(l:Es):(sortedMN l).Perm l:=qUB SKN l
theorem qDX(l:Es):(sortedMN l).length=l.length:=(qBj l).length_eq
structure GS where
 nm:List UInt8
 pr:Sl TT
 rs:TT
abbrev Gs:=List GS
def gRow(f:GS):List PVal := .str f.nm::slP 4 TT.row f.pr::f.rs.row
def gRows(l:Gs):List PVal:=l.flatMap gRow
theorem qS8(p q:GS):Om 48 [kA (gRow p),kA (gRow q)] []=some (kI (cmpM p.nm q.nm),[]):=by
 refine(qAD rfl).trans ?_;obtain⟨a1,a2,a3,a4,ha⟩:=qAY p.rs;obtain⟨b1,b2,b3,b4,hb⟩:=qAY q.rs;unfold gRow;rw[ha,hb];generalize slP 4 TT.row p.pr=u;generalize slP 4 TT.row q.pr=v;show lim tab.get S 48 0 0 [.v (.agg [.p (.str p.nm),.p u,.p a1,.p a2,.p a3,.p a4]),.v (.agg [.p (.str q.nm),.p v,.p b1,.p b2,.p b3,.p b4])] h0=_;have c:=λ{β:Type} {k:TVal->Heap->Option β} {h:Heap} {d:Nat}=>qAH (O:=Om) (k:=k) (h:=h) (d:=d) 46 [kS p.nm,kS q.nm] _ rfl (qIt p.nm q.nm) rfl
 rw[w48_0,b48_0];simp (maxSteps:=9999999) +contextual only[exa,rA,rB,rC,rD,rE,rF,rG,rH,rI,c,oneOf]
theorem qAm(k:GS):(gRow k).length=6:=by unfold gRow; simp[TT.row_len]
abbrev sG0(n:Nat):TVal := .v (.c (.sref (.im 0) 0 n none 6))
abbrev F48:TVal := .v (.c (.func 48 []))
abbrev SKG:SK GS where
 z:=6
 row:=gRow
 hrow:=qAm
 key:=λp=>p.nm
 F:=48
 fI:=96
 fM:=97
 fR:=125
 fS:=151
 fT:=70
 fE:=47
 cmp:=qS8
 nI:=λ_ _=>rfl
 nM:=λ_ _=>rfl
 nR:=λ_ _=>rfl
 nS:=λ_ _=>rfl
 nT:=λ_ _=>rfl
 nE:=λ_ _=>rfl
 wI_0:=w96_0 S
 wI_1:=w96_1 S
 wI_2:=w96_2 S
 wI_3:=w96_3 S
 wM_0:=w97_0 S
 wM_1:=w97_1 S
 wM_2:=w97_2 S
 wM_3:=w97_3 S
 wM_4:=w97_4 S
 wM_5:=w97_5 S
 wM_6:=w97_6 S
 wM_7:=w97_7 S
 wM_8:=w97_8 S
 wM_9:=w97_9 S
 wM_10:=w97_10 S
 wM_11:=w97_11 S
 wM_12:=w97_12 S
 wM_13:=w97_13 S
 wM_14:=w97_14 S
 wM_15:=w97_15 S
 wR_0:=w125_0 S
 wR_1:=w125_1 S
 wR_2:=w125_2 S
 wS_0:=w151_0 S
 wS_1:=w151_1 S
 wT_0:=w70_0 S
 wT_1:=w70_1 S
 wT_2:=w70_2 S
 wT_3:=w70_3 S
 wT_4:=w70_4 S
 wT_5:=w70_5 S
 wT_6:=w70_6 S
 wE_0:=w47_0 S
def ltG(p q:GS):Bool:=bless p.nm q.nm
theorem qDO(l:Gs):(gRows l).length=l.length*6:=qUC (K:=SKG) l
theorem qH8(l:Gs)(i:Nat)(p:GS)(h:l[i]?=some p):((pcells (gRows l)).drop (i*6)).take 6=pcells (gRow p):=qUH SKG l i p h
noncomputable def sortedMG(l:Gs):Gs:=srtK SKG l
theorem qBg(l:Gs)(h:l.length<=1000):Ord ltG (sortedMG l)/\(sortedMG l).Perm l/\Om 47 [sG0 l.length,F48] [.cells (pcells (gRows l)) 0]=some (.tup [],[.cells (pcells (gRows (sortedMG l))) 0]):=qT7 SKG l h
theorem qBp(l:Gs):(sortedMG l).Perm l:=qUB SKG l
theorem qDW(l:Gs):(sortedMG l).length=l.length:=(qBp l).length_eq
end Go.Proofs.YtnlmlcfipbnpgaaDoor.Ab
namespace Go.AI
section
variable {β:Type} {O:Oracle} {h:Heap} {d:Nat} {k:TVal->Heap->Option β} {kt:TVal->Heap->Touch->Option β}
theorem qOO(z0 z1 z2 z3:Cell):vtouch O (.bslice 4 1 [z0,z1,z2,z3] [(0,.k (.v (.agg [z0,z1,z2,z3])))] true) h d kt=kt (.v (.c (.sref (.im h.ims.length) 0 1 (some 1) 4))) (h.push (.cells [z0,z1,z2,z3] 0)) ⟨[],[.im h.ims.length],true⟩ :=
 qBv _ [] _ _ _ _ rfl rfl
theorem qED{sz by':Nat}{j lb:Nat}{capb:Option Nat}{ys:List Cell}{ib:Nat}(hb:lb≠0)(hm:lb*by'<=1099511627776)(gb:h.get (.im j)=some (.cells ys ib))(ly:ys.length=lb*sz) :
  vtouch O (.append sz by' true (.k (.v (.c (.p .nilslice)))) (.k (.v (.c (.sref (.im j) 0 lb capb sz))))) h d kt=kt (.v (.c (.sref (.im h.ims.length) 0 lb none sz))) (h.push (.cells ys 0)) ⟨[.im j],[.im h.ims.length],true⟩:=by
 have ea:appendTo sz by' true (.v (.c (.p .nilslice))) none ys lb=some ⟨λr => .v (.c (.sref r 0 lb none sz)),[],some (.cells ys 0),true⟩:=by
  unfold appendTo;rw[if_neg hb];dsimp only;unfold freshRow;rw[if_pos rfl,if_pos (by omega)]
 refine qBv _ [.im j] _ _ _ _ rfl ?_;unfold goOp;simp only[List.mapM_cons,List.mapM_nil,gb,Option.pure_def,rL,Option.bind_some,dstRef,srcRef,splitNeeds,qEL sz j lb capb ys ib ly,ea];rfl
theorem qDy{sz by':Nat}{i j la lb:Nat}{capb:Option Nat}{xs ys:List Cell}{ib:Nat}(hb:lb≠0)(hm:(la+lb)*by'<=1099511627776)(ga:h.get (.im i)=some (.cells xs 0))(gb:h.get (.im j)=some (.cells ys ib))(lx:xs.length=la*sz)(ly:ys.length=lb*sz) :
  vtouch O (.append sz by' true (.k (.v (.c (.sref (.im i) 0 la none sz)))) (.k (.v (.c (.sref (.im j) 0 lb capb sz))))) h d kt=kt (.v (.c (.sref (.im h.ims.length) 0 (la+lb) none sz))) ((h.put (.im i) .dead).push (.cells (xs++ys) 0)) ⟨[.im i,.im j],[.im h.ims.length,.im i],true⟩:=by
 have ea:appendTo sz by' true (.v (.c (.sref (.im i) 0 la none sz))) (some (.cells xs 0)) ys lb=some ⟨λr => .v (.c (.sref r 0 (la+lb) none sz)),[(.im i,.dead)],some (.cells (xs++ys) 0),true⟩:=by
  unfold appendTo;rw[if_neg hb];dsimp only;rw[if_pos ⟨rfl,by omega,by omega⟩,if_pos (by omega),List.drop_zero,List.take_of_length_le (by omega)]
 have hl:(h.put (.im i) .dead).ims.length=h.ims.length:=by show(h.ims.set i .dead).length=_; rw[List.length_set]
 refine qBv _ [.im i,.im j] _ _ _ _ rfl ?_;unfold goOp;simp only[List.mapM_cons,List.mapM_nil,ga,gb,Option.pure_def,rL,Option.bind_some,dstRef,srcRef,splitNeeds,qEL sz j lb capb ys ib ly,ea];simp[hl];exact⟨rfl,⟨rfl,rfl⟩,rfl⟩
end
end Go.AI
namespace Go.Proofs.YtnlmlcfipbnpgaaDoor.Ab
open Go Go.AI
abbrev fO(nm:List UInt8)(L:Cell):AObj := .cells [.p (.str nm),L,.p (.int .i64 0),.p (.str []),.p .nilslice,.p .nilslice] 0
abbrev pI(i:Nat):TVal := .v (.c (.ptr (.im i) 0))
def Prm(L:List Tok)(s:RS)(v:TT)(t:RS):Prop:=Om 34 [P0,kI 1] [rO L s]=some (kA v.row,[rO L t])
theorem qMB{β:Type}{O:Oracle}{h:Heap}{d:Nat}{kt:TVal->Heap->AI.Touch->Option β}(r:Ref)(off len sz:Nat)(cap:Option Nat):vtouch O (.len 2 (.k (.v (.c (.sref r off len cap sz))))) h d kt=kt (kI (len:Int)) h noTouch:=qBe _ _ rfl
theorem qRh(nm:List UInt8)(L:List Tok)(s t:RS)(v:TT)(H:Prm L s v t) :
  Om 67 [P0,pI 1] [fO nm (.p .nilslice),boxO 2,rO L s]=some (.tup [],[fO nm (.sref (.im 3) 0 1 none 4),boxO 2,rO L t,.cells (pcells v.row) 0]):=by
 refine(qAD rfl).trans ?_;show lim tab.get S 67 3 0 [P0,pI 1] (Heap.mk [fO nm (.p .nilslice),boxO 2,rO L s] .nil)=_;obtain⟨a1,a2,a3,a4,ha⟩:=qAY v;have H':=H;unfold Prm at H';rw[ha] at H';rw[ha];have pr:pcells [a1,a2,a3,a4]=[.p a1,.p a2,.p a3,.p a4]:=rfl;have c34:∀ {β:Type}{h:Heap}{e:Nat}{kt:TVal->Heap->AI.Touch->Option β},h.get (.im 2)=some (rO L s)->vtouch Om (.call (.k (.v (.c (.func 34 [])))) [.k (pI 2),.k (kI 1)]) h e kt=kt (kA [a1,a2,a3,a4]) (h.put (.im 2) (rO L t)) ⟨[.im 2,.im 2],[.im 2],false⟩:=λ{β h e kt} hg=>qBE 34 (.im 2) (kI 1) _ _ _ rfl (by simp only[exP]) hg (qAC L s) (qAC L t) H'
 have ap:=λ{β:Type} {h:Heap} {e:Nat} {kt:TVal->Heap->AI.Touch->Option β} (gb:h.get (.im 3)=some (.cells z4 0))=>qED (O:=Om) (kt:=kt) (d:=e) (sz:=4) (by':=72) (lb:=1) (capb:=some 1) (by omega) (by omega) gb rfl
 rw[w67_0,b67_0];have g0:∀ a,(Heap.mk [fO nm (.p .nilslice),boxO 2,a] .nil).get (.im 0)=some (fO nm (.p .nilslice)):=λ_=>rfl
 have g1:∀ a,(Heap.mk [fO nm (.p .nilslice),boxO 2,a] .nil).get (.im 1)=some (boxO 2):=λ_=>rfl
 simp (maxSteps:=9999999) +contextual only[exa,rA,rB,rC,rD,rE,rF,rG,rH,rI,exT,g0,g1,qAv,qOO,oneOf];rw[c34 rfl];show vtouch Om (.append 4 72 true (.k (.v (.c (.p .nilslice)))) (.k (.v (.c (.sref (.im 3) 0 1 (some 1) 4))))) (Heap.mk [fO nm (.p .nilslice),boxO 2,rO L t,.cells z4 0] .nil) 8 _=_;rw[ap rfl,qHC];show viaddr 4 (.v (.c (.sref (.im 4) 0 1 none 4))) (kI 0) (Heap.mk [fO nm (.p .nilslice),boxO 2,rO L t,.cells z4 0,.cells z4 0] .nil) _=_;have h5:(Heap.mk [fO nm (.p .nilslice),boxO 2,rO L t,.cells z4 0,.cells z4 0] .nil).get (.im 4)=some (.cells z4 0):=rfl;have h5p:∀ o,(Heap.mk [fO nm (.p .nilslice),boxO 2,rO L t,.cells z4 0,.cells z4 0] .nil).put (.im 4) o=Heap.mk [fO nm (.p .nilslice),boxO 2,rO L t,.cells z4 0,o] .nil:=λ_=>rfl
 have h0':∀ o,(Heap.mk [fO nm (.p .nilslice),boxO 2,rO L t,.cells z4 0,o] .nil).get (.im 0)=some (fO nm (.p .nilslice)):=λ_=>rfl
 have p6:put1 z4 0 [.p a1,.p a2,.p a3,.p a4]=[.p a1,.p a2,.p a3,.p a4]:=qBA _ _ rfl;simp (maxSteps:=9999999) +contextual only[exa,rA,rB,rC,rD,rE,rF,rG,rH,rI,exT,exY,h5,h5p,h0',pr,p6,qAv,oneOf];exact(qCl 2 _ [.im 0,.im 1,.im 2,.im 4] rfl).trans rfl
theorem qOa(n:Nat)(xs:List PVal)(hx:xs.length=n*4)(hn:n<=100000)(nm:List UInt8)(L:List Tok)(s t:RS)(v:TT)(H:Prm L s v t) :
  Om 67 [P0,pI 2] [fO nm (.sref (.im 1) 0 n none 4),.cells (pcells xs) 0,boxO 3,rO L s]=some (.tup [],[fO nm (.sref (.im 4) 0 (n+1) none 4),.dead,boxO 3,rO L t,.cells (pcells (xs++v.row)) 0]):=by
 refine(qAD rfl).trans ?_;have pl:=qAB (xs++v.row) 0;obtain⟨a1,a2,a3,a4,ha⟩:=qAY v;have H':=H;unfold Prm at H';rw[ha] at H' pl;rw[ha];have hX:(pcells xs).length=n*4:=by rw[qAN,hx]
 have pa:pcells (xs++[a1,a2,a3,a4])=pcells xs++[.p a1,.p a2,.p a3,.p a4]:=by unfold pcells; simp
 rw[pa] at pl ⊢;generalize pcells xs=X at hX pl ⊢;show lim tab.get S 67 4 0 [P0,pI 2] (Heap.mk [fO nm (.sref (.im 1) 0 n none 4),.cells X 0,boxO 3,rO L s] .nil)=_;have c34:∀ {β:Type}{h:Heap}{e:Nat}{kt:TVal->Heap->AI.Touch->Option β},h.get (.im 3)=some (rO L s)->vtouch Om (.call (.k (.v (.c (.func 34 [])))) [.k (pI 3),.k (kI 1)]) h e kt=kt (kA [a1,a2,a3,a4]) (h.put (.im 3) (rO L t)) ⟨[.im 3,.im 3],[.im 3],false⟩:=λ{β h e kt} hg=>qBE 34 (.im 3) (kI 1) _ _ _ rfl (by simp only[exP]) hg (qAC L s) (qAC L t) H'
 have ap:=λ{β:Type} {h:Heap} {e:Nat} {kt:TVal->Heap->AI.Touch->Option β} (ga:h.get (.im 1)=some (.cells X 0)) (gb:h.get (.im 4)=some (.cells z4 0))=>qDy (O:=Om) (kt:=kt) (d:=e) (sz:=4) (by':=72) (la:=n) (lb:=1) (capb:=some 1) (by omega) (by omega) ga gb hX rfl
 have g0:∀ a,(Heap.mk [fO nm (.sref (.im 1) 0 n none 4),.cells X 0,boxO 3,a] .nil).get (.im 0)=some (fO nm (.sref (.im 1) 0 n none 4)):=λ_=>rfl
 have g2:∀ a,(Heap.mk [fO nm (.sref (.im 1) 0 n none 4),.cells X 0,boxO 3,a] .nil).get (.im 2)=some (boxO 3):=λ_=>rfl
 have pr:pcells [a1,a2,a3,a4]=[.p a1,.p a2,.p a3,.p a4]:=rfl;rw[w67_0,b67_0];simp (maxSteps:=9999999) +contextual only[exa,rA,rB,rC,rD,rE,rF,rG,rH,rI,exT,g0,g2,qAv,qOO,qMB,oneOf];rw[c34 rfl];show vtouch Om (.append 4 72 true (.k (.v (.c (.sref (.im 1) 0 n none 4)))) (.k (.v (.c (.sref (.im 4) 0 1 (some 1) 4))))) (Heap.mk [fO nm (.sref (.im 1) 0 n none 4),.cells X 0,boxO 3,rO L t,.cells z4 0] .nil) 8 _=_;rw[ap rfl rfl,qHC];show viaddr 4 (.v (.c (.sref (.im 5) 0 (n+1) none 4))) (kI (n:Int)) (Heap.mk [fO nm (.sref (.im 1) 0 n none 4),.dead,boxO 3,rO L t,.cells z4 0,.cells (X++z4) 0] .nil) _=_;have h6:(Heap.mk [fO nm (.sref (.im 1) 0 n none 4),.dead,boxO 3,rO L t,.cells z4 0,.cells (X++z4) 0] .nil).get (.im 5)=some (.cells (X++z4) 0):=rfl;have h6p:∀ o,(Heap.mk [fO nm (.sref (.im 1) 0 n none 4),.dead,boxO 3,rO L t,.cells z4 0,.cells (X++z4) 0] .nil).put (.im 5) o=Heap.mk [fO nm (.sref (.im 1) 0 n none 4),.dead,boxO 3,rO L t,.cells z4 0,o] .nil:=λ_=>rfl
 have h0':∀ o,(Heap.mk [fO nm (.sref (.im 1) 0 n none 4),.dead,boxO 3,rO L t,.cells z4 0,o] .nil).get (.im 0)=some (fO nm (.sref (.im 1) 0 n none 4)):=λ_=>rfl
 have p6:put1 (X++z4) (n*4) [.p a1,.p a2,.p a3,.p a4]=X++[.p a1,.p a2,.p a3,.p a4]:=by
  unfold put1 splice;rw[<- hX,List.take_left,List.drop_eq_nil_of_le (by simp),List.append_nil]
 have l6:(X++z4).length=n*4+4:=by rw[List.length_append,hX]; rfl
 have t1:(0:Int)<=(n:Int):=by omega
 have t2:n<n+1:=by omega
 have t3:n*4+4<=n*4+4:=Nat.le_refl _;simp (maxSteps:=9999999) +contextual only[exa,rA,rB,rC,rD,rE,rF,rG,rH,rI,exT,exY,h6,h6p,h0',pr,p6,l6,t1,t2,t3,Int.toNat_natCast,Nat.zero_add,Nat.zero_le,qAv,oneOf];refine(qCl 3 _ [.im 0,.im 1,.im 2,.im 3,.im 5] ?_).trans ?_
 ·show reach _ (398+1+1) [.im 5,.im 3] (ims 4)=_;rw[qAK _ (.im 5) _ (ims 4) (.cells (X++[.p a1,.p a2,.p a3,.p a4]) 0) (by decide) rfl,pl.1];show reach _ (398+1) [.im 3] ([.im 0,.im 1,.im 2,.im 3,.im 5])=_;rw[qA1 _ _ _ _ (by decide)];exact qAc _ _
 ·show some (TVal.tup [],[fO nm (.sref (.im 4) 0 (n+1) none 4),AObj.dead,boxO 3,rO L t,(AObj.cells (X++[.p a1,.p a2,.p a3,.p a4]) 0).ren (inn [.im 0,.im 1,.im 2,.im 3,.im 5])])=_;rw[pl.2]
theorem qMa{β:Type}{O:Oracle}{k:TVal->Heap->Option β}{h:Heap}{d:Nat}(g:FuncId)(a b:Ref):vcall O (.v (.c (.func g [a,b]))) [] h d k=vcall O (.v (.c (.func g []))) [.v (.c (.ptr a 0)),.v (.c (.ptr b 0))] h d k:=rfl
structure Sp0 (h:Heap) (L:List Tok) (s:RS) (nm:List UInt8):Prop where
 g0:h.get (.im 0)=some (rO L s)
 g1:h.get (.im 1)=some (fO nm (.p .nilslice))
 g2:h.get (.im 2)=some (boxO 0)
structure Sp1 (h:Heap) (L:List Tok) (s:RS) (nm:List UInt8) (n:Nat) (xs:List PVal) (j:Nat):Prop where
 g0:h.get (.im 0)=some (rO L s)
 g1:h.get (.im 1)=some (fO nm (.sref (.im j) 0 n none 4))
 g2:h.get (.im 2)=some (boxO 0)
 hj:3<=j
 gj:h.get (.im j)=some (.cells (pcells xs) 0)
 hx:xs.length=n*4
 hn:n<=90000
theorem Sp0.put{h:Heap}{L:List Tok}{s t:RS}{nm:List UInt8}(A:Sp0 h L s nm):Sp0 (h.put (.im 0) (rO L t)) L t nm :=
 ⟨Heap.zput_self A.g0 (λe=>by cases e),(Heap.zput_ne A.g0 (by decide)).trans A.g1,(Heap.zput_ne A.g0 (by decide)).trans A.g2⟩
theorem Sp1.put{h:Heap}{L:List Tok}{s t:RS}{nm:List UInt8}{n:Nat}{xs:List PVal}{j:Nat}(A:Sp1 h L s nm n xs j):Sp1 (h.put (.im 0) (rO L t)) L t nm n xs j :=
 ⟨Heap.zput_self A.g0 (λe=>by cases e),(Heap.zput_ne A.g0 (by decide)).trans A.g1,(Heap.zput_ne A.g0 (by decide)).trans A.g2,A.hj,(Heap.zput_ne A.g0 (λe=>by cases e; have:=A.hj; omega)).trans A.gj,A.hx,A.hn⟩
theorem qTv{h:Heap}{L:List Tok}{s t:RS}{v:TT}{nm:List UInt8}(A:Sp0 h L s nm)(E:Prm L s v t) :
  ∃ h' j,(∀ {β:Type}(e:Nat)(k:TVal->Heap->Option β),vcall Om (.v (.c (.func 67 [.im 1,.im 2]))) [] h e k=k (.tup []) h')/\Sp1 h' L t nm 1 v.row j:=by
 have hr:reach h fuelReach ([.v (.c (.ptr (.im 1) 0)),.v (.c (.ptr (.im 2) 0))].flatMap TVal.refs) []=[.im 1,.im 2,.im 0]:=by
  show reach h (396+1+1+1+1) [.im 1,.im 2] []=_;rw[qAK _ (.im 1) _ _ _ (by decide) A.g1];show reach h (396+1+1+1) [.im 2] [.im 1]=_;rw[qAK _ (.im 2) _ _ _ (by decide) A.g2];show reach h (396+1+1) [.im 0] [.im 1,.im 2]=_;rw[qAK _ (.im 0) _ _ _ (by decide) A.g0];exact qAc _ _
 have hm:([.im 1,.im 2,.im 0]:List Ref).mapM h.get=some [fO nm (.p .nilslice),boxO 0,rO L s]:=by
  simp only[List.mapM_cons,List.mapM_nil,A.g0,A.g1,A.g2,Option.pure_def,rL,Option.bind_some]
 have pl:=qAB v.row 0;obtain⟨h',hc,B⟩:=qBz (O:=Om) (h:=h) 67 [.v (.c (.ptr (.im 1) 0)),.v (.c (.ptr (.im 2) 0))] _ [P0,pI 1] _ _ [fO nm (.p .nilslice),boxO 2,rO L s] _ _ (.tup []) rfl hr hm rfl rfl (qRh nm L s t v E) (show(3:Nat)<=4 by decide) (by decide) rfl;refine⟨h',h.ims.length+0,λe k=>(qMa 67 _ _).trans (hc e k),?_⟩;have hl:3<=h.ims.length:=by
  have:=(Heap.get_im_some A.g2).1;have:=(List.getElem?_eq_some_iff.1 this).1;omega
 exact⟨B.own 2 (.im 0) _ rfl rfl (λe=>by cases e),B.own 0 (.im 1) _ rfl rfl (λe=>by cases e),B.own 1 (.im 2) _ rfl rfl (λe=>by cases e),by omega,
  B.new 0 (.cells (pcells v.row) 0) (congrArg some (pl.2 _)) (λe=>by cases e),by rw[TT.row_len],by omega⟩
theorem qTW{j:Nat}(hj:3<=j):inn [.im 1,.im j,.im 2,.im 0] (.im j)=some (.im 1):=by
 have ne:decide (Ref.im j=Ref.im 1)=false:=decide_eq_false (λe=>by cases e; omega);unfold inn;simp only[idx,ne,cond_false,decide_true,cond_true];rfl
theorem qSs{j:Nat}(hj:3<=j):inn [.im 1,.im j,.im 2,.im 0] (.im 2)=some (.im 2):=by
 have ne:decide (Ref.im 2=Ref.im j)=false:=decide_eq_false (λe=>by cases e; omega);have ne1:decide (Ref.im 2=Ref.im 1)=false:=by decide
 unfold inn;simp only[idx,ne,ne1,cond_false,decide_true,cond_true];rfl
theorem qSQ{j:Nat}(hj:3<=j):inn [.im 1,.im j,.im 2,.im 0] (.im 0)=some (.im 3):=by
 have ne:decide (Ref.im 0=Ref.im j)=false:=decide_eq_false (λe=>by cases e; omega);have ne1:decide (Ref.im 0=Ref.im 1)=false:=by decide
 have ne2:decide (Ref.im 0=Ref.im 2)=false:=by decide
 unfold inn;simp only[idx,ne,ne1,ne2,cond_false,decide_true,cond_true];rfl
theorem qTh{h:Heap}{L:List Tok}{s t:RS}{v:TT}{nm:List UInt8}{n j:Nat}{xs:List PVal}(A:Sp1 h L s nm n xs j)(hn:n<=80000)(E:Prm L s v t) :
  ∃ h' j,(∀ {β:Type}(e:Nat)(k:TVal->Heap->Option β),vcall Om (.v (.c (.func 67 [.im 1,.im 2]))) [] h e k=k (.tup []) h')/\Sp1 h' L t nm (n+1) (xs++v.row) j:=by
 have hj:=A.hj;have nj:∀ i:Nat,i<3->Ref.im j≠Ref.im i:=λi hi e=>by cases e; omega
 have nj':∀ i:Nat,i<3->Ref.im i≠Ref.im j:=λi hi e=>by cases e; omega
 have pl:=qAB (xs++v.row) 0;have px:=qAB xs 0;have hr:reach h fuelReach ([.v (.c (.ptr (.im 1) 0)),.v (.c (.ptr (.im 2) 0))].flatMap TVal.refs) []=[.im 1,.im j,.im 2,.im 0]:=by
  show reach h (395+1+1+1+1+1) [.im 1,.im 2] []=_;rw[qAK _ (.im 1) _ _ _ (by decide) A.g1];show reach h (395+1+1+1+1) [.im j,.im 2] [.im 1]=_;rw[qAK _ (.im j) _ _ _ (by simp only[List.mem_singleton]; exact nj 1 (by decide)) A.gj,px.1];show reach h (395+1+1+1) [.im 2] [.im 1,.im j]=_;rw[qAK _ (.im 2) _ _ _ (by simp only[List.mem_cons,List.not_mem_nil,or_false,not_or]; exact⟨by decide,nj' 2 (by decide)⟩) A.g2];show reach h (395+1+1) [.im 0] [.im 1,.im j,.im 2]=_;rw[qAK _ (.im 0) _ _ _ (by simp only[List.mem_cons,List.not_mem_nil,or_false,not_or]; exact⟨by decide,nj' 0 (by decide),by decide⟩) A.g0,(qAC L s).1];exact qAc _ _
 have hm:([.im 1,.im j,.im 2,.im 0]:List Ref).mapM h.get=some [fO nm (.sref (.im j) 0 n none 4),.cells (pcells xs) 0,boxO 0,rO L s]:=by
  simp only[List.mapM_cons,List.mapM_nil,A.g0,A.g1,A.g2,A.gj,Option.pure_def,rL,Option.bind_some]
 have e5:([fO nm (.sref (.im j) 0 n none 4),.cells (pcells xs) 0,boxO 0,rO L s]:List AObj).map (AObj.ren (inn [.im 1,.im j,.im 2,.im 0]))=[fO nm (.sref (.im 1) 0 n none 4),.cells (pcells xs) 0,boxO 3,rO L s]:=by
  rw[List.map_cons,List.map_cons,List.map_cons,List.map_cons,px.2,(qAC L s).2];show [fO nm (match inn [.im 1,.im j,.im 2,.im 0] (.im j) with|some s => .sref s 0 n none 4|none => .junk),_,AObj.cells [match inn [.im 1,.im j,.im 2,.im 0] (.im 0) with|some s => .ptr s 0|none => .junk] 0,_]=_;rw[qTW hj,qSQ hj]
 have e4:([.v (.c (.ptr (.im 1) 0)),.v (.c (.ptr (.im 2) 0))]:List TVal).map (TVal.ren (inn [.im 1,.im j,.im 2,.im 0]))=[P0,pI 2]:=by
  show [TVal.v (.c (match inn [.im 1,.im j,.im 2,.im 0] (.im 1) with|some s => .ptr s 0|none => .junk)),TVal.v (.c (match inn [.im 1,.im j,.im 2,.im 0] (.im 2) with|some s => .ptr s 0|none => .junk))]=_;rw[qSs hj];rfl
 have hnd:([.im 1,.im j,.im 2,.im 0]:List Ref).Nodup:=by
  simp only[List.nodup_cons,List.mem_cons,List.not_mem_nil,or_false,not_or,List.nodup_nil,and_true,not_false_eq_true];exact⟨⟨nj' 1 (by decide),by decide,by decide⟩,⟨nj 2 (by decide),nj 0 (by decide)⟩,by decide⟩
 obtain⟨h',hc,B⟩:=qBz (O:=Om) (h:=h) 67 [.v (.c (.ptr (.im 1) 0)),.v (.c (.ptr (.im 2) 0))] _ [P0,pI 2] _ _ _ _ _ (.tup []) rfl hr hm e4 e5 (qOa n xs A.hx (by have:=A.hn; omega) nm L s t v E) (show(4:Nat)<=5 by decide) hnd rfl;refine⟨h',h.ims.length+0,λe k=>(qMa 67 _ _).trans (hc e k),?_⟩;have hl:3<=h.ims.length:=by
  have:=(Heap.get_im_some A.g2).1;have:=(List.getElem?_eq_some_iff.1 this).1;omega
 exact⟨B.own 3 (.im 0) _ rfl rfl (λe=>by cases e),B.own 0 (.im 1) _ rfl rfl (λe=>by cases e),B.own 2 (.im 2) _ rfl rfl (λe=>by cases e),by omega,
  B.new 0 (.cells (pcells (xs++v.row)) 0) (congrArg some (pl.2 _)) (λe=>by cases e),by have:=A.hx; simp[TT.row_len]; omega,by omega⟩
abbrev F67:TVal := .v (.c (.func 67 [.im 1,.im 2]))
def tRows(l:List TT):List PVal:=l.flatMap TT.row
theorem qMC(l:List TT)(p:TT):tRows (l++[p])=tRows l++p.row:=by unfold tRows; simp
def loopP(sub:RS->TT×RS)(L:List Tok)(x:List UInt8):Nat->RS->List TT->List TT×RS
 |0,s,acc=>(acc,s)
 |f+1,s,acc=>if isM 4 L s [44]=true then loopP sub L x f (sub (nextM s)).2 (acc++[(sub (nextM s)).1]) else (acc,mustM (takeM 4 L s x) (isM 4 L s x))
def rowP(sub:RS->TT×RS)(L:List Tok)(x:List UInt8)(s:RS):List TT×RS:=if isM 4 L s x=true then ([],nextM s) else loopP sub L x (L.length+2) (sub s).2 [(sub s).1]
def loopPOK(sub:RS->TT×RS)(ok:RS->Prop)(L:List Tok):Nat->RS->Prop
 |0,_=>True
 |f+1,s=>isM 4 L s [44]=true->ok (nextM s)/\loopPOK sub ok L f (sub (nextM s)).2
def rowPOK(sub:RS->TT×RS)(ok:RS->Prop)(L:List Tok)(x:List UInt8)(s:RS):Prop:=isM 4 L s x=false->ok s/\loopPOK sub ok L (L.length+2) (sub s).2
theorem qRa{h:Heap}{L:List Tok}{s:RS}{nm:List UInt8}{n j:Nat}{xs:List PVal}(hp:s.p<=1000000)(x:List UInt8)(A:Sp1 h L s nm n xs j) :
  lim tab.get S 66 3 2 [P0,kS x] h=some (.tup [],[rO L (mustM (takeM 4 L s x) (isM 4 L s x)),fO nm (.sref (.im 3) 0 n none 4),boxO 0,.cells (pcells xs) 0]):=by
 have hj:=A.hj;have A1:=A.put (t:=takeM 4 L s x);rw[w66_2,b66_2,u41 hp x A.g0,u39 _ A1.g0];have B:=A1.put (t:=mustM (takeM 4 L s x) (isM 4 L s x));generalize mustM (takeM 4 L s x) (isM 4 L s x)=t at B ⊢;have px:=qAB xs 0;have nm':Ref.im j∉(ims 3:List Ref):=by
  show Ref.im j∉[.im 0,.im 1,.im 2];simp only[List.mem_cons,List.not_mem_nil,or_false,not_or,Ref.im.injEq];omega
 generalize (h.put (.im 0) (rO L (takeM 4 L s x))).put (.im 0) (rO L t)=h at B;have e:(ims (2+1)).flatMap (λr=>match h.get r with|some o=>o.refs|none=>[])=[.im j,.im 0]:=by
  show([.im 0,.im 1,.im 2]:List Ref).flatMap _=_;simp only[List.flatMap_cons,List.flatMap_nil,B.g0,B.g1,B.g2];rw[(qAC L t).1];rfl
 refine(qCl 2 h [.im 0,.im 1,.im 2,.im j] ?_).trans ?_
 ·refine(congrArg (λl=>reach h fuelReach l (ims 3)) e).trans ?_;show reach h (397+1+1+1) [.im j,.im 0] (ims 3)=_;rw[qAK _ (.im j) [.im 0] (ims 3) _ nm' B.gj,px.1];show reach h (397+1+1) [.im 0] [.im 0,.im 1,.im 2,.im j]=_;rw[qA1 _ _ _ _ (by simp)];exact qAc _ _
 ·have ne:∀ i:Nat,i<3->decide (Ref.im j=Ref.im i)=false:=λi hi=>decide_eq_false (λe=>by cases e; omega)
  have ij:inn [.im 0,.im 1,.im 2,.im j] (.im j)=some (.im 3):=by
   unfold inn;simp only[idx,ne 1 (by decide),ne 0 (by decide),ne 2 (by decide),cond_false,decide_true,cond_true];rfl
  simp only[List.map_cons,List.map_nil,B.g0,B.g1,B.g2,B.gj,px.2,(qAC L t).2];show some (TVal.tup [],[rO L t,fO nm (match inn [.im 0,.im 1,.im 2,.im j] (.im j) with|some s => .sref s 0 n none 4|none => .junk),boxO 0,AObj.cells (pcells xs) 0])=_;rw[ij]
theorem qIN{L:List Tok}{s:RS}(h:s.p<L.length):I1 L (nextM s):=⟨λ_=>by show s.p+1<=_; omega,by show s.p+1<=_; omega⟩
theorem qJL{L:List Tok}{sub:RS->TT×RS}{okP:RS->Prop}(ok:SubOK 0 L sub okP)(hL:L.length<=1000)(nm x:List UInt8):∀ (f:Nat) (s:RS) (acc:List TT) (h:Heap) (j:Nat),I1 L s->loopPOK sub okP L f s->L.length - s.p<f->acc.length+(L.length - s.p)<=L.length+2->Sp1 h L s nm acc.length (tRows acc) j ->
  lim tab.get S 66 3 1 [P0,kS x,F67] h=some (.tup [],[rO L (loopP sub L x f s acc).2,fO nm (.sref (.im 3) 0 (loopP sub L x f s acc).1.length none 4),boxO 0,.cells (pcells (tRows (loopP sub L x f s acc).1)) 0])
 |0,s,acc,h,j,I,lo,hf,ha,A=>by omega
 |f+1,s,acc,h,j,I,lo,hf,ha,A=>by
  have hp:s.p<=1000000:=by have:=I.2; omega
  unfold loopP;rw[w66_1,b66_1,u41 hp [44] A.g0];cases hi:isM 4 L s [44] with
  |false =>
   have ht:takeM 4 L s [44]=s:=by unfold takeM; rw[hi]; rfl
   rw[qCR,if_neg (by decide),ht];exact qRa hp x (A.put (t:=s))
  |true =>
   obtain⟨h1,h2⟩:=qBC (by decide) hi;have ht:takeM 4 L s [44]=nextM s:=by unfold takeM; rw[hi]; rfl
   rw[qD5,if_pos rfl,ht];obtain⟨lo1,lo2⟩:=lo hi;have In:=qIN h2;obtain⟨I',q⟩:=ok.inv _ In;obtain⟨h1',j1,hc,B⟩:=qTh (A.put (t:=nextM s)) (by omega) (ok.one _ In lo1);show vcall Om F67 [] (h.put (.im 0) (rO L (nextM s))) 14 _=_;rw[hc];have q':s.p+1<=(sub (nextM s)).2.p:=q;refine qJL ok hL nm x f _ (acc++[(sub (nextM s)).1]) h1' j1 I' lo2 (by omega) (by rw[List.length_append]; show acc.length+1+_<=_; omega) ?_;rw[List.length_append,qMC];exact B
theorem qP8{L:List Tok}{sub:RS->TT×RS}{okP:RS->Prop}(ok:SubOK 0 L sub okP)(hL:L.length<=1000)(nm x:List UInt8)(s:RS)(I:I1 L s)(ro:rowPOK sub okP L x s)(hx:isM 4 L s x=false) :
  Om 66 [P0,kS x,F67] [rO L s,fO nm (.p .nilslice),boxO 0]=some (.tup [],[rO L (rowP sub L x s).2,fO nm (.sref (.im 3) 0 (rowP sub L x s).1.length none 4),boxO 0,.cells (pcells (tRows (rowP sub L x s).1)) 0]):=by
 refine(qAD rfl).trans ?_;show lim tab.get S 66 3 0 [P0,kS x,F67] (Heap.mk [rO L s,fO nm (.p .nilslice),boxO 0] .nil)=_;have A:Sp0 (Heap.mk [rO L s,fO nm (.p .nilslice),boxO 0] .nil) L s nm:=⟨rfl,rfl,rfl⟩;generalize Heap.mk [rO L s,fO nm (.p .nilslice),boxO 0] .nil=H at A;have ht:takeM 4 L s x=s:=by unfold takeM; rw[hx]; rfl
 obtain⟨ro1,ro2⟩:=ro hx;obtain⟨I',q⟩:=ok.inv _ I;rw[w66_0,b66_0,u41 (by have:=I.2; omega) x A.g0,hx,qCR,ht];obtain⟨h1,j1,hc,B⟩:=qTv (A.put (t:=s)) (ok.one _ I ro1);show vcall Om F67 [] (H.put (.im 0) (rO L s)) 10 _=_;rw[hc];unfold rowP;rw[if_neg (by rw[hx]; decide)];refine qJL ok hL nm x (L.length+2) _ [(sub s).1] h1 j1 I' ro2 (by omega) (by show 1+_<=_; omega) ?_;show Sp1 h1 L _ nm 1 ((sub s).1.row++[]) j1;rw[List.append_nil];exact B
theorem qPA{L:List Tok}{sub:RS->TT×RS}(nm x:List UInt8)(s:RS)(h:s.p<=1000000)(hx:isM 4 L s x=true) :
  Om 66 [P0,kS x,F67] [rO L s,fO nm (.p .nilslice),boxO 0]=some (.tup [],[rO L (rowP sub L x s).2,fO nm (.p .nilslice),boxO 0]):=by
 refine(qAD rfl).trans ?_;show lim tab.get S 66 3 0 [P0,kS x,F67] (Heap.mk [rO L s,fO nm (.p .nilslice),boxO 0] .nil)=_;have A:Sp0 (Heap.mk [rO L s,fO nm (.p .nilslice),boxO 0] .nil) L s nm:=⟨rfl,rfl,rfl⟩;generalize Heap.mk [rO L s,fO nm (.p .nilslice),boxO 0] .nil=H at A;have ht:takeM 4 L s x=nextM s:=by unfold takeM; rw[hx]; rfl
 rw[w66_0,b66_0,u41 h x A.g0,hx,qD5,ht];unfold rowP;rw[if_pos hx];have A2:=A.put (t:=nextM s);generalize H.put (.im 0) (rO L (nextM s))=h at A2;generalize nextM s=t at *;have e:(ims (2+1)).flatMap (λr=>match h.get r with|some o=>o.refs|none=>[])=[.im 0]:=by
  show([.im 0,.im 1,.im 2]:List Ref).flatMap _=_;simp only[List.flatMap_cons,List.flatMap_nil,A2.g0,A2.g1,A2.g2];rw[(qAC L t).1];rfl
 refine(qCl 2 h [.im 0,.im 1,.im 2] ?_).trans ?_
 ·refine(congrArg (λl=>reach h fuelReach l (ims 3)) e).trans ?_;show reach h (398+1+1) [.im 0] (ims 3)=_;rw[qA1 _ _ _ _ (by decide)];exact qAc _ _
 ·simp only[List.map_cons,List.map_nil,A2.g0,A2.g1,A2.g2,(qAC L t).2];rfl
end Go.Proofs.YtnlmlcfipbnpgaaDoor.Ab
namespace Go.AI
section
variable {β:Type} {O:Oracle} {h:Heap} {d:Nat} {k:TVal->Heap->Option β}
theorem qQx(j sz:Nat)(a b:List PVal)(rows:List (List PVal))(o:AObj)(hz:∀ r∈rows,r.length=sz)(hj0:j≠0)(hg:h.get (.im 0)=some o)(ho:plainO o)(hj:h.get (.im j)=some (.cells (pcells rows.flatten) 0)) :
  vfin true 1 [.agg (pcells a++Cell.sref (.im j) 0 rows.length none sz::pcells b)] h=some (.v (.agg (pcells (a ++ .slice sz false rows::b))),[o]):=by
 letI:Sym:=⟨λ_=>0⟩
 rw[qCL];have e1:(pcells a++Cell.sref (.im j) 0 rows.length none sz::pcells b).mapM (freeze h fuelFreeze)=some ((a.map λx=>(x,[]))++(.slice sz false rows,[.im j])::b.map λx=>(x,[])):=by
  rw[List.mapM_append,show fuelFreeze=29+1 from rfl,qFf,List.mapM_cons,qFf,show(29+1:Nat)=28+2 from rfl,qDv 28 j sz none rows hz hj];rfl
 have e2:((a.map λx=>(x,([]:List Ref)))++(PVal.slice sz false rows,[Ref.im j])::b.map λx=>(x,([]:List Ref))).map (λy=>Cell.p y.1)=pcells (a ++ .slice sz false rows::b):=by
  unfold pcells; rw[List.map_append,List.map_append,List.map_map,List.map_cons,List.map_cons,List.map_map]; rfl
 have n0:∀ a:List PVal,(a.map λx=>(x,([]:List Ref))).flatMap (·.2)=[]:=λa=>by induction a with|nil=>rfl|cons x a ih=>rw[List.map_cons,List.flatMap_cons,ih]; rfl
 have e3:((a.map λx=>(x,([]:List Ref)))++(PVal.slice sz false rows,[Ref.im j])::b.map λx=>(x,([]:List Ref))).flatMap (·.2)=[Ref.im j]:=by
  rw[List.flatMap_append,List.flatMap_cons,n0,n0]; rfl
 have ef:freezeT h (oneOf [.agg (pcells a++Cell.sref (.im j) 0 rows.length none sz::pcells b)])=some (.v (.agg (pcells (a ++ .slice sz false rows::b))),[Ref.im j]):=by
  show((freezeC h _).map _)=_;show((((pcells a++Cell.sref (.im j) 0 rows.length none sz::pcells b).mapM (freeze h fuelFreeze)).map _).map _)=_;rw[e1];show some (TVal.v (.agg (List.map (λy:PVal×List Ref=>Cell.p y.1) _)),(List.flatMap (λx:PVal×List Ref=>x.2) _:List Ref))=_;rw[e2,e3]
 obtain⟨q1,q2,q3,q4⟩:=qAk (show pT (.v (.agg (pcells (a ++ .slice sz false rows::b))))=true from qOG _);obtain⟨h2,hs,hg'⟩:∃ h2,settle h [Ref.im j]=h2/\h2.get (.im 0)=some o:=by
  refine⟨h.put (.im j) (.cells (pcells rows.flatten) (max 0 (pcells rows.flatten).length)),by unfold settle; rw[hj]; rfl,?_⟩;rw[Heap.zput_ne hj (λe=>by cases e; exact hj0 rfl)]; exact hg
 unfold finV;rw[show ims 1=[Ref.im 0] from rfl];simp[ef,hs,hg',q1,q3,ho.1,ho.2,reach,fuelReach]
theorem qSh(r:Ref)(i:Nat):vop O (.box (.k (.v (.c (.ptr r i)))) true) h d k=k (.v (.c (.ptr (.im h.ims.length) 0))) (h.push (.cells [.ptr r i] 0)):=by rw[qEx]; rfl
theorem qR0(f:FuncId)(a b:Ref):vop O (.mkfn f [.k (.v (.c (.ptr a 0))),.k (.v (.c (.ptr b 0)))]) h d k=k (.v (.c (.func f [a,b]))) h:=qAx _ _ rfl
end
end Go.AI
namespace Go.Proofs.YtnlmlcfipbnpgaaDoor.Ab
open Go Go.AI
theorem qDr{L:List Tok}{s:RS}(x:List UInt8)(h:s.p<=L.length):I1 L (sepM x L s)/\s.p+1<=(sepM x L s).p:=by
 have h1:=nm_I h;obtain⟨h2,h3⟩:=qEj (k:=4) (x:=x) (by decide) h1;refine⟨qEa _ h2,?_⟩;unfold sepM;rw[qBS];rw[qB6] at h3;omega
theorem qK2{L:List Tok}{sub:RS->TT×RS}(inv:Inv L sub)(x:List UInt8):∀ (f:Nat) (s:RS) (acc:List TT),I1 L s->I1 L (loopP sub L x f s acc).2/\s.p<=(loopP sub L x f s acc).2.p
 |0,s,acc,I=>⟨I,Nat.le_refl _⟩
 |f+1,s,acc,I=>by
  unfold loopP;split
  ·rename_i hi;obtain⟨h1,h2⟩:=qBC (by decide) hi;obtain⟨I2,q⟩:=inv _ (qIN h2);obtain⟨I3,q3⟩:=qK2 inv x f (sub (nextM s)).2 (acc++[(sub (nextM s)).1]) I2;have:s.p+1<=(sub (nextM s)).2.p:=q;exact⟨I3,by omega⟩
  ·exact qAg x I
theorem qIv{L:List Tok}{sub:RS->TT×RS}(inv:Inv L sub)(x:List UInt8){s:RS}(I:I1 L s):I1 L (rowP sub L x s).2/\s.p<=(rowP sub L x s).2.p:=by
 unfold rowP;split
 ·rename_i hi;obtain⟨h1,h2⟩:=qBC (by decide) hi;exact⟨qIN h2,by show s.p<=s.p+1; omega⟩
 ·obtain⟨I2,q⟩:=inv _ I;obtain⟨I3,q3⟩:=qK2 inv x (L.length+2) (sub s).2 [(sub s).1] I2;exact⟨I3,by omega⟩
def arrM(L:List Tok)(s:RS):RS:=mustM (takeM 4 L s [45,62]) (isM 4 L s [45,62])
def sgM(sub:RS->TT×RS)(L:List Tok)(s:RS):GS×RS :=
 (⟨(peekM L s).text,grown (rowP sub L [41] (sepM [40] L s)).1,(sub (arrM L (rowP sub L [41] (sepM [40] L s)).2)).1⟩,(sub (arrM L (rowP sub L [41] (sepM [40] L s)).2)).2)
def sgOK(sub:RS->TT×RS)(ok:RS->Prop)(L:List Tok)(s:RS):Prop:=rowPOK sub ok L [41] (sepM [40] L s)/\ok (arrM L (rowP sub L [41] (sepM [40] L s)).2)
structure Fh (h:Heap) (L:List Tok) (s:RS) (nm:List UInt8) (c:Cell):Prop where
 g0:h.get (.im 0)=some (rO L s)
 g1:h.get (.im 1)=some (boxO 0)
 g2:h.get (.im 2)=some (.cells [.p (.str []),.p .nilslice,.p (.int .i64 0),.p (.str []),.p .nilslice,.p .nilslice] 0)
 g3:h.get (.im 3)=some (fO nm c)
theorem Fh.put{h:Heap}{L:List Tok}{s t:RS}{nm:List UInt8}{c:Cell}(A:Fh h L s nm c):Fh (h.put (.im 0) (rO L t)) L t nm c :=
 ⟨Heap.zput_self A.g0 (λe=>by cases e),(Heap.zput_ne A.g0 (by decide)).trans A.g1,(Heap.zput_ne A.g0 (by decide)).trans A.g2,(Heap.zput_ne A.g0 (by decide)).trans A.g3⟩
abbrev z6:List Cell:=[.p (.str []),.p .nilslice,.p (.int .i64 0),.p (.str []),.p .nilslice,.p .nilslice]
theorem fn43{L:List Tok}{sub:RS->TT×RS}{okP:RS->Prop}(ok:SubOK 0 L sub okP)(hL:L.length<=1000)(s:RS)(hs:s.p<=L.length)(o:sgOK sub okP L s) :
  Om 43 [P0] [rO L s]=some (kA (gRow (sgM sub L s).1),[rO L (sgM sub L s).2]):=by
 refine(qAD rfl).trans ?_;show lim tab.get S 43 1 0 [P0] (Heap.mk [rO L s] .nil)=_;obtain⟨I1',q1⟩:=qDr [40] hs;obtain⟨I2,q2⟩:=qIv ok.inv [41] I1';obtain⟨I3,q3⟩:=qAg [45,62] I2;obtain⟨o1,o2⟩:=o;have e34:=ok.one _ I3 o2;have hp1:(nmS1 L s).p<=1000000:=by rw[qB6]; omega
 have c65:∀ {β:Type}{k:TVal->Heap->Option β}{h:Heap}{d:Nat},h.get (.im 0)=some (rO L s)->vcall Om (.v (.c (.func 65 []))) [P0] h d k=k (kS (peekM L s).text) (h.put (.im 0) (rO L (nmS1 L s))):=λ{β k h d} hg=>u65 (k:=k) (d:=d) (by omega) hg
 have c41:∀ {β:Type}{h:Heap}{e:Nat}{kt:TVal->Heap->AI.Touch->Option β},h.get (.im 0)=some (rO L (nmS1 L s))->vtouch Om (.call (.k (.v (.c (.func 41 [])))) [.k P0,.k (kS [40])]) h e kt=kt (kB (isM 4 L (nmS1 L s) [40])) (h.put (.im 0) (rO L (takeM 4 L (nmS1 L s) [40]))) ⟨[(Ref.im 0).site,(Ref.im 0).site],[(Ref.im 0).site],false⟩:=λ{β h e kt} hg =>
  qBE 41 (.im 0) (kS [40]) _ _ _ rfl rfl hg (qAC L _) (qAC L _) (qDE L _ hp1 [40])
 have c39:∀ {β:Type}{h:Heap}{e:Nat}{kt:TVal->Heap->AI.Touch->Option β},h.get (.im 0)=some (rO L (takeM 4 L (nmS1 L s) [40]))->vtouch Om (.call (.k (.v (.c (.func 39 [])))) [.k P0,.k (kB (isM 4 L (nmS1 L s) [40]))]) h e kt=kt (.tup []) (h.put (.im 0) (rO L (sepM [40] L s))) ⟨[(Ref.im 0).site,(Ref.im 0).site],[(Ref.im 0).site],false⟩:=λ{β h e kt} hg =>
  qBE 39 (.im 0) (kB (isM 4 L (nmS1 L s) [40])) _ _ _ rfl rfl hg (qAC L _) (qAC L _) (qB5 L _ _)
 have hrm:=qP8 ok hL (peekM L s).text [41] (sepM [40] L s) I1' o1;have hrn:=qPA (sub:=sub) (L:=L) (peekM L s).text [41] (sepM [40] L s) (by have:=I1'.2; omega);unfold sgM;generalize hr:rowP sub L [41] (sepM [40] L s)=r at *;generalize hs1:sepM [40] L s=s1 at *;generalize isM 4 L (nmS1 L s) [40]=bc at *;generalize takeM 4 L (nmS1 L s) [40]=s2 at *;generalize nmS1 L s=s0 at *;generalize (peekM L s).text=nm at *;have G0:∀ (a:RS) (cs:List AObj) (o:TM (Nat×AObj)),(Heap.mk (rO L a::cs) o).get (.im 0)=some (rO L a):=λ_ _ _=>rfl
 have G1:∀ (a:AObj) (cs:List AObj) (o:TM (Nat×AObj)),(Heap.mk (a::boxO 0::cs) o).get (.im 1)=some (boxO 0):=λ_ _ _=>rfl
 have G3:∀ (a b c:AObj) (cs:List AObj) (o:TM (Nat×AObj)),(Heap.mk (a::b::c :: .cells z6 0::cs) o).get (.im 3)=some (.cells z6 0):=λ_ _ _ _ _=>rfl
 have GP:∀ (a b:RS) (cs:List AObj) (o:TM (Nat×AObj)),(Heap.mk (rO L a::cs) o).put (.im 0) (rO L b)=Heap.mk (rO L b::cs) o:=λ_ _ _ _=>rfl
 have GP3:∀ (a b c e x:AObj) (cs:List AObj) (o:TM (Nat×AObj)),(Heap.mk (a::b::c::e::cs) o).put (.im 3) x=Heap.mk (a::b::c::x::cs) o:=λ_ _ _ _ _ _ _=>rfl
 have U1:∀ (a x:AObj) (o:TM (Nat×AObj)),(Heap.mk [a] o).push x=Heap.mk [a,x] o:=λ_ _ _=>rfl
 have U2:∀ (a b x:AObj) (o:TM (Nat×AObj)),(Heap.mk [a,b] o).push x=Heap.mk [a,b,x] o:=λ_ _ _ _=>rfl
 have U3:∀ (a b c x:AObj) (o:TM (Nat×AObj)),(Heap.mk [a,b,c] o).push x=Heap.mk [a,b,c,x] o:=λ_ _ _ _ _=>rfl
 have LN:∀ (l:List AObj) (o:TM (Nat×AObj)),(Heap.mk l o).ims=l:=λ_ _=>rfl
 have P6:∀ a b c d e f:Cell,put1 z6 0 [a,b,c,d,e,f]=[a,b,c,d,e,f]:=λ_ _ _ _ _ _=>rfl
 rw[w43_0,b43_0];simp (maxSteps:=9999999) +contextual only[exa,rA,rB,rC,rD,rE,rF,rG,rH,rI,exT,exW,exY,qSh,qEE,qR0,U1,U2,U3,LN,List.length_cons,List.length_nil,G0,G1,G3,GP,GP3,c65,c41,c39,if_false,oneOf,P6];generalize hh:(Heap.mk [rO L s1,boxO 0,.cells z6 0,fO nm (.p .nilslice)] .nil)=h;have F0:h.get (.im 0)=some (rO L s1):=by rw[<- hh]; rfl
 have F1:h.get (.im 1)=some (boxO 0):=by rw[<- hh]; rfl
 have F2:h.get (.im 2)=some (.cells z6 0):=by rw[<- hh]; rfl
 have F3:h.get (.im 3)=some (fO nm (.p .nilslice)):=by rw[<- hh]; rfl
 have Fl:h.ims.length=4:=by rw[<- hh]; rfl
 clear hh;have T1:AI.Touch.apart ⟨[(Ref.im 1).site],[],false⟩ ⟨[(Ref.im 0).site,(Ref.im 0).site],[(Ref.im 0).site],false⟩=true:=rfl;rw[T1];have hreach:reach h fuelReach ([P0,kS [41],.v (.c (.func 67 [.im 3,.im 1]))].flatMap TVal.refs) []=[.im 0,.im 3,.im 1]:=by
  show reach h (395+1+1+1+1+1) [.im 0,.im 3,.im 1] []=_;rw[qAK _ (.im 0) _ _ _ (by decide) F0,(qAC L s1).1];show reach h (395+1+1+1+1) [.im 3,.im 1] [.im 0]=_;rw[qAK _ (.im 3) _ _ _ (by decide) F3];show reach h (395+1+1+1) [.im 1] [.im 0,.im 3]=_;rw[qAK _ (.im 1) _ _ _ (by decide) F1];show reach h (395+1+1) [.im 0] [.im 0,.im 3,.im 1]=_;rw[qA1 _ _ _ _ (by decide)];exact qAc _ _
 have hm:([.im 0,.im 3,.im 1]:List Ref).mapM h.get=some [rO L s1,fO nm (.p .nilslice),boxO 0]:=by
  simp only[List.mapM_cons,List.mapM_nil,F0,F1,F3,Option.pure_def,rL,Option.bind_some]
 have e5:([rO L s1,fO nm (.p .nilslice),boxO 0]:List AObj).map (AObj.ren (inn [.im 0,.im 3,.im 1]))=[rO L s1,fO nm (.p .nilslice),boxO 0]:=by
  rw[List.map_cons,(qAC L s1).2]; rfl
 have hp2:r.2.p<=1000000:=by have:=I2.2; omega
 have d41:∀ {β:Type}{h:Heap}{e:Nat}{kt:TVal->Heap->AI.Touch->Option β},h.get (.im 0)=some (rO L r.2)->vtouch Om (.call (.k (.v (.c (.func 41 [])))) [.k P0,.k (kS [45,62])]) h e kt=kt (kB (isM 4 L r.2 [45,62])) (h.put (.im 0) (rO L (takeM 4 L r.2 [45,62]))) ⟨[(Ref.im 0).site,(Ref.im 0).site],[(Ref.im 0).site],false⟩:=λ{β h e kt} hg =>
  qBE 41 (.im 0) (kS [45,62]) _ _ _ rfl rfl hg (qAC L _) (qAC L _) (qDE L _ hp2 [45,62])
 have d39:∀ {β:Type}{h:Heap}{e:Nat}{kt:TVal->Heap->AI.Touch->Option β},h.get (.im 0)=some (rO L (takeM 4 L r.2 [45,62]))->vtouch Om (.call (.k (.v (.c (.func 39 [])))) [.k P0,.k (kB (isM 4 L r.2 [45,62]))]) h e kt=kt (.tup []) (h.put (.im 0) (rO L (arrM L r.2))) ⟨[(Ref.im 0).site,(Ref.im 0).site],[(Ref.im 0).site],false⟩:=λ{β h e kt} hg =>
  qBE 39 (.im 0) (kB (isM 4 L r.2 [45,62])) _ _ _ rfl rfl hg (qAC L _) (qAC L _) (qB5 L _ _)
 change Om 34 [P0,kI 1] [rO L (arrM L r.2)]=some (kA (sub (arrM L r.2)).1.row,[rO L (sub (arrM L r.2)).2]) at e34;have d34:∀ {β:Type}{k:TVal->Heap->Option β}{h:Heap}{e:Nat},h.get (.im 0)=some (rO L (arrM L r.2))->vcall Om (.v (.c (.func 34 []))) [P0,kI 1] h e k=k (kA (sub (arrM L r.2)).1.row) (h.put (.im 0) (rO L (sub (arrM L r.2)).2)):=λ{β k h e} hg =>
  qAU 34 (.im 0) 0 [] [kI 1] _ _ _ rfl rfl hg (qAC L _) (qAC L _) (by simp only[exP]) e34
 obtain⟨a1,a2,a3,a4,ha⟩:=qAY (sub (arrM L r.2)).1;unfold gRow;rw[ha] at d34;show _=some (kA (PVal.str nm::slP 4 TT.row (grown r.1)::(sub (arrM L r.2)).1.row),[rO L (sub (arrM L r.2)).2]);rw[ha];generalize sub (arrM L r.2)=res at *;generalize arrM L r.2=s5 at *;generalize isM 4 L r.2 [45,62]=b2 at *;generalize takeM 4 L r.2 [45,62]=s4 at *;have pr:pcells [a1,a2,a3,a4]=[.p a1,.p a2,.p a3,.p a4]:=rfl;have P64:∀ a b c d e f w x y z:Cell,put1 [a,b,c,d,e,f] 2 [w,x,y,z]=[a,b,w,x,y,z]:=λ_ _ _ _ _ _ _ _ _ _=>rfl
 cases hx:isM 4 L s1 [41] with
 |true =>
  have hc66:=hrn hx;have h10:r.1=[]:=by rw[<- hr]; unfold rowP; rw[if_pos hx]
  obtain⟨h1,hc,B⟩:=qBz (O:=Om) (h:=h) 66 [P0,kS [41],.v (.c (.func 67 [.im 3,.im 1]))] _ [P0,kS [41],F67] _ _ _ _ _ (.tup []) rfl hreach hm rfl e5 hc66 (Nat.le_refl 3) (by decide) rfl;have A1:Fh h1 L r.2 nm (.p .nilslice):=⟨B.own 0 (.im 0) _ rfl (by show some ((rO L r.2).ren _)=_; rw[(qAC L r.2).2]) (λe=>by cases e),B.own 2 (.im 1) _ rfl rfl (λe=>by cases e),B.old (.im 2) _ (by decide) F2,B.own 1 (.im 3) _ rfl rfl (λe=>by cases e)⟩;rw[hc,h10];have A2:=A1.put (t:=s4);have A3:=A2.put (t:=s5);have A4:=A3.put (t:=res.2);have A5:∀ cs,((((h1.put (.im 0) (rO L s4)).put (.im 0) (rO L s5)).put (.im 0) (rO L res.2)).put (.im 3) (.cells cs 0)).get (.im 3)=some (.cells cs 0):=λcs=>Heap.zput_self A4.g3 (λe=>by cases e)
  have A6:∀ cs,((((h1.put (.im 0) (rO L s4)).put (.im 0) (rO L s5)).put (.im 0) (rO L res.2)).put (.im 3) (.cells cs 0)).get (.im 2)=some (.cells [.p (.str []),.p .nilslice,.p (.int .i64 0),.p (.str []),.p .nilslice,.p .nilslice] 0):=λcs=>(Heap.zput_ne A4.g3 (by decide)).trans A4.g2
  have A7:∀ cs ds,(((((h1.put (.im 0) (rO L s4)).put (.im 0) (rO L s5)).put (.im 0) (rO L res.2)).put (.im 3) (.cells cs 0)).put (.im 2) (.cells ds 0)).get (.im 2)=some (.cells ds 0):=λcs ds=>Heap.zput_self (A6 cs) (λe=>by cases e)
  simp (maxSteps:=9999999) +contextual only[exa,rA,rB,rC,rD,rE,rF,rG,rH,rI,exT,exW,exY,A1.g0,A1.g1,A2.g0,A3.g0,A3.g1,A4.g0,A4.g1,A4.g3,A5,A6,A7,d41,d39,d34,T1,pr,P64,P6,if_false,oneOf];exact qAP true [.agg (pcells [.str nm,.nilslice,a1,a2,a3,a4])] _ (by simp only[exP]) ((Heap.zput_ne (A6 _) (by decide)).trans ((Heap.zput_ne A4.g3 (by decide)).trans A4.g0)) (qAC L res.2)
 |false =>
  have hc66:=hrm hx;have hne:r.1≠[]:=by
   rw[<- hr]; unfold rowP; rw[if_neg (by rw[hx]; decide)];have:∀ (f:Nat) (s:RS) (acc:List TT),acc≠[]->(loopP sub L [41] f s acc).1≠[]:=by
    intro f
    induction f with
    |zero=>intro s acc h; exact h
    |succ f ih =>
     intro s acc h;unfold loopP;split
     ·exact ih _ _ (by simp)
     ·exact h
   exact this _ _ _ (by simp)
  have pl:=qAB (tRows r.1) 0;obtain⟨h1,hc,B⟩:=qBz (O:=Om) (h:=h) 66 [P0,kS [41],.v (.c (.func 67 [.im 3,.im 1]))] _ [P0,kS [41],F67] _ _ _ _ _ (.tup []) rfl hreach hm rfl e5 hc66 (show(3:Nat)<=4 by decide) (by decide) rfl;have A1:Fh h1 L r.2 nm (.sref (.im (h.ims.length+0)) 0 r.1.length none 4):=⟨B.own 0 (.im 0) _ rfl (by show some ((rO L r.2).ren _)=_; rw[(qAC L r.2).2]) (λe=>by cases e),B.own 2 (.im 1) _ rfl rfl (λe=>by cases e),B.old (.im 2) _ (by decide) F2,B.own 1 (.im 3) _ rfl rfl (λe=>by cases e)⟩;have Gj:h1.get (.im (h.ims.length+0))=some (.cells (pcells (tRows r.1)) 0):=B.new 0 _ (congrArg some (pl.2 _)) (λe=>by cases e);rw[Fl] at A1 Gj;rw[hc];have A2:=A1.put (t:=s4);have A3:=A2.put (t:=s5);have A4:=A3.put (t:=res.2);have A5:∀ cs,((((h1.put (.im 0) (rO L s4)).put (.im 0) (rO L s5)).put (.im 0) (rO L res.2)).put (.im 3) (.cells cs 0)).get (.im 3)=some (.cells cs 0):=λcs=>Heap.zput_self A4.g3 (λe=>by cases e)
  have A6:∀ cs,((((h1.put (.im 0) (rO L s4)).put (.im 0) (rO L s5)).put (.im 0) (rO L res.2)).put (.im 3) (.cells cs 0)).get (.im 2)=some (.cells [.p (.str []),.p .nilslice,.p (.int .i64 0),.p (.str []),.p .nilslice,.p .nilslice] 0):=λcs=>(Heap.zput_ne A4.g3 (by decide)).trans A4.g2
  have A7:∀ cs ds,(((((h1.put (.im 0) (rO L s4)).put (.im 0) (rO L s5)).put (.im 0) (rO L res.2)).put (.im 3) (.cells cs 0)).put (.im 2) (.cells ds 0)).get (.im 2)=some (.cells ds 0):=λcs ds=>Heap.zput_self (A6 cs) (λe=>by cases e)
  simp (maxSteps:=9999999) +contextual only[exa,rA,rB,rC,rD,rE,rF,rG,rH,rI,exT,exW,exY,A1.g0,A1.g1,A2.g0,A3.g0,A3.g1,A4.g0,A4.g1,A4.g3,A5,A6,A7,d41,d39,d34,T1,pr,P64,P6,if_false,oneOf];have gl:slP 4 TT.row (grown r.1) = .slice 4 false (r.1.map TT.row):=by
   rw[<- qEU];cases hq:r.1 with
   |nil=>exact absurd hq hne
   |cons a l=>rfl
  rw[gl];have hflat:(r.1.map TT.row).flatten=tRows r.1:=by unfold tRows; rw[List.flatMap_def]
  have:=qQx (h:=(((((h1.put (.im 0) (rO L s4)).put (.im 0) (rO L s5)).put (.im 0) (rO L res.2)).put (.im 3) (.cells [.p (.str nm),.sref (.im 4) 0 r.1.length none 4,.p a1,.p a2,.p a3,.p a4] 0)).put (.im 2) (.cells [.p (.str nm),.sref (.im 4) 0 r.1.length none 4,.p a1,.p a2,.p a3,.p a4] 0))) 4 4 [.str nm] [a1,a2,a3,a4] (r.1.map TT.row) (rO L res.2) (λx hx=>by obtain⟨t,_,rfl⟩:=List.mem_map.1 hx; rw[TT.row_len]) (by decide) ((Heap.zput_ne (A6 _) (by decide)).trans ((Heap.zput_ne A4.g3 (by decide)).trans A4.g0)) (qAC L res.2) (by
   rw[hflat]
   exact(Heap.zput_ne (A6 _) (by decide)).trans ((Heap.zput_ne A4.g3 (by decide)).trans ((Heap.zput_ne A3.g0 (by decide)).trans ((Heap.zput_ne A2.g0 (by decide)).trans ((Heap.zput_ne A1.g0 (by decide)).trans Gj)))))
  rw[List.length_map] at this;exact this
end Go.Proofs.YtnlmlcfipbnpgaaDoor.Ab
namespace Go.AI
section
variable {β:Type} {O:Oracle} {h:Heap} {d:Nat} {k:TVal->Heap->Option β} {kt:TVal->Heap->Touch->Option β}
theorem qD7(g:FuncId)(r:Ref)(v:TVal)(o o':AObj)(hv:pT v=true)(hg:h.get r=some o)(ho:plainO o)(ho':plainO o')(hc:O g [.v (.c (.ptr (.im 0) 0))] [o]=some (v,[o'])) :
  vtouch O (.call (.k (.v (.c (.func g [])))) [.k (.v (.c (.ptr r 0)))]) h d kt=kt v (h.put r o') ⟨[r.site,r.site],[r.site],false⟩:=by
 obtain⟨p1,p2,p3,p4⟩:=qAk hv;have e2:reach h fuelReach ([TVal.v (.c (.ptr r 0))].flatMap TVal.refs) []=[r]:=by
  show reach h (398+1+1) [r] []=_;rw[qAK _ r [] [] o (by simp) hg,ho.1];exact qAc _ _
 have e3:([r]:List Ref).mapM h.get=some [o]:=by simp only[List.mapM_cons,List.mapM_nil,hg,Option.pure_def,rL,Option.bind_some]
 have ir:inn [r] r=some (.im 0):=by simp[inn,idx]
 have e4:([TVal.v (.c (.ptr r 0))]).map (TVal.ren (inn [r]))=[.v (.c (.ptr (.im 0) 0))]:=by
  show [TVal.v (.c (match inn [r] r with|some s => .ptr s 0|none => .junk))]=_;rw[ir]
 have co:=qF2 (d:=d) (h:=h) (O:=O) g [.v (.c (.ptr r 0))] [.v (.c (.ptr r 0))] _ [r] [o] [o] [o'] v rfl e2 e3 e4 (by rw[List.map_cons,ho.2]; rfl) hc (Nat.le_refl _);have hp:plan .nil (.call (.k (.v (.c (.func g [])))) [.k (.v (.c (.ptr r 0)))])=some (.call g [.v (.c (.ptr r 0))]):=rfl;show bnd (plan2 (.call (.k (.v (.c (.func g [])))) [.k (.v (.c (.ptr r 0)))]) .nil) (λp=>bnd (p.exec O d h) λx=>kt x.1 x.2.1 x.2.2)=_;rw[qAr,hp];show bnd (callOp O g [.v (.c (.ptr r 0))] d h) _=_;rw[co,bnd_some];have h1:hAfter h [r] [o']=h.put r o':=by show h.put r (o'.ren _)=_; rw[ho'.2]
 have h2:gTouch h [.v (.c (.ptr r 0))] [o] [r] [o']=⟨[r.site,r.site],[r.site],false⟩:=by
  unfold gTouch;rw[List.flatMap_cons,List.flatMap_nil,List.flatMap_cons,List.flatMap_nil,ho.1];rfl
 dsimp only;rw[h1,h2,p3]
theorem qQa(z:List Cell)(c0 c1 c2 c3 c4:PVal)(hz:z=[.p (.str []),.p (.int .i64 0),.p (.str []),.p .nilslice,.p .nilslice]):vtouch O (.bslice 5 1 z [(0,.k (.v (.agg (pcells [c0,c1,c2,c3,c4]))))] true) h d kt=kt (.v (.c (.sref (.im h.ims.length) 0 1 (some 1) 5))) (h.push (.cells [.p c0,.p c1,.p c2,.p c3,.p c4] 0)) ⟨[],[.im h.ims.length],true⟩:=by
 subst hz;exact qBv _ [] _ _ _ _ rfl rfl
theorem qQd(z:List Cell)(c0 c1 c2 c3 c4 c5:PVal)(hz:z=[.p (.str []),.p .nilslice,.p (.int .i64 0),.p (.str []),.p .nilslice,.p .nilslice]):vtouch O (.bslice 6 1 z [(0,.k (.v (.agg (pcells [c0,c1,c2,c3,c4,c5]))))] true) h d kt=kt (.v (.c (.sref (.im h.ims.length) 0 1 (some 1) 6))) (h.push (.cells [.p c0,.p c1,.p c2,.p c3,.p c4,.p c5] 0)) ⟨[],[.im h.ims.length],true⟩:=by
 subst hz;exact qBv _ [] _ _ _ _ rfl rfl
theorem qGt(n:Nat)(hn:n≠2):Touch.apart ⟨[(Ref.im 2).site],[],false⟩ ⟨[],[.im n],true⟩=true:=by
 unfold Touch.apart disj;have:(Ref.im 2).site=Site.im 2:=rfl;rw[this];simp;omega
end
end Go.AI
namespace Go.Proofs.YtnlmlcfipbnpgaaDoor.Ab
open Go Go.AI
abbrev z6s:List Cell:=[.p (.int .i64 0),.p (.str []),.p .nilslice,.p .nilslice,.p .nilslice,.p .nilslice]
def AtN(h:Heap)(ns:Es)(T:Cell):Prop:=(ns=[]/\T = .p .nilslice)\/(ns≠[]/\∃ j,3<=j/\T = .sref (.im j) 0 ns.length none 5/\h.get (.im j)=some (.cells (pcells (eRows ns)) 0))
def AtF(h:Heap)(gs:Gs)(G:Cell):Prop:=(gs=[]/\G = .p .nilslice)\/(gs≠[]/\∃ j,3<=j/\G = .sref (.im j) 0 gs.length none 6/\h.get (.im j)=some (.cells (pcells (gRows gs)) 0))
structure Ps (h:Heap) (L:List Tok) (s:RS) (main:TT) (ns:Es) (gs:Gs) (T G:Cell):Prop where
 g0:h.get (.im 0)=some (.cells z6s 0)
 g1:h.get (.im 1)=some (rO L s)
 g2:h.get (.im 2)=some (.cells (pcells main.row++[T,G]) 0)
 tT:AtN h ns T
 tG:AtF h gs G
 ap:∀ r∈T.refs,r∉G.refs
theorem AtN.ref{h:Heap}{ns:Es}{T:Cell}(A:AtN h ns T):∀ r∈T.refs,∃ j,r = .im j/\3<=j/\j<h.ims.length:=by
 rcases A with ⟨_,rfl⟩|⟨_,j,hj,rfl,hg⟩
 ·intro r hr; cases hr
 ·intro r hr;have:r = .im j:=by simpa [Cell.refs] using hr
  refine⟨j,this,hj,?_⟩;have:=(Heap.get_im_some hg).1;exact(List.getElem?_eq_some_iff.1 this).1
theorem AtF.ref{h:Heap}{ns:Gs}{T:Cell}(A:AtF h ns T):∀ r∈T.refs,∃ j,r = .im j/\3<=j/\j<h.ims.length:=by
 rcases A with ⟨_,rfl⟩|⟨_,j,hj,rfl,hg⟩
 ·intro r hr; cases hr
 ·intro r hr;have:r = .im j:=by simpa [Cell.refs] using hr
  refine⟨j,this,hj,?_⟩;have:=(Heap.get_im_some hg).1;exact(List.getElem?_eq_some_iff.1 this).1
theorem AtN.keep{h h':Heap}{ns:Es}{T:Cell}(A:AtN h ns T)(k:∀ r∈T.refs,h'.get r=h.get r):AtN h' ns T:=by
 rcases A with ⟨e,rfl⟩|⟨e,j,hj,rfl,hg⟩
 ·exact .inl ⟨e,rfl⟩
 ·exact .inr ⟨e,j,hj,rfl,(k (.im j) (by simp[Cell.refs])).trans hg⟩
theorem AtF.keep{h h':Heap}{ns:Gs}{T:Cell}(A:AtF h ns T)(k:∀ r∈T.refs,h'.get r=h.get r):AtF h' ns T:=by
 rcases A with ⟨e,rfl⟩|⟨e,j,hj,rfl,hg⟩
 ·exact .inl ⟨e,rfl⟩
 ·exact .inr ⟨e,j,hj,rfl,(k (.im j) (by simp[Cell.refs])).trans hg⟩
theorem Ps.put{h:Heap}{L:List Tok}{s t:RS}{main:TT}{ns:Es}{gs:Gs}{T G:Cell}(A:Ps h L s main ns gs T G):Ps (h.put (.im 1) (rO L t)) L t main ns gs T G:=by
 have k:∀ j,3<=j->(h.put (.im 1) (rO L t)).get (.im j)=h.get (.im j):=λj hj=>Heap.zput_ne A.g1 (λe=>by cases e; omega)
 refine⟨(Heap.zput_ne A.g1 (by decide)).trans A.g0,Heap.zput_self A.g1 (λe=>by cases e),(Heap.zput_ne A.g1 (by decide)).trans A.g2,A.tT.keep λr hr => ?_,A.tG.keep λr hr => ?_,A.ap⟩
 ·obtain⟨j,rfl,hj,_⟩:=A.tT.ref r hr; exact k j hj
 ·obtain⟨j,rfl,hj,_⟩:=A.tG.ref r hr; exact k j hj
theorem Ps.len{h:Heap}{L:List Tok}{s:RS}{main:TT}{ns:Es}{gs:Gs}{T G:Cell}(A:Ps h L s main ns gs T G):3<=h.ims.length:=by
 have:=(Heap.get_im_some A.g2).1;have:=(List.getElem?_eq_some_iff.1 this).1;omega
def tyW:List UInt8:=[116,121,112,101]
theorem qNc{h:Heap}{L:List Tok}{s s':RS}{main v:TT}{gs:Gs}{G:Cell}(A:Ps h L s main [] gs (.p .nilslice) G)(hp1:s.p<=900000)(he:s.e=0)(hp:s.p<L.length)(hk:isM 1 L s tyW=true)
  (e42:Om 42 [P0] [rO L (nextM s)]=some (kA (eRow (peekM L (nextM s)).text v),[rO L s'])) :
  ∃ h' T',Ps h' L s' main [((peekM L (nextM s)).text,v)] gs T' G/\lim tab.get S 22 0 1 [pI 0,pI 1,pI 2] h=lim tab.get S 22 0 2 [pI 0,pI 1,pI 2] h':=by
 obtain⟨m1,m2,m3,m4,hm⟩:=qAY main;obtain⟨a1,a2,a3,a4,ha⟩:=qAY v;generalize hkey:(peekM L (nextM s)).text=key at *;have ht:takeM 1 L s tyW=nextM s:=by unfold takeM; rw[hk]; rfl
 have k40:=qD6 L s (by omega) tyW;rw[hk,ht] at k40;have A1:=A.put (t:=nextM s);have A2:=A1.put (t:=s');have c40:∀ {β:Type}{k:TVal->Heap->Option β}{d:Nat},vcall Om (.v (.c (.func 40 []))) [pI 1,kS [116,121,112,101]] h d k=k (kB true) (h.put (.im 1) (rO L (nextM s))):=λ{β k d} =>
  qAU 40 (.im 1) 0 [] [kS tyW] _ _ _ rfl rfl A.g1 (qAC L _) (qAC L _) rfl k40
 have E42:∀ {β:Type}{d:Nat}{kt:TVal->Heap->AI.Touch->Option β},vtouch Om (.call (.k (.v (.c (.func 42 [])))) [.k (pI 1)]) (h.put (.im 1) (rO L (nextM s))) d kt=kt (kA (eRow key v)) ((h.put (.im 1) (rO L (nextM s))).put (.im 1) (rO L s')) ⟨[(Ref.im 1).site,(Ref.im 1).site],[(Ref.im 1).site],false⟩:=λ{β d kt} =>
  qD7 42 (.im 1) _ _ _ (by simp only[exP]) A1.g1 (qAC L _) (qAC L _) e42
 unfold eRow at E42;rw[ha] at E42;generalize h.put (.im 1) (rO L (nextM s))=h1 at *;generalize h1.put (.im 1) (rO L s')=h2 at *;have B1:=A.g1;have B2:=A1.g2;have B3:=A2.g2;rw[hm] at B2 B3;change h1.get (.im 2)=some (.cells [.p m1,.p m2,.p m3,.p m4,.p .nilslice,G] 0) at B2;change h2.get (.im 2)=some (.cells [.p m1,.p m2,.p m3,.p m4,.p .nilslice,G] 0) at B3;have h3l:=A2.len;have gb:(h2.push (.cells [.p (.str key),.p a1,.p a2,.p a3,.p a4] 0)).get (.im h2.ims.length)=some (.cells [.p (.str key),.p a1,.p a2,.p a3,.p a4] 0):=qAu h2 _ (λe=>by cases e);have ap:=λ{β:Type} {kt:TVal->Heap->AI.Touch->Option β} {d:Nat}=>qED (O:=Om) (kt:=kt) (d:=d) (sz:=5) (by':=88) (lb:=1) (capb:=some 1) (by omega) (by omega) gb rfl
 have l3:(h2.push (.cells [.p (.str key),.p a1,.p a2,.p a3,.p a4] 0)).ims.length=h2.ims.length+1:=push_len _ _;have K4:((h2.push (.cells [.p (.str key),.p a1,.p a2,.p a3,.p a4] 0)).push (.cells [.p (.str key),.p a1,.p a2,.p a3,.p a4] 0)).get (.im 2)=some (.cells [.p m1,.p m2,.p m3,.p m4,.p .nilslice,G] 0):=(qAQ _ _ _ (by rw[l3]; omega)).trans ((qAQ _ _ _ (by omega)).trans B3);have T12:AI.Touch.apart ⟨[(Ref.im 2).site],[],false⟩ ⟨[(Ref.im 1).site,(Ref.im 1).site],[(Ref.im 1).site],false⟩=true:=rfl;have TN:=qGt h2.ims.length (by omega);have BS:∀ {β:Type}{d:Nat}{kt:TVal->Heap->AI.Touch->Option β},vtouch Om (.bslice 5 1 z5 [(0,.k (kA [.str key,a1,a2,a3,a4]))] true) h2 d kt=kt (.v (.c (.sref (.im h2.ims.length) 0 1 (some 1) 5))) (h2.push (.cells [.p (.str key),.p a1,.p a2,.p a3,.p a4] 0)) ⟨[],[.im h2.ims.length],true⟩:=λ{β d kt}=>qQa _ _ _ _ _ _ rfl
 have P4:∀ x:Cell,put1 [.p m1,.p m2,.p m3,.p m4,.p .nilslice,G] 4 [x]=[.p m1,.p m2,.p m3,.p m4,x,G]:=λ_=>rfl
 have pr:pcells [.str key,a1,a2,a3,a4]=[.p (.str key),.p a1,.p a2,.p a3,.p a4]:=rfl;have q1:(s.p:Int)<(L.length:Int):=by omega
 refine⟨((h2.push (.cells [.p (.str key),.p a1,.p a2,.p a3,.p a4] 0)).push (.cells [.p (.str key),.p a1,.p a2,.p a3,.p a4] 0)).put (.im 2) (.cells [.p m1,.p m2,.p m3,.p m4,.sref (.im (h2.push (.cells [.p (.str key),.p a1,.p a2,.p a3,.p a4] 0)).ims.length) 0 1 none 5,G] 0),.sref (.im (h2.push (.cells [.p (.str key),.p a1,.p a2,.p a3,.p a4] 0)).ims.length) 0 1 none 5,?_,?_⟩
 ·have old:∀ i o,i≠2->i<h2.ims.length->h2.get (.im i)=some o->(((h2.push (.cells [.p (.str key),.p a1,.p a2,.p a3,.p a4] 0)).push (.cells [.p (.str key),.p a1,.p a2,.p a3,.p a4] 0)).put (.im 2) (.cells [.p m1,.p m2,.p m3,.p m4,.sref (.im (h2.push (.cells [.p (.str key),.p a1,.p a2,.p a3,.p a4] 0)).ims.length) 0 1 none 5,G] 0)).get (.im i)=some o:=λi o hi hl ho =>
   (Heap.zput_ne K4 (λe=>by cases e; exact hi rfl)).trans ((qAQ _ _ _ (by rw[l3]; omega)).trans ((qAQ _ _ _ hl).trans ho))
  refine⟨old 0 _ (by decide) (by omega) A2.g0,old 1 _ (by decide) (by omega) A2.g1,by rw[hm]; exact Heap.zput_self K4 (λe=>by cases e),.inr ⟨by simp,_,by rw[l3]; omega,rfl,?_⟩,?_,?_⟩
  ·have:eRows [(key,v)]=[.str key,a1,a2,a3,a4]:=by show eRow key v++[]=_; unfold eRow; rw[ha]; rfl
   rw[this];exact(Heap.zput_ne K4 (λe=>by have:=Ref.im.inj e; rw[l3] at this; omega)).trans (qAu _ _ (λe=>by cases e))
  ·rcases A2.tG with ⟨e,rfl⟩|⟨e,j,hj,rfl,hg⟩
   ·exact .inl ⟨e,rfl⟩
   ·have:=(Heap.get_im_some hg).1;have:=(List.getElem?_eq_some_iff.1 this).1;exact .inr ⟨e,j,hj,rfl,old j _ (by omega) this hg⟩
  ·intro r hr hr2;obtain⟨j,rfl,_,hj⟩:=A2.tG.ref r hr2;have:Ref.im j=Ref.im (h2.push (.cells [.p (.str key),.p a1,.p a2,.p a3,.p a4] 0)).ims.length:=by simpa [Cell.refs] using hr
   rw[l3] at this;cases this;omega
 ·rw[w22_1,b22_1];simp (maxSteps:=9999999) +contextual only[exa,rA,rB,rC,rD,rE,rF,rG,rH,rI,exT,exW,exY,B1,he,q1,qBT,c40,B2,E42,pr,BS,qAv,ap,K4,P4,T12,TN,if_false,oneOf]
theorem qMb{h:Heap}{L:List Tok}{s s':RS}{main v:TT}{ns:Es}{gs:Gs}{G:Cell}{j:Nat}(hj:3<=j)(hne:ns≠[])(hn:ns.length<=80000)(A:Ps h L s main ns gs (.sref (.im j) 0 ns.length none 5) G)(hp1:s.p<=900000)(he:s.e=0)(hp:s.p<L.length)(hk:isM 1 L s tyW=true)
  (e42:Om 42 [P0] [rO L (nextM s)]=some (kA (eRow (peekM L (nextM s)).text v),[rO L s'])) :
  ∃ h' T',Ps h' L s' main (ns++[((peekM L (nextM s)).text,v)]) gs T' G/\lim tab.get S 22 0 1 [pI 0,pI 1,pI 2] h=lim tab.get S 22 0 2 [pI 0,pI 1,pI 2] h':=by
 obtain⟨m1,m2,m3,m4,hm⟩:=qAY main;obtain⟨a1,a2,a3,a4,ha⟩:=qAY v;generalize hkey:(peekM L (nextM s)).text=key at *;have ht:takeM 1 L s tyW=nextM s:=by unfold takeM; rw[hk]; rfl
 have k40:=qD6 L s (by omega) tyW;rw[hk,ht] at k40;have A1:=A.put (t:=nextM s);have A2:=A1.put (t:=s');have c40:∀ {β:Type}{k:TVal->Heap->Option β}{d:Nat},vcall Om (.v (.c (.func 40 []))) [pI 1,kS [116,121,112,101]] h d k=k (kB true) (h.put (.im 1) (rO L (nextM s))):=λ{β k d} =>
  qAU 40 (.im 1) 0 [] [kS tyW] _ _ _ rfl rfl A.g1 (qAC L _) (qAC L _) rfl k40
 have E42:∀ {β:Type}{d:Nat}{kt:TVal->Heap->AI.Touch->Option β},vtouch Om (.call (.k (.v (.c (.func 42 [])))) [.k (pI 1)]) (h.put (.im 1) (rO L (nextM s))) d kt=kt (kA (eRow key v)) ((h.put (.im 1) (rO L (nextM s))).put (.im 1) (rO L s')) ⟨[(Ref.im 1).site,(Ref.im 1).site],[(Ref.im 1).site],false⟩:=λ{β d kt} =>
  qD7 42 (.im 1) _ _ _ (by simp only[exP]) A1.g1 (qAC L _) (qAC L _) e42
 unfold eRow at E42;rw[ha] at E42;generalize h.put (.im 1) (rO L (nextM s))=h1 at *;generalize h1.put (.im 1) (rO L s')=h2 at *;have B1:=A.g1;have B2:=A1.g2;have B3:=A2.g2;rw[hm] at B2 B3;change h1.get (.im 2)=some (.cells [.p m1,.p m2,.p m3,.p m4,.sref (.im j) 0 ns.length none 5,G] 0) at B2;change h2.get (.im 2)=some (.cells [.p m1,.p m2,.p m3,.p m4,.sref (.im j) 0 ns.length none 5,G] 0) at B3;have h3l:=A2.len;have hgj:h2.get (.im j)=some (.cells (pcells (eRows ns)) 0):=by
  rcases A2.tT with ⟨e,_⟩|⟨_,j',_,e,hg⟩
  ·exact absurd e hne
  ·cases e; exact hg
 have hX:(pcells (eRows ns)).length=ns.length*5:=by rw[qAN,qDP]
 have hXe:pcells (eRows (ns++[(key,v)]))=pcells (eRows ns)++[.p (.str key),.p a1,.p a2,.p a3,.p a4]:=by
  have:eRows (ns++[(key,v)])=eRows ns++[.str key,a1,a2,a3,a4]:=by rw[qGL]; show _++eRow key v=_; unfold eRow; rw[ha]
  rw[this]; unfold pcells; rw[List.map_append]; rfl
 generalize pcells (eRows ns)=X at hgj hX hXe;have hjl:j<h2.ims.length:=by
  have:=(Heap.get_im_some hgj).1;exact(List.getElem?_eq_some_iff.1 this).1
 have ga:(h2.push (.cells [.p (.str key),.p a1,.p a2,.p a3,.p a4] 0)).get (.im j)=some (.cells X 0):=(qAQ _ _ _ hjl).trans hgj;have gb:(h2.push (.cells [.p (.str key),.p a1,.p a2,.p a3,.p a4] 0)).get (.im h2.ims.length)=some (.cells [.p (.str key),.p a1,.p a2,.p a3,.p a4] 0):=qAu h2 _ (λe=>by cases e);have ap:=λ{β:Type} {kt:TVal->Heap->AI.Touch->Option β} {d:Nat}=>qDy (O:=Om) (kt:=kt) (d:=d) (sz:=5) (by':=88) (la:=ns.length) (lb:=1) (capb:=some 1) (by omega) (by omega) ga gb hX rfl
 have l3:(h2.push (.cells [.p (.str key),.p a1,.p a2,.p a3,.p a4] 0)).ims.length=h2.ims.length+1:=push_len _ _;have l4:((h2.push (.cells [.p (.str key),.p a1,.p a2,.p a3,.p a4] 0)).put (.im j) .dead).ims.length=h2.ims.length+1:=(put_len _ _ _).trans l3;have K4:(((h2.push (.cells [.p (.str key),.p a1,.p a2,.p a3,.p a4] 0)).put (.im j) .dead).push (.cells (X++[.p (.str key),.p a1,.p a2,.p a3,.p a4]) 0)).get (.im 2)=some (.cells [.p m1,.p m2,.p m3,.p m4,.sref (.im j) 0 ns.length none 5,G] 0):=(qAQ _ _ _ (by rw[l4]; omega)).trans ((Heap.zput_ne ga (λe=>by have:=Ref.im.inj e; omega)).trans ((qAQ _ _ _ (by omega)).trans B3));have T12:AI.Touch.apart ⟨[(Ref.im 2).site],[],false⟩ ⟨[(Ref.im 1).site,(Ref.im 1).site],[(Ref.im 1).site],false⟩=true:=rfl;have TN:=qGt h2.ims.length (by omega);have BS:∀ {β:Type}{d:Nat}{kt:TVal->Heap->AI.Touch->Option β},vtouch Om (.bslice 5 1 z5 [(0,.k (kA [.str key,a1,a2,a3,a4]))] true) h2 d kt=kt (.v (.c (.sref (.im h2.ims.length) 0 1 (some 1) 5))) (h2.push (.cells [.p (.str key),.p a1,.p a2,.p a3,.p a4] 0)) ⟨[],[.im h2.ims.length],true⟩:=λ{β d kt}=>qQa _ _ _ _ _ _ rfl
 have P4:∀ x:Cell,put1 [.p m1,.p m2,.p m3,.p m4,.sref (.im j) 0 ns.length none 5,G] 4 [x]=[.p m1,.p m2,.p m3,.p m4,x,G]:=λ_=>rfl
 have pr:pcells [.str key,a1,a2,a3,a4]=[.p (.str key),.p a1,.p a2,.p a3,.p a4]:=rfl;have q1:(s.p:Int)<(L.length:Int):=by omega
 refine⟨(((h2.push (.cells [.p (.str key),.p a1,.p a2,.p a3,.p a4] 0)).put (.im j) .dead).push (.cells (X++[.p (.str key),.p a1,.p a2,.p a3,.p a4]) 0)).put (.im 2) (.cells [.p m1,.p m2,.p m3,.p m4,.sref (.im (h2.push (.cells [.p (.str key),.p a1,.p a2,.p a3,.p a4] 0)).ims.length) 0 (ns.length+1) none 5,G] 0),.sref (.im (h2.push (.cells [.p (.str key),.p a1,.p a2,.p a3,.p a4] 0)).ims.length) 0 (ns.length+1) none 5,?_,?_⟩
 ·have old:∀ i o,i≠2->i≠j->i<h2.ims.length->h2.get (.im i)=some o->((((h2.push (.cells [.p (.str key),.p a1,.p a2,.p a3,.p a4] 0)).put (.im j) .dead).push (.cells (X++[.p (.str key),.p a1,.p a2,.p a3,.p a4]) 0)).put (.im 2) (.cells [.p m1,.p m2,.p m3,.p m4,.sref (.im (h2.push (.cells [.p (.str key),.p a1,.p a2,.p a3,.p a4] 0)).ims.length) 0 (ns.length+1) none 5,G] 0)).get (.im i)=some o:=λi o hi hij hl ho =>
   (Heap.zput_ne K4 (λe=>by cases e; exact hi rfl)).trans ((qAQ _ _ _ (by rw[l4]; omega)).trans ((Heap.zput_ne ga (λe=>by have:=Ref.im.inj e; omega)).trans ((qAQ _ _ _ hl).trans ho)))
  refine⟨old 0 _ (by decide) (by omega) (by omega) A2.g0,old 1 _ (by decide) (by omega) (by omega) A2.g1,by rw[hm]; exact Heap.zput_self K4 (λe=>by cases e),.inr ⟨by simp,(h2.push (.cells [.p (.str key),.p a1,.p a2,.p a3,.p a4] 0)).ims.length,by rw[l3]; omega,by rw[List.length_append]; rfl,?_⟩,?_,?_⟩
  ·rw[hXe];have:=qAu ((h2.push (.cells [.p (.str key),.p a1,.p a2,.p a3,.p a4] 0)).put (.im j) .dead) (.cells (X++[.p (.str key),.p a1,.p a2,.p a3,.p a4]) 0) (λe=>by cases e);rw[l4] at this;rw[l3];exact(Heap.zput_ne K4 (λe=>by have:=Ref.im.inj e; omega)).trans this
  ·rcases A2.tG with ⟨e,e2⟩|⟨e,k,hk3,e2,hg⟩
   ·exact .inl ⟨e,e2⟩
   ·have:=(Heap.get_im_some hg).1;have:=(List.getElem?_eq_some_iff.1 this).1;have kj:k≠j:=λe=>A2.ap (.im j) (by simp[Cell.refs]) (by rw[e2,<- e]; simp[Cell.refs])
    exact .inr ⟨e,k,hk3,e2,old k _ (by omega) kj this hg⟩
  ·intro r hr hr2;obtain⟨k,rfl,_,hk2⟩:=A2.tG.ref r hr2;have:Ref.im k=Ref.im (h2.push (.cells [.p (.str key),.p a1,.p a2,.p a3,.p a4] 0)).ims.length:=by simpa [Cell.refs] using hr
   rw[l3] at this;have:=Ref.im.inj this;omega
 ·rw[w22_1,b22_1];simp (maxSteps:=9999999) +contextual only[exa,rA,rB,rC,rD,rE,rF,rG,rH,rI,exT,exW,exY,B1,he,q1,qBT,c40,B2,E42,pr,BS,qAv,ap,K4,P4,T12,TN,if_false,oneOf]
def fnS(L:List Tok)(s:RS):RS:=mustM (takeM 1 L s [102,110]) (isM 1 L s [102,110])
theorem qKg(f:GS):∃ a1 a2 a3 a4 a5,gRow f=[.str f.nm,a5,a1,a2,a3,a4]:=by
 obtain⟨a1,a2,a3,a4,h⟩:=qAY f.rs;exact⟨a1,a2,a3,a4,slP 4 TT.row f.pr,by unfold gRow; rw[h]⟩
theorem qRZ{h:Heap}{L:List Tok}{s s':RS}{main:TT}{f:GS}{ns:Es}{T:Cell}(A:Ps h L s main ns [] T (.p .nilslice))(hp1:s.p<=900000)(he:s.e=0)(hp:s.p<L.length)(hk:isM 1 L s tyW=false)
  (e42:Om 43 [P0] [rO L (fnS L s)]=some (kA (gRow f),[rO L s'])) :
  ∃ h' T',Ps h' L s' main ns [f] T T'/\lim tab.get S 22 0 1 [pI 0,pI 1,pI 2] h=lim tab.get S 22 0 2 [pI 0,pI 1,pI 2] h':=by
 obtain⟨m1,m2,m3,m4,hm⟩:=qAY main;obtain⟨a1,a2,a3,a4,a5,ha⟩:=qKg f;have ht:takeM 1 L s tyW=s:=by unfold takeM; rw[hk]; rfl
 have k40f:=qD6 L s (by omega) [102,110];have k40:=qD6 L s (by omega) tyW;rw[hk,ht] at k40;have A0:=A.put (t:=s);have Ab:=A0.put (t:=takeM 1 L s [102,110]);have A1:=Ab.put (t:=fnS L s);have A2:=A1.put (t:=s');have c40:∀ {β:Type}{k:TVal->Heap->Option β}{d:Nat},vcall Om (.v (.c (.func 40 []))) [pI 1,kS [116,121,112,101]] h d k=k (kB false) (h.put (.im 1) (rO L s)):=λ{β k d} =>
  qAU 40 (.im 1) 0 [] [kS tyW] _ _ _ rfl rfl A.g1 (qAC L _) (qAC L _) rfl k40
 have c40f:∀ {β:Type}{k:TVal->Heap->Option β}{d:Nat},vcall Om (.v (.c (.func 40 []))) [pI 1,kS [102,110]] (h.put (.im 1) (rO L s)) d k=k (kB (isM 1 L s [102,110])) ((h.put (.im 1) (rO L s)).put (.im 1) (rO L (takeM 1 L s [102,110]))):=λ{β k d} =>
  qAU 40 (.im 1) 0 [] [kS [102,110]] _ _ _ rfl rfl A0.g1 (qAC L _) (qAC L _) rfl k40f
 have c39:∀ {β:Type}{k:TVal->Heap->Option β}{d:Nat},vcall Om (.v (.c (.func 39 []))) [pI 1,kB (isM 1 L s [102,110])] ((h.put (.im 1) (rO L s)).put (.im 1) (rO L (takeM 1 L s [102,110]))) d k=k (.tup []) (((h.put (.im 1) (rO L s)).put (.im 1) (rO L (takeM 1 L s [102,110]))).put (.im 1) (rO L (fnS L s))):=λ{β k d} =>
  qAU 39 (.im 1) 0 [] [kB (isM 1 L s [102,110])] _ _ _ rfl rfl Ab.g1 (qAC L _) (qAC L _) rfl (qB5 L _ _)
 have E42:∀ {β:Type}{d:Nat}{kt:TVal->Heap->AI.Touch->Option β},vtouch Om (.call (.k (.v (.c (.func 43 [])))) [.k (pI 1)]) (((h.put (.im 1) (rO L s)).put (.im 1) (rO L (takeM 1 L s [102,110]))).put (.im 1) (rO L (fnS L s))) d kt=kt (kA (gRow f)) ((((h.put (.im 1) (rO L s)).put (.im 1) (rO L (takeM 1 L s [102,110]))).put (.im 1) (rO L (fnS L s))).put (.im 1) (rO L s')) ⟨[(Ref.im 1).site,(Ref.im 1).site],[(Ref.im 1).site],false⟩:=λ{β d kt} =>
  qD7 43 (.im 1) _ _ _ (by simp only[exP]) A1.g1 (qAC L _) (qAC L _) e42
 rw[ha] at E42;generalize h.put (.im 1) (rO L s)=hz at *;generalize hz.put (.im 1) (rO L (takeM 1 L s [102,110]))=hb at *;generalize hb.put (.im 1) (rO L (fnS L s))=h1 at *;generalize isM 1 L s [102,110]=bf at *;generalize h1.put (.im 1) (rO L s')=h2 at *;have B1:=A.g1;have B2:=A1.g2;have B3:=A2.g2;rw[hm] at B2 B3;change h1.get (.im 2)=some (.cells [.p m1,.p m2,.p m3,.p m4,T,.p .nilslice] 0) at B2;change h2.get (.im 2)=some (.cells [.p m1,.p m2,.p m3,.p m4,T,.p .nilslice] 0) at B3;have h3l:=A2.len;have gb:(h2.push (.cells [.p (.str f.nm),.p a5,.p a1,.p a2,.p a3,.p a4] 0)).get (.im h2.ims.length)=some (.cells [.p (.str f.nm),.p a5,.p a1,.p a2,.p a3,.p a4] 0):=qAu h2 _ (λe=>by cases e);have ap:=λ{β:Type} {kt:TVal->Heap->AI.Touch->Option β} {d:Nat}=>qED (O:=Om) (kt:=kt) (d:=d) (sz:=6) (by':=112) (lb:=1) (capb:=some 1) (by omega) (by omega) gb rfl
 have l3:(h2.push (.cells [.p (.str f.nm),.p a5,.p a1,.p a2,.p a3,.p a4] 0)).ims.length=h2.ims.length+1:=push_len _ _;have K4:((h2.push (.cells [.p (.str f.nm),.p a5,.p a1,.p a2,.p a3,.p a4] 0)).push (.cells [.p (.str f.nm),.p a5,.p a1,.p a2,.p a3,.p a4] 0)).get (.im 2)=some (.cells [.p m1,.p m2,.p m3,.p m4,T,.p .nilslice] 0):=(qAQ _ _ _ (by rw[l3]; omega)).trans ((qAQ _ _ _ (by omega)).trans B3);have T12:AI.Touch.apart ⟨[(Ref.im 2).site],[],false⟩ ⟨[(Ref.im 1).site,(Ref.im 1).site],[(Ref.im 1).site],false⟩=true:=rfl;have TN:=qGt h2.ims.length (by omega);have BS:∀ {β:Type}{d:Nat}{kt:TVal->Heap->AI.Touch->Option β},vtouch Om (.bslice 6 1 z6 [(0,.k (kA [.str f.nm,a5,a1,a2,a3,a4]))] true) h2 d kt=kt (.v (.c (.sref (.im h2.ims.length) 0 1 (some 1) 6))) (h2.push (.cells [.p (.str f.nm),.p a5,.p a1,.p a2,.p a3,.p a4] 0)) ⟨[],[.im h2.ims.length],true⟩:=λ{β d kt}=>qQd _ _ _ _ _ _ _ rfl
 have P4:∀ x:Cell,put1 [.p m1,.p m2,.p m3,.p m4,T,.p .nilslice] 5 [x]=[.p m1,.p m2,.p m3,.p m4,T,x]:=λ_=>rfl
 have pr:pcells [.str f.nm,a5,a1,a2,a3,a4]=[.p (.str f.nm),.p a5,.p a1,.p a2,.p a3,.p a4]:=rfl;have q1:(s.p:Int)<(L.length:Int):=by omega
 refine⟨((h2.push (.cells [.p (.str f.nm),.p a5,.p a1,.p a2,.p a3,.p a4] 0)).push (.cells [.p (.str f.nm),.p a5,.p a1,.p a2,.p a3,.p a4] 0)).put (.im 2) (.cells [.p m1,.p m2,.p m3,.p m4,T,.sref (.im (h2.push (.cells [.p (.str f.nm),.p a5,.p a1,.p a2,.p a3,.p a4] 0)).ims.length) 0 1 none 6] 0),.sref (.im (h2.push (.cells [.p (.str f.nm),.p a5,.p a1,.p a2,.p a3,.p a4] 0)).ims.length) 0 1 none 6,?_,?_⟩
 ·have old:∀ i o,i≠2->i<h2.ims.length->h2.get (.im i)=some o->(((h2.push (.cells [.p (.str f.nm),.p a5,.p a1,.p a2,.p a3,.p a4] 0)).push (.cells [.p (.str f.nm),.p a5,.p a1,.p a2,.p a3,.p a4] 0)).put (.im 2) (.cells [.p m1,.p m2,.p m3,.p m4,T,.sref (.im (h2.push (.cells [.p (.str f.nm),.p a5,.p a1,.p a2,.p a3,.p a4] 0)).ims.length) 0 1 none 6] 0)).get (.im i)=some o:=λi o hi hl ho =>
   (Heap.zput_ne K4 (λe=>by cases e; exact hi rfl)).trans ((qAQ _ _ _ (by rw[l3]; omega)).trans ((qAQ _ _ _ hl).trans ho))
  refine⟨old 0 _ (by decide) (by omega) A2.g0,old 1 _ (by decide) (by omega) A2.g1,by rw[hm]; exact Heap.zput_self K4 (λe=>by cases e),?_,.inr ⟨by simp,_,by rw[l3]; omega,rfl,?_⟩,?_⟩
  ·rcases A2.tT with ⟨e,rfl⟩|⟨e,j,hj,rfl,hg⟩
   ·exact .inl ⟨e,rfl⟩
   ·have:=(Heap.get_im_some hg).1;have:=(List.getElem?_eq_some_iff.1 this).1;exact .inr ⟨e,j,hj,rfl,old j _ (by omega) this hg⟩
  ·have:gRows [f]=[.str f.nm,a5,a1,a2,a3,a4]:=by show gRow f++[]=_; rw[ha]; rfl
   rw[this];exact(Heap.zput_ne K4 (λe=>by have:=Ref.im.inj e; rw[l3] at this; omega)).trans (qAu _ _ (λe=>by cases e))
  ·intro r hr hr2;obtain⟨j,rfl,_,hj⟩:=A2.tT.ref r hr;have:Ref.im j=Ref.im (h2.push (.cells [.p (.str f.nm),.p a5,.p a1,.p a2,.p a3,.p a4] 0)).ims.length:=by simpa [Cell.refs] using hr2
   rw[l3] at this;cases this;omega
 ·rw[w22_1,b22_1];simp (maxSteps:=9999999) +contextual only[exa,rA,rB,rC,rD,rE,rF,rG,rH,rI,exT,exW,exY,B1,he,q1,qBT,c40,c40f,c39,B2,E42,pr,BS,qAv,ap,K4,P4,T12,TN,if_false,oneOf]
theorem qRf{h:Heap}{L:List Tok}{s s':RS}{main:TT}{f:GS}{ns:Es}{gs:Gs}{T:Cell}{j:Nat}(hj:3<=j)(hne:gs≠[])(hn:gs.length<=80000)(A:Ps h L s main ns gs T (.sref (.im j) 0 gs.length none 6))(hp1:s.p<=900000)(he:s.e=0)(hp:s.p<L.length)(hk:isM 1 L s tyW=false)
  (e42:Om 43 [P0] [rO L (fnS L s)]=some (kA (gRow f),[rO L s'])) :
  ∃ h' T',Ps h' L s' main ns (gs++[f]) T T'/\lim tab.get S 22 0 1 [pI 0,pI 1,pI 2] h=lim tab.get S 22 0 2 [pI 0,pI 1,pI 2] h':=by
 obtain⟨m1,m2,m3,m4,hm⟩:=qAY main;obtain⟨a1,a2,a3,a4,a5,ha⟩:=qKg f;have ht:takeM 1 L s tyW=s:=by unfold takeM; rw[hk]; rfl
 have k40f:=qD6 L s (by omega) [102,110];have k40:=qD6 L s (by omega) tyW;rw[hk,ht] at k40;have A0:=A.put (t:=s);have Ab:=A0.put (t:=takeM 1 L s [102,110]);have A1:=Ab.put (t:=fnS L s);have A2:=A1.put (t:=s');have c40:∀ {β:Type}{k:TVal->Heap->Option β}{d:Nat},vcall Om (.v (.c (.func 40 []))) [pI 1,kS [116,121,112,101]] h d k=k (kB false) (h.put (.im 1) (rO L s)):=λ{β k d} =>
  qAU 40 (.im 1) 0 [] [kS tyW] _ _ _ rfl rfl A.g1 (qAC L _) (qAC L _) rfl k40
 have c40f:∀ {β:Type}{k:TVal->Heap->Option β}{d:Nat},vcall Om (.v (.c (.func 40 []))) [pI 1,kS [102,110]] (h.put (.im 1) (rO L s)) d k=k (kB (isM 1 L s [102,110])) ((h.put (.im 1) (rO L s)).put (.im 1) (rO L (takeM 1 L s [102,110]))):=λ{β k d} =>
  qAU 40 (.im 1) 0 [] [kS [102,110]] _ _ _ rfl rfl A0.g1 (qAC L _) (qAC L _) rfl k40f
 have c39:∀ {β:Type}{k:TVal->Heap->Option β}{d:Nat},vcall Om (.v (.c (.func 39 []))) [pI 1,kB (isM 1 L s [102,110])] ((h.put (.im 1) (rO L s)).put (.im 1) (rO L (takeM 1 L s [102,110]))) d k=k (.tup []) (((h.put (.im 1) (rO L s)).put (.im 1) (rO L (takeM 1 L s [102,110]))).put (.im 1) (rO L (fnS L s))):=λ{β k d} =>
  qAU 39 (.im 1) 0 [] [kB (isM 1 L s [102,110])] _ _ _ rfl rfl Ab.g1 (qAC L _) (qAC L _) rfl (qB5 L _ _)
 have E42:∀ {β:Type}{d:Nat}{kt:TVal->Heap->AI.Touch->Option β},vtouch Om (.call (.k (.v (.c (.func 43 [])))) [.k (pI 1)]) (((h.put (.im 1) (rO L s)).put (.im 1) (rO L (takeM 1 L s [102,110]))).put (.im 1) (rO L (fnS L s))) d kt=kt (kA (gRow f)) ((((h.put (.im 1) (rO L s)).put (.im 1) (rO L (takeM 1 L s [102,110]))).put (.im 1) (rO L (fnS L s))).put (.im 1) (rO L s')) ⟨[(Ref.im 1).site,(Ref.im 1).site],[(Ref.im 1).site],false⟩:=λ{β d kt} =>
  qD7 43 (.im 1) _ _ _ (by simp only[exP]) A1.g1 (qAC L _) (qAC L _) e42
 rw[ha] at E42;generalize h.put (.im 1) (rO L s)=hz at *;generalize hz.put (.im 1) (rO L (takeM 1 L s [102,110]))=hb at *;generalize hb.put (.im 1) (rO L (fnS L s))=h1 at *;generalize isM 1 L s [102,110]=bf at *;generalize h1.put (.im 1) (rO L s')=h2 at *;have B1:=A.g1;have B2:=A1.g2;have B3:=A2.g2;rw[hm] at B2 B3;change h1.get (.im 2)=some (.cells [.p m1,.p m2,.p m3,.p m4,T,.sref (.im j) 0 gs.length none 6] 0) at B2;change h2.get (.im 2)=some (.cells [.p m1,.p m2,.p m3,.p m4,T,.sref (.im j) 0 gs.length none 6] 0) at B3;have h3l:=A2.len;have hgj:h2.get (.im j)=some (.cells (pcells (gRows gs)) 0):=by
  rcases A2.tG with ⟨e,_⟩|⟨_,j',_,e,hg⟩
  ·exact absurd e hne
  ·cases e; exact hg
 have hX:(pcells (gRows gs)).length=gs.length*6:=by rw[qAN,qDO]
 have hXe:pcells (gRows (gs++[f]))=pcells (gRows gs)++[.p (.str f.nm),.p a5,.p a1,.p a2,.p a3,.p a4]:=by
  have:gRows (gs++[f])=gRows gs++[.str f.nm,a5,a1,a2,a3,a4]:=by rw[<- ha]; unfold gRows; simp
  rw[this]; unfold pcells; rw[List.map_append]; rfl
 generalize pcells (gRows gs)=X at hgj hX hXe;have hjl:j<h2.ims.length:=by
  have:=(Heap.get_im_some hgj).1;exact(List.getElem?_eq_some_iff.1 this).1
 have ga:(h2.push (.cells [.p (.str f.nm),.p a5,.p a1,.p a2,.p a3,.p a4] 0)).get (.im j)=some (.cells X 0):=(qAQ _ _ _ hjl).trans hgj;have gb:(h2.push (.cells [.p (.str f.nm),.p a5,.p a1,.p a2,.p a3,.p a4] 0)).get (.im h2.ims.length)=some (.cells [.p (.str f.nm),.p a5,.p a1,.p a2,.p a3,.p a4] 0):=qAu h2 _ (λe=>by cases e);have ap:=λ{β:Type} {kt:TVal->Heap->AI.Touch->Option β} {d:Nat}=>qDy (O:=Om) (kt:=kt) (d:=d) (sz:=6) (by':=112) (la:=gs.length) (lb:=1) (capb:=some 1) (by omega) (by omega) ga gb hX rfl
 have l3:(h2.push (.cells [.p (.str f.nm),.p a5,.p a1,.p a2,.p a3,.p a4] 0)).ims.length=h2.ims.length+1:=push_len _ _;have l4:((h2.push (.cells [.p (.str f.nm),.p a5,.p a1,.p a2,.p a3,.p a4] 0)).put (.im j) .dead).ims.length=h2.ims.length+1:=(put_len _ _ _).trans l3;have K4:(((h2.push (.cells [.p (.str f.nm),.p a5,.p a1,.p a2,.p a3,.p a4] 0)).put (.im j) .dead).push (.cells (X++[.p (.str f.nm),.p a5,.p a1,.p a2,.p a3,.p a4]) 0)).get (.im 2)=some (.cells [.p m1,.p m2,.p m3,.p m4,T,.sref (.im j) 0 gs.length none 6] 0):=(qAQ _ _ _ (by rw[l4]; omega)).trans ((Heap.zput_ne ga (λe=>by have:=Ref.im.inj e; omega)).trans ((qAQ _ _ _ (by omega)).trans B3));have T12:AI.Touch.apart ⟨[(Ref.im 2).site],[],false⟩ ⟨[(Ref.im 1).site,(Ref.im 1).site],[(Ref.im 1).site],false⟩=true:=rfl;have TN:=qGt h2.ims.length (by omega);have BS:∀ {β:Type}{d:Nat}{kt:TVal->Heap->AI.Touch->Option β},vtouch Om (.bslice 6 1 z6 [(0,.k (kA [.str f.nm,a5,a1,a2,a3,a4]))] true) h2 d kt=kt (.v (.c (.sref (.im h2.ims.length) 0 1 (some 1) 6))) (h2.push (.cells [.p (.str f.nm),.p a5,.p a1,.p a2,.p a3,.p a4] 0)) ⟨[],[.im h2.ims.length],true⟩:=λ{β d kt}=>qQd _ _ _ _ _ _ _ rfl
 have P4:∀ x:Cell,put1 [.p m1,.p m2,.p m3,.p m4,T,.sref (.im j) 0 gs.length none 6] 5 [x]=[.p m1,.p m2,.p m3,.p m4,T,x]:=λ_=>rfl
 have pr:pcells [.str f.nm,a5,a1,a2,a3,a4]=[.p (.str f.nm),.p a5,.p a1,.p a2,.p a3,.p a4]:=rfl;have q1:(s.p:Int)<(L.length:Int):=by omega
 refine⟨(((h2.push (.cells [.p (.str f.nm),.p a5,.p a1,.p a2,.p a3,.p a4] 0)).put (.im j) .dead).push (.cells (X++[.p (.str f.nm),.p a5,.p a1,.p a2,.p a3,.p a4]) 0)).put (.im 2) (.cells [.p m1,.p m2,.p m3,.p m4,T,.sref (.im (h2.push (.cells [.p (.str f.nm),.p a5,.p a1,.p a2,.p a3,.p a4] 0)).ims.length) 0 (gs.length+1) none 6] 0),.sref (.im (h2.push (.cells [.p (.str f.nm),.p a5,.p a1,.p a2,.p a3,.p a4] 0)).ims.length) 0 (gs.length+1) none 6,?_,?_⟩
 ·have old:∀ i o,i≠2->i≠j->i<h2.ims.length->h2.get (.im i)=some o->((((h2.push (.cells [.p (.str f.nm),.p a5,.p a1,.p a2,.p a3,.p a4] 0)).put (.im j) .dead).push (.cells (X++[.p (.str f.nm),.p a5,.p a1,.p a2,.p a3,.p a4]) 0)).put (.im 2) (.cells [.p m1,.p m2,.p m3,.p m4,T,.sref (.im (h2.push (.cells [.p (.str f.nm),.p a5,.p a1,.p a2,.p a3,.p a4] 0)).ims.length) 0 (gs.length+1) none 6] 0)).get (.im i)=some o:=λi o hi hij hl ho =>
   (Heap.zput_ne K4 (λe=>by cases e; exact hi rfl)).trans ((qAQ _ _ _ (by rw[l4]; omega)).trans ((Heap.zput_ne ga (λe=>by have:=Ref.im.inj e; omega)).trans ((qAQ _ _ _ hl).trans ho)))
  refine⟨old 0 _ (by decide) (by omega) (by omega) A2.g0,old 1 _ (by decide) (by omega) (by omega) A2.g1,by rw[hm]; exact Heap.zput_self K4 (λe=>by cases e),?_,.inr ⟨by simp,(h2.push (.cells [.p (.str f.nm),.p a5,.p a1,.p a2,.p a3,.p a4] 0)).ims.length,by rw[l3]; omega,by rw[List.length_append]; rfl,?_⟩,?_⟩
  ·rcases A2.tT with ⟨e,e2⟩|⟨e,k,hk3,e2,hg⟩
   ·exact .inl ⟨e,e2⟩
   ·have:=(Heap.get_im_some hg).1;have:=(List.getElem?_eq_some_iff.1 this).1;have kj:k≠j:=λe=>A2.ap (.im j) (by rw[e2,<- e]; simp[Cell.refs]) (by simp[Cell.refs])
    exact .inr ⟨e,k,hk3,e2,old k _ (by omega) kj this hg⟩
  ·rw[hXe];have:=qAu ((h2.push (.cells [.p (.str f.nm),.p a5,.p a1,.p a2,.p a3,.p a4] 0)).put (.im j) .dead) (.cells (X++[.p (.str f.nm),.p a5,.p a1,.p a2,.p a3,.p a4]) 0) (λe=>by cases e);rw[l4] at this;rw[l3];exact(Heap.zput_ne K4 (λe=>by have:=Ref.im.inj e; omega)).trans this
  ·intro r hr hr2;obtain⟨k,rfl,_,hk2⟩:=A2.tT.ref r hr;have:Ref.im k=Ref.im (h2.push (.cells [.p (.str f.nm),.p a5,.p a1,.p a2,.p a3,.p a4] 0)).ims.length:=by simpa [Cell.refs] using hr2
   rw[l3] at this;have:=Ref.im.inj this;omega
 ·rw[w22_1,b22_1];simp (maxSteps:=9999999) +contextual only[exa,rA,rB,rC,rD,rE,rF,rG,rH,rI,exT,exW,exY,B1,he,q1,qBT,c40,c40f,c39,B2,E42,pr,BS,qAv,ap,K4,P4,T12,TN,if_false,oneOf]
theorem qPp{h:Heap}{L:List Tok}{s s':RS}{main v:TT}{ns:Es}{gs:Gs}{T G:Cell}(hn:ns.length<=80000)(A:Ps h L s main ns gs T G)(hp1:s.p<=900000)(he:s.e=0)(hp:s.p<L.length)(hk:isM 1 L s tyW=true)
  (e42:Om 42 [P0] [rO L (nextM s)]=some (kA (eRow (peekM L (nextM s)).text v),[rO L s'])) :
  ∃ h' T',Ps h' L s' main (ns++[((peekM L (nextM s)).text,v)]) gs T' G/\lim tab.get S 22 0 1 [pI 0,pI 1,pI 2] h=lim tab.get S 22 0 2 [pI 0,pI 1,pI 2] h':=by
 rcases A.tT with ⟨e,e2⟩|⟨e,j,hj,e2,_⟩
 ·subst e; subst e2; exact qNc A hp1 he hp hk e42
 ·subst e2; exact qMb hj e hn A hp1 he hp hk e42
theorem qSk{h:Heap}{L:List Tok}{s s':RS}{main:TT}{f:GS}{ns:Es}{gs:Gs}{T G:Cell}(hn:gs.length<=80000)(A:Ps h L s main ns gs T G)(hp1:s.p<=900000)(he:s.e=0)(hp:s.p<L.length)(hk:isM 1 L s tyW=false)
  (e43:Om 43 [P0] [rO L (fnS L s)]=some (kA (gRow f),[rO L s'])) :
  ∃ h' G',Ps h' L s' main ns (gs++[f]) T G'/\lim tab.get S 22 0 1 [pI 0,pI 1,pI 2] h=lim tab.get S 22 0 2 [pI 0,pI 1,pI 2] h':=by
 rcases A.tG with ⟨e,e2⟩|⟨e,j,hj,e2,_⟩
 ·subst e; subst e2; exact qRZ A hp1 he hp hk e43
 ·subst e2; exact qRf hj e hn A hp1 he hp hk e43
def semM(L:List Tok)(s:RS):RS:=mustM (takeM 4 L s [59]) (isM 4 L s [59])
theorem qHB{h:Heap}{L:List Tok}{s:RS}{main:TT}{ns:Es}{gs:Gs}{T G:Cell}(A:Ps h L s main ns gs T G)(hp1:s.p<=900000) :
  ∃ h',Ps h' L (semM L s) main ns gs T G/\lim tab.get S 22 0 2 [pI 0,pI 1,pI 2] h=lim tab.get S 22 0 1 [pI 0,pI 1,pI 2] h':=by
 have A1:=A.put (t:=takeM 4 L s [59]);have A2:=A1.put (t:=semM L s);refine⟨_,A2,?_⟩;have c41:∀ {β:Type}{k:TVal->Heap->Option β}{d:Nat},vcall Om (.v (.c (.func 41 []))) [pI 1,kS [59]] h d k=k (kB (isM 4 L s [59])) (h.put (.im 1) (rO L (takeM 4 L s [59]))):=λ{β k d} =>
  qAU 41 (.im 1) 0 [] [kS [59]] _ _ _ rfl rfl A.g1 (qAC L _) (qAC L _) rfl (qDE L s (by omega) [59])
 have c39:∀ {β:Type}{k:TVal->Heap->Option β}{d:Nat},vcall Om (.v (.c (.func 39 []))) [pI 1,kB (isM 4 L s [59])] (h.put (.im 1) (rO L (takeM 4 L s [59]))) d k=k (.tup []) ((h.put (.im 1) (rO L (takeM 4 L s [59]))).put (.im 1) (rO L (semM L s))):=λ{β k d} =>
  qAU 39 (.im 1) 0 [] [kB (isM 4 L s [59])] _ _ _ rfl rfl A1.g1 (qAC L _) (qAC L _) rfl (qB5 L _ _)
 rw[w22_2,b22_2,c41,c39]
def parM(sub:RS->TT×RS)(L:List Tok):Nat->RS->Es->Gs->(Es×Gs)×RS
 |0,s,ns,gs=>((ns,gs),s)
 |f+1,s,ns,gs =>
  if s.e=0/\s.p<L.length then
   if isM 1 L s tyW=true then parM sub L f (semM L (sub (sepM [61] L (nextM s))).2) (ns++[((peekM L (nextM s)).text,(sub (sepM [61] L (nextM s))).1)]) gs
   else parM sub L f (semM L (sgM sub L (fnS L s)).2) ns (gs++[(sgM sub L (fnS L s)).1])
  else ((ns,gs),s)
def parOK(sub:RS->TT×RS)(ok:RS->Prop)(L:List Tok):Nat->RS->Prop
 |0,_=>True
 |f+1,s=>s.e=0->s.p<L.length ->
   (isM 1 L s tyW=true->ok (sepM [61] L (nextM s))/\parOK sub ok L f (semM L (sub (sepM [61] L (nextM s))).2)) /\
   (isM 1 L s tyW=false->sgOK sub ok L (fnS L s)/\parOK sub ok L f (semM L (sgM sub L (fnS L s)).2))
theorem qF4{L:List Tok}{sub:RS->TT×RS}{okP:RS->Prop}(ok:SubOK 0 L sub okP)(hL:L.length<=1000){main:TT}:∀ (f:Nat) (s:RS) (ns:Es) (gs:Gs) (T G:Cell) (h:Heap),I1 L s->parOK sub okP L f s->L.length+1 - s.p<f->ns.length+gs.length+(L.length+1 - s.p)<=L.length+1->Ps h L s main ns gs T G ->
  ∃ h' T' G',Ps h' L (parM sub L f s ns gs).2 main (parM sub L f s ns gs).1.1 (parM sub L f s ns gs).1.2 T' G'/\lim tab.get S 22 0 1 [pI 0,pI 1,pI 2] h=lim tab.get S 22 0 3 [pI 0,pI 1,pI 2] h'
 |0,s,ns,gs,T,G,h,I,po,hf,hn,A=>by omega
 |f+1,s,ns,gs,T,G,h,I,po,hf,hn,A=>by
  have hp1:s.p<=900000:=by have:=I.2; omega
  unfold parM;by_cases he:s.e=0
  ·by_cases hp:s.p<L.length
   ·rw[if_pos ⟨he,hp⟩];obtain⟨po1,po2⟩:=po he hp;cases hk:isM 1 L s tyW with
    |true =>
     obtain⟨o1,o2⟩:=po1 hk;rw[if_pos rfl];have hn1:(nextM s).p<=L.length:=by show s.p+1<=_; omega
     obtain⟨I1',q1⟩:=qDr [61] hn1;obtain⟨I2,q2⟩:=ok.inv _ I1';obtain⟨I3,q3⟩:=qAg [59] I2;have q0:(nextM s).p=s.p+1:=rfl;obtain⟨h1,T1,A1,e1⟩:=qPp (by omega) A hp1 he hp hk (qRt L (nextM s) _ _ (by omega) (ok.one _ I1' o1));obtain⟨h2,A2,e2⟩:=qHB A1 (by have:=I2.2; omega);have q3':(sub (sepM [61] L (nextM s))).2.p<=(semM L (sub (sepM [61] L (nextM s))).2).p:=q3;obtain⟨h3,T3,G3,A3,e3⟩:=qF4 ok hL f _ _ gs T1 G h2 I3 o2 (by omega) (by rw[List.length_append,List.length_singleton]; omega) A2;exact⟨h3,T3,G3,A3,e1.trans (e2.trans e3)⟩
    |false =>
     obtain⟨o1,o2⟩:=po2 hk;rw[if_neg (by decide)];have hfp:(fnS L s).p<=L.length/\s.p<=(fnS L s).p:=by
      unfold fnS;rw[qBS];unfold takeM;split
      ·exact⟨by show s.p+1<=_; omega,by show s.p<=s.p+1; omega⟩
      ·exact⟨by omega,Nat.le_refl _⟩
     obtain⟨I1',q1⟩:=qDr [40] hfp.1;obtain⟨I2,q2⟩:=qIv ok.inv [41] I1';obtain⟨I3,q3⟩:=qAg [45,62] I2;obtain⟨I4,q4⟩:=ok.inv _ I3;obtain⟨I5,q5⟩:=qAg [59] I4;obtain⟨h1,G1,A1,e1⟩:=qSk (by omega) A hp1 he hp hk (fn43 ok hL (fnS L s) hfp.1 o1);have I4':I1 L (sgM sub L (fnS L s)).2:=I4;obtain⟨h2,A2,e2⟩:=qHB A1 (by have:=I4'.2; omega);have q6:s.p+1<=(semM L (sgM sub L (fnS L s)).2).p:=by
      have a1:(sgM sub L (fnS L s)).2.p<=(semM L (sgM sub L (fnS L s)).2).p:=q5;have a2:(rowP sub L [41] (sepM [40] L (fnS L s))).2.p<=(arrM L (rowP sub L [41] (sepM [40] L (fnS L s))).2).p:=q3;have a3:(arrM L (rowP sub L [41] (sepM [40] L (fnS L s))).2).p<=(sgM sub L (fnS L s)).2.p:=q4;omega
     obtain⟨h3,T3,G3,A3,e3⟩:=qF4 ok hL f _ ns _ T G1 h2 I5 o2 (by show L.length+1 - (semM L (sgM sub L (fnS L s)).2).p<f; omega) (by rw[List.length_append,List.length_singleton]; show ns.length+(gs.length+1)+(L.length+1 - (semM L (sgM sub L (fnS L s)).2).p)<=_; omega) A2;exact⟨h3,T3,G3,A3,e1.trans (e2.trans e3)⟩
   ·rw[if_neg (λh=>hp h.2)];refine⟨h,T,G,A,?_⟩;have q1:¬ (s.p:Int)<(L.length:Int):=by omega
    have B1:=A.g1;rw[w22_1,b22_1];simp (maxSteps:=9999999) +contextual only[exa,rA,rB,rC,rD,rE,rF,rG,rH,rI,exT,exW,exY,B1,he,q1,qBT,if_false,oneOf]
  ·rw[if_neg (λh=>he h.1)];refine⟨h,T,G,A,?_⟩;have B1:=A.g1;rw[w22_1,b22_1];simp (maxSteps:=9999999) +contextual only[exa,rA,rB,rC,rD,rE,rF,rG,rH,rI,exT,exW,exY,B1,he,if_false,oneOf]
def dtW:List UInt8:=[100,97,116,97]
def dtM(L:List Tok)(s:RS):RS:=mustM (takeM 1 L s dtW) (isM 1 L s dtW)
theorem qNn(src:List UInt8){sub:RS->TT×RS}(e34:Om 34 [P0,kI 1] [rO (wordsM src).1 (dtM (wordsM src).1 (s0M src))]=some (kA (sub (dtM (wordsM src).1 (s0M src))).1.row,[rO (wordsM src).1 (sub (dtM (wordsM src).1 (s0M src))).2]))(hp:(sub (dtM (wordsM src).1 (s0M src))).2.p<=900000) :
  ∃ h',Ps h' (wordsM src).1 (semM (wordsM src).1 (sub (dtM (wordsM src).1 (s0M src))).2) (sub (dtM (wordsM src).1 (s0M src))).1 [] [] (.p .nilslice) (.p .nilslice)/\lim tab.get S 22 0 0 [kS src] h0=lim tab.get S 22 0 1 [pI 0,pI 1,pI 2] h':=by
 obtain⟨h1,c33,A1,K1,G1,L1⟩:=qIw (O:=Om) (show allB pT [kS src]=true from rfl) (qOS src) (qFe _ _).1 (h0.push (.cells z6s 0));have e0:(TVal.v (.c (.ptr (.im 0) 0))).ren (back [] [rO (wordsM src).1 (s0M src)].length (newRef (h0.push (.cells z6s 0)).ims.length))=pI 1:=rfl;rw[e0] at c33;have g1:h1.get (.im 1)=some (rO (wordsM src).1 (s0M src)):=by
  have:=A1.get 0 (.im 1) _ rfl rfl;rw[(qAC _ _).2] at this;exact this
 have g0:h1.get (.im 0)=some (.cells z6s 0):=K1 _ _ rfl;have l1:h1.ims.length=2:=L1;have ps:(s0M src).p<=1000000:=Nat.zero_le _;generalize (wordsM src).1=L at *;generalize s0M src=s at *;obtain⟨a1,a2,a3,a4,ha⟩:=qAY (sub (dtM L s)).1;have k0:(h1.push (.cells z6s 0)).get (.im 0)=some (.cells z6s 0):=(qAQ _ _ _ (by omega)).trans g0;have k1:(h1.push (.cells z6s 0)).get (.im 1)=some (rO L s):=(qAQ _ _ _ (by omega)).trans g1;have k2:(h1.push (.cells z6s 0)).get (.im 2)=some (.cells z6s 0):=qFu _ _ _ _ l1;generalize hh:h1.push (.cells z6s 0)=h at *;have c40:∀ {β:Type}{k:TVal->Heap->Option β}{d:Nat},vcall Om (.v (.c (.func 40 []))) [pI 1,kS [100,97,116,97]] h d k=k (kB (isM 1 L s dtW)) (h.put (.im 1) (rO L (takeM 1 L s dtW))):=λ{β k d} =>
  qAU 40 (.im 1) 0 [] [kS dtW] _ _ _ rfl rfl k1 (qAC L _) (qAC L _) rfl (qD6 L s ps dtW)
 have m1:(h.put (.im 1) (rO L (takeM 1 L s dtW))).get (.im 1)=some (rO L (takeM 1 L s dtW)):=Heap.zput_self k1 (λe=>by cases e);have m0:(h.put (.im 1) (rO L (takeM 1 L s dtW))).get (.im 0)=some (.cells z6s 0):=(Heap.zput_ne k1 (by decide)).trans k0;have m2:(h.put (.im 1) (rO L (takeM 1 L s dtW))).get (.im 2)=some (.cells z6s 0):=(Heap.zput_ne k1 (by decide)).trans k2;have c39:∀ {β:Type}{k:TVal->Heap->Option β}{d:Nat},vcall Om (.v (.c (.func 39 []))) [pI 1,kB (isM 1 L s dtW)] (h.put (.im 1) (rO L (takeM 1 L s dtW))) d k=k (.tup []) ((h.put (.im 1) (rO L (takeM 1 L s dtW))).put (.im 1) (rO L (dtM L s))):=λ{β k d} =>
  qAU 39 (.im 1) 0 [] [kB (isM 1 L s dtW)] _ _ _ rfl rfl m1 (qAC L _) (qAC L _) rfl (qB5 L _ _)
 generalize h.put (.im 1) (rO L (takeM 1 L s dtW))=ha' at *;have n1:(ha'.put (.im 1) (rO L (dtM L s))).get (.im 1)=some (rO L (dtM L s)):=Heap.zput_self m1 (λe=>by cases e);have n0:(ha'.put (.im 1) (rO L (dtM L s))).get (.im 0)=some (.cells z6s 0):=(Heap.zput_ne m1 (by decide)).trans m0;have n2:(ha'.put (.im 1) (rO L (dtM L s))).get (.im 2)=some (.cells z6s 0):=(Heap.zput_ne m1 (by decide)).trans m2;generalize ha'.put (.im 1) (rO L (dtM L s))=hb at *;generalize sub (dtM L s)=r at *;have c34:∀ {β:Type}{k:TVal->Heap->Option β}{d:Nat},vcall Om (.v (.c (.func 34 []))) [pI 1,kI 1] hb d k=k (kA r.1.row) (hb.put (.im 1) (rO L r.2)):=λ{β k d} =>
  qAU 34 (.im 1) 0 [] [kI 1] _ _ _ rfl rfl n1 (qAC L _) (qAC L _) (by simp only[exP]) e34
 rw[ha] at c34;have o1:(hb.put (.im 1) (rO L r.2)).get (.im 1)=some (rO L r.2):=Heap.zput_self n1 (λe=>by cases e);have o0:(hb.put (.im 1) (rO L r.2)).get (.im 0)=some (.cells z6s 0):=(Heap.zput_ne n1 (by decide)).trans n0;have o2:(hb.put (.im 1) (rO L r.2)).get (.im 2)=some (.cells z6s 0):=(Heap.zput_ne n1 (by decide)).trans n2;generalize hb.put (.im 1) (rO L r.2)=hc at *;have A:Ps (hc.put (.im 2) (.cells [.p a1,.p a2,.p a3,.p a4,.p .nilslice,.p .nilslice] 0)) L r.2 r.1 [] [] (.p .nilslice) (.p .nilslice) :=
  ⟨(Heap.zput_ne o2 (by decide)).trans o0,(Heap.zput_ne o2 (by decide)).trans o1,by rw[ha]; exact Heap.zput_self o2 (λe=>by cases e),.inl ⟨rfl,rfl⟩,.inl ⟨rfl,rfl⟩,λr hr=>by cases hr⟩
 obtain⟨h9,A9,e9⟩:=qHB A hp;have P4:∀ x y z w:Cell,put1 z6s 0 [x,y,z,w]=[x,y,z,w,.p .nilslice,.p .nilslice]:=λ_ _ _ _=>rfl
 have pr:pcells [a1,a2,a3,a4]=[.p a1,.p a2,.p a3,.p a4]:=rfl;refine⟨h9,A9,?_⟩;rw[<- e9,w22_2,b22_2,w22_0,b22_0];simp (maxSteps:=9999999) +contextual only[exa,rA,rB,rC,rD,rE,rF,rG,rH,rI,exW,qEE,c33,l1,hh,c40,c39,c34,o2,P4,pr,if_false,oneOf];rfl
theorem qR6:Om 44 [.v (.c (.p .nilslice)),F45] []=some (.tup [],[]):=(qAD rfl).trans (qBt blks_ok 300 44 0 0 _ _ _ (by kernel_rfl))
theorem qRd:Om 47 [.v (.c (.p .nilslice)),F48] []=some (.tup [],[]):=(qAD rfl).trans (qBt blks_ok 300 47 0 0 _ _ _ (by kernel_rfl))
theorem c44n{β:Type}{k:TVal->Heap->Option β}{h:Heap}{e:Nat}:vcall Om (.v (.c (.func 44 []))) [.v (.c (.p .nilslice)),F45] h e k=k (.tup []) h:=by
 have e2:reach h fuelReach ([TVal.v (.c (.p .nilslice)),F45].flatMap TVal.refs) []=[]:=qAc _ _;rw[qDb 44 _ _ _ [] [] [] [] (.tup []) rfl e2 rfl rfl rfl qR6 (Nat.le_refl _)];rfl
theorem c47n{β:Type}{k:TVal->Heap->Option β}{h:Heap}{e:Nat}:vcall Om (.v (.c (.func 47 []))) [.v (.c (.p .nilslice)),F48] h e k=k (.tup []) h:=by
 have e2:reach h fuelReach ([TVal.v (.c (.p .nilslice)),F48].flatMap TVal.refs) []=[]:=qAc _ _;rw[qDb 47 _ _ _ [] [] [] [] (.tup []) rfl e2 rfl rfl rfl qRd (Nat.le_refl _)];rfl
theorem qJy:sortedMN []=[]:=List.perm_nil.1 (qBj [])
theorem qKF:sortedMG []=[]:=List.perm_nil.1 (qBp [])
theorem qOe{h:Heap}{L:List Tok}{s:RS}{main:TT}{ns:Es}{gs:Gs}{T G:Cell}(hn:ns.length<=1000)(A:Ps h L s main ns gs T G) :
  ∃ h',Ps h' L s main (sortedMN ns) gs T G/\∀ {β:Type}(k:TVal->Heap->Option β)(e:Nat),vcall Om (.v (.c (.func 44 []))) [.v (.c T),F45] h e k=k (.tup []) h':=by
 rcases A.tT with ⟨e,e2⟩|⟨e,j,hj,e2,hg⟩
 ·subst e; subst e2;exact⟨h,by rw[qJy]; exact A,λk e=>c44n⟩
 ·subst e2;have hl:1<=ns.length:=List.length_pos_iff.2 e;have so:=qDX ns
  refine⟨h.put (.im j) (.cells (pcells (eRows (sortedMN ns))) 0),?_,λk e=>qAh (O:=Om) (k:=k) (d:=e) 44 (.im j) [.v (.c (.sref (.im j) 0 ns.length none 5)),F45] [sE0 ns.length,F45] _ _ (.tup []) rfl rfl (by
   show [TVal.v (.c (match inn [.im j] (.im j) with|some s => .sref s 0 ns.length none 5|none => .junk)),F45]=_
   rw[show inn [.im j] (.im j)=some (.im 0) by simp[inn,idx]]) hg (qAB _ 0) (qAB (eRows (sortedMN ns)) 0) (λ_=>rfl) (qBf ns hn).2.2⟩
  have old:∀ i o,i≠j->h.get (.im i)=some o->(h.put (.im j) (.cells (pcells (eRows (sortedMN ns))) 0)).get (.im i)=some o:=λi o hi ho=>(Heap.zput_ne hg (λe=>by have:=Ref.im.inj e; omega)).trans ho
  refine⟨old 0 _ (by omega) A.g0,old 1 _ (by omega) A.g1,old 2 _ (by omega) A.g2,.inr ⟨λe3=>e (List.length_eq_zero_iff.1 (by rw[<- so,e3]; rfl)),j,hj,by rw[so],Heap.zput_self hg (λe=>by cases e)⟩,A.tG.keep λr hr => ?_,A.ap⟩;exact Heap.zput_ne hg (λe=>A.ap (.im j) (by simp[Cell.refs]) (e▸hr))
theorem qQG{h:Heap}{L:List Tok}{s:RS}{main:TT}{ns:Es}{gs:Gs}{T G:Cell}(hn:gs.length<=1000)(A:Ps h L s main ns gs T G) :
  ∃ h',Ps h' L s main ns (sortedMG gs) T G/\∀ {β:Type}(k:TVal->Heap->Option β)(e:Nat),vcall Om (.v (.c (.func 47 []))) [.v (.c G),F48] h e k=k (.tup []) h':=by
 rcases A.tG with ⟨e,e2⟩|⟨e,j,hj,e2,hg⟩
 ·subst e; subst e2;exact⟨h,by rw[qKF]; exact A,λk e=>c47n⟩
 ·subst e2;have hl:1<=gs.length:=List.length_pos_iff.2 e;have so:=qDW gs
  refine⟨h.put (.im j) (.cells (pcells (gRows (sortedMG gs))) 0),?_,λk e=>qAh (O:=Om) (k:=k) (d:=e) 47 (.im j) [.v (.c (.sref (.im j) 0 gs.length none 6)),F48] [sG0 gs.length,F48] _ _ (.tup []) rfl rfl (by
   show [TVal.v (.c (match inn [.im j] (.im j) with|some s => .sref s 0 gs.length none 6|none => .junk)),F48]=_
   rw[show inn [.im j] (.im j)=some (.im 0) by simp[inn,idx]]) hg (qAB _ 0) (qAB (gRows (sortedMG gs)) 0) (λ_=>rfl) (qBg gs hn).2.2⟩
  have old:∀ i o,i≠j->h.get (.im i)=some o->(h.put (.im j) (.cells (pcells (gRows (sortedMG gs))) 0)).get (.im i)=some o:=λi o hi ho=>(Heap.zput_ne hg (λe=>by have:=Ref.im.inj e; omega)).trans ho
  refine⟨old 0 _ (by omega) A.g0,old 1 _ (by omega) A.g1,old 2 _ (by omega) A.g2,A.tT.keep λr hr => ?_,.inr ⟨λe3=>e (List.length_eq_zero_iff.1 (by rw[<- so,e3]; rfl)),j,hj,by rw[so],Heap.zput_self hg (λe=>by cases e)⟩,A.ap⟩;exact Heap.zput_ne hg (λe=>A.ap r hr (e▸by simp[Cell.refs]))
theorem AtN.len{β:Type}{h h':Heap}{ns:Es}{T:Cell}(A:AtN h ns T){k:TVal->Heap->Option β}{d:Nat}:vlen Om 2 (.v (.c T)) h' d k=k (kI (ns.length:Int)) h':=by
 rcases A with ⟨rfl,rfl⟩|⟨_,j,_,rfl,_⟩
 ·rfl
 ·rw[qCP]
theorem AtF.len{β:Type}{h h':Heap}{ns:Gs}{T:Cell}(A:AtF h ns T){k:TVal->Heap->Option β}{d:Nat}:vlen Om 2 (.v (.c T)) h' d k=k (kI (ns.length:Int)) h':=by
 rcases A with ⟨rfl,rfl⟩|⟨_,j,_,rfl,_⟩
 ·rfl
 ·rw[qCP]
theorem qOv{h:Heap}{L:List Tok}{s:RS}{main:TT}{ns:Es}{gs:Gs}{T G:Cell}(hn:ns.length<=1000)(hg:gs.length<=1000)(A:Ps h L s main ns gs T G) :
  ∃ h',Ps h' L s main (sortedMN ns) (sortedMG gs) T G/\lim tab.get S 22 0 3 [pI 0,pI 1,pI 2] h=lim tab.get S 22 0 4 [pI 0,pI 1,pI 2,kI ((sortedMN ns).length:Int),kI 0] h':=by
 obtain⟨h1,A1,c44⟩:=qOe hn A;obtain⟨h2,A2,c47⟩:=qQG hg A1;refine⟨h2,A2,?_⟩;obtain⟨m1,m2,m3,m4,hm⟩:=qAY main;have B0:=A.g2;have B1:=A1.g2;have B2:=A2.g2;rw[hm] at B0 B1 B2;change h.get (.im 2)=some (.cells [.p m1,.p m2,.p m3,.p m4,T,G] 0) at B0;change h1.get (.im 2)=some (.cells [.p m1,.p m2,.p m3,.p m4,T,G] 0) at B1;change h2.get (.im 2)=some (.cells [.p m1,.p m2,.p m3,.p m4,T,G] 0) at B2;have LT:=λ{β:Type} {k:TVal->Heap->Option β} {d:Nat}=>A2.tT.len (h':=h2) (k:=k) (d:=d)
 have C4:∀ {β:Type}(k:TVal->Heap->Option β)(e:Nat),vcall Om (.v (.c (.func 44 []))) [.v (.c T),F45] h e k=k (.tup []) h1:=c44;have C7:∀ {β:Type}(k:TVal->Heap->Option β)(e:Nat),vcall Om (.v (.c (.func 47 []))) [.v (.c G),F48] h1 e k=k (.tup []) h2:=c47;rw[w22_3,b22_3];simp (maxSteps:=9999999) +contextual only[exa,rA,rB,rC,rD,rE,rF,rG,rH,rI,exW,B0,B1,B2,C4,C7,LT,if_false,oneOf]
theorem qIg(l:Es)(j:Nat)(q:List UInt8×TT)(hq:l[j]?=some q):(pcells (eRows l))[j*5]?=some (.p (.str q.1)):=by
 have gq:=qDV l j q hq;have:(((pcells (eRows l)).drop (j*5)).take 5)[0]?=(pcells (eRows l))[j*5]?:=by
  rw[List.getElem?_take,if_pos (by decide),List.getElem?_drop,Nat.add_zero]
 rw[<- this,gq]; rfl
theorem qI8(l:Gs)(j:Nat)(q:GS)(hq:l[j]?=some q):(pcells (gRows l))[j*6]?=some (.p (.str q.nm)):=by
 have gq:=qH8 l j q hq;have:(((pcells (gRows l)).drop (j*6)).take 6)[0]?=(pcells (gRows l))[j*6]?:=by
  rw[List.getElem?_take,if_pos (by decide),List.getElem?_drop,Nat.add_zero]
 rw[<- this,gq]; rfl
theorem qPv{h:Heap}{L:List Tok}{s:RS}{main:TT}{ns:Es}{gs:Gs}{T G:Cell}(hn:ns.length<=1000)(A:Ps h L s main ns gs T G)(i:Nat)(hi:i<ns.length) :
  ∃ h',Ps h' L { s with tw:=s.tw||adjM ns i } main ns gs T G/\lim tab.get S 22 0 4 [pI 0,pI 1,pI 2,kI (ns.length:Int),kI (i:Int)] h=lim tab.get S 22 0 4 [pI 0,pI 1,pI 2,kI (ns.length:Int),kI ((i+1:Nat):Int)] h':=by
 obtain⟨j,hj,e2,gj⟩:∃ j,3<=j/\T = .sref (.im j) 0 ns.length none 5/\h.get (.im j)=some (.cells (pcells (eRows ns)) 0):=by
  rcases A.tT with ⟨e,_⟩|⟨_,j,h1,h2,h3⟩
  ·rw[e] at hi; simp at hi
  ·exact⟨j,h1,h2,h3⟩
 generalize hb:(s.tw||adjM ns i)=b;refine⟨_,A.put (t:={ s with tw:=b }),?_⟩;have lt:(i:Int)<(ns.length:Int):=by omega
 have B1:=A.g1;have B2:=A.g2;obtain⟨m1,m2,m3,m4,hm⟩:=qAY main;rw[hm,e2] at B2;change h.get (.im 2)=some (.cells [.p m1,.p m2,.p m3,.p m4,.sref (.im j) 0 ns.length none 5,G] 0) at B2;obtain⟨p,hp⟩:∃ p,ns[i]?=some p:=⟨ns[i]'hi,by simp⟩;have gp:=qIg ns i p hp;rw[w22_4,b22_4];cases ht:s.tw with
 |true =>
  rw[ht,Bool.true_or] at hb;subst hb;simp (maxSteps:=9999999) +contextual only[exa,rA,rB,rC,rD,rE,rF,rG,rH,rI,exW,exY,lt,B1,ht,qBq i (by omega),Nat.le_refl,oneOf]
 |false =>
  rw[ht,Bool.false_or] at hb;cases i with
  |zero =>
   have hb':b=false:=hb.symm;subst hb';have z:¬ (0:Int)<((0:Nat):Int):=by decide
   have w0:IntKind.i64.wrap (((0:Nat):Int)+1)=((0+1:Nat):Int):=by decide
   simp (maxSteps:=9999999) +contextual only[exa,rA,rB,rC,rD,rE,rF,rG,rH,rI,exW,exY,lt,B1,ht,z,w0,Nat.le_refl,if_false,oneOf]
  |succ k =>
   obtain⟨q,hq⟩:∃ q,ns[k]?=some q:=⟨ns[k]'(by omega),by simp⟩;have gq:=qIg ns k q hq;have z:(0:Int)<((k+1:Nat):Int):=by omega
   have ew:IntKind.i64.wrap (((k+1:Nat):Int) - 1)=((k:Nat):Int):=by rw[qAL _ (by omega) (by omega)]; omega
   have t3:(0:Int)<=((k:Nat):Int):=by omega
   have t4:(0:Int)<=((k+1:Nat):Int):=by omega
   have t5:k<ns.length:=by omega
   have ha:adjM ns (k+1)=decide (q.1=p.1):=by
    show(match ns[k]?,ns[k+1]? with|some q,some p=>decide (q.1=p.1)|_,_=>false)=_;rw[hq,hp]
   rw[ha] at hb;by_cases hk:q.1=p.1
   ·rw[decide_eq_true hk] at hb;subst hb;simp (maxSteps:=9999999) +contextual only[exa,rA,rB,rC,rD,rE,rF,rG,rH,rI,exW,exY,lt,B1,B2,ht,z,ew,t3,t4,t5,hi,gj,gp,gq,hk,Int.toNat_natCast,qBq (k+1) (by omega),Nat.le_refl,Nat.add_zero,oneOf]
   ·rw[decide_eq_false hk] at hb;subst hb;simp (maxSteps:=9999999) +contextual only[exa,rA,rB,rC,rD,rE,rF,rG,rH,rI,exW,exY,lt,B1,B2,ht,z,ew,t3,t4,t5,hi,gj,gp,gq,hk,Int.toNat_natCast,qBq (k+1) (by omega),Nat.le_refl,Nat.add_zero,oneOf]
theorem qKu{L:List Tok}{s:RS}{main:TT}{ns:Es}{gs:Gs}{T G:Cell}(hn:ns.length<=1000):∀ (m i:Nat) (h:Heap),i+m=ns.length->Ps h L { s with tw:=twM ns s.tw i } main ns gs T G ->
  ∃ h',Ps h' L { s with tw:=twM ns s.tw ns.length } main ns gs T G/\lim tab.get S 22 0 4 [pI 0,pI 1,pI 2,kI (ns.length:Int),kI (i:Int)] h=lim tab.get S 22 0 5 [pI 0,pI 1,pI 2] h'
 |0,i,h,hi,A=>by
  have hi:i=ns.length:=by omega
  subst hi;refine⟨h,A,?_⟩;have lt:¬ (ns.length:Int)<(ns.length:Int):=by omega
  rw[w22_4,b22_4];simp (maxSteps:=9999999) +contextual only[exa,rA,rB,rC,rD,rE,rF,rG,rH,rI,lt,if_false]
 |m+1,i,h,hi,A=>by
  obtain⟨h1,A1,e1⟩:=qPv hn A i (by omega);obtain⟨h2,A2,e2⟩:=qKu (L:=L) (s:=s) (main:=main) hn m (i+1) h1 (by omega) A1;exact⟨h2,A2,e1.trans e2⟩
def adjG(l:Gs):Nat->Bool
 |0=>false
 |j+1=>match l[j]?,l[j+1]? with
  |some q,some p=>decide (q.nm=p.nm)
  |_,_=>false
def twG(l:Gs)(b:Bool):Nat->Bool
 |0=>b
 |i+1=>twG l b i||adjG l i
theorem qP9{h:Heap}{L:List Tok}{s:RS}{main:TT}{ns:Es}{gs:Gs}{T G:Cell}(hn:gs.length<=1000)(A:Ps h L s main ns gs T G)(i:Nat)(hi:i<gs.length) :
  ∃ h',Ps h' L { s with tw:=s.tw||adjG gs i } main ns gs T G/\lim tab.get S 22 0 6 [pI 0,pI 1,pI 2,kI (gs.length:Int),kI (i:Int)] h=lim tab.get S 22 0 6 [pI 0,pI 1,pI 2,kI (gs.length:Int),kI ((i+1:Nat):Int)] h':=by
 obtain⟨j,hj,e2,gj⟩:∃ j,3<=j/\G = .sref (.im j) 0 gs.length none 6/\h.get (.im j)=some (.cells (pcells (gRows gs)) 0):=by
  rcases A.tG with ⟨e,_⟩|⟨_,j,h1,h2,h3⟩
  ·rw[e] at hi; simp at hi
  ·exact⟨j,h1,h2,h3⟩
 generalize hb:(s.tw||adjG gs i)=b;refine⟨_,A.put (t:={ s with tw:=b }),?_⟩;have lt:(i:Int)<(gs.length:Int):=by omega
 have B1:=A.g1;have B2:=A.g2;obtain⟨m1,m2,m3,m4,hm⟩:=qAY main;rw[hm,e2] at B2;change h.get (.im 2)=some (.cells [.p m1,.p m2,.p m3,.p m4,T,.sref (.im j) 0 gs.length none 6] 0) at B2;obtain⟨p,hp⟩:∃ p,gs[i]?=some p:=⟨gs[i]'hi,by simp⟩;have gp:=qI8 gs i p hp;rw[w22_6,b22_6];cases ht:s.tw with
 |true =>
  rw[ht,Bool.true_or] at hb;subst hb;simp (maxSteps:=9999999) +contextual only[exa,rA,rB,rC,rD,rE,rF,rG,rH,rI,exW,exY,lt,B1,ht,qBq i (by omega),Nat.le_refl,oneOf]
 |false =>
  rw[ht,Bool.false_or] at hb;cases i with
  |zero =>
   have hb':b=false:=hb.symm;subst hb';have z:¬ (0:Int)<((0:Nat):Int):=by decide
   have w0:IntKind.i64.wrap (((0:Nat):Int)+1)=((0+1:Nat):Int):=by decide
   simp (maxSteps:=9999999) +contextual only[exa,rA,rB,rC,rD,rE,rF,rG,rH,rI,exW,exY,lt,B1,ht,z,w0,Nat.le_refl,if_false,oneOf]
  |succ k =>
   obtain⟨q,hq⟩:∃ q,gs[k]?=some q:=⟨gs[k]'(by omega),by simp⟩;have gq:=qI8 gs k q hq;have z:(0:Int)<((k+1:Nat):Int):=by omega
   have ew:IntKind.i64.wrap (((k+1:Nat):Int) - 1)=((k:Nat):Int):=by rw[qAL _ (by omega) (by omega)]; omega
   have t3:(0:Int)<=((k:Nat):Int):=by omega
   have t4:(0:Int)<=((k+1:Nat):Int):=by omega
   have t5:k<gs.length:=by omega
   have ha:adjG gs (k+1)=decide (q.nm=p.nm):=by
    show(match gs[k]?,gs[k+1]? with|some q,some p=>decide (q.nm=p.nm)|_,_=>false)=_;rw[hq,hp]
   rw[ha] at hb;by_cases hk:q.nm=p.nm
   ·rw[decide_eq_true hk] at hb;subst hb;simp (maxSteps:=9999999) +contextual only[exa,rA,rB,rC,rD,rE,rF,rG,rH,rI,exW,exY,lt,B1,B2,ht,z,ew,t3,t4,t5,hi,gj,gp,gq,hk,Int.toNat_natCast,qBq (k+1) (by omega),Nat.le_refl,Nat.add_zero,oneOf]
   ·rw[decide_eq_false hk] at hb;subst hb;simp (maxSteps:=9999999) +contextual only[exa,rA,rB,rC,rD,rE,rF,rG,rH,rI,exW,exY,lt,B1,B2,ht,z,ew,t3,t4,t5,hi,gj,gp,gq,hk,Int.toNat_natCast,qBq (k+1) (by omega),Nat.le_refl,Nat.add_zero,oneOf]
theorem qKT{L:List Tok}{s:RS}{main:TT}{ns:Es}{gs:Gs}{T G:Cell}(hn:gs.length<=1000):∀ (m i:Nat) (h:Heap),i+m=gs.length->Ps h L { s with tw:=twG gs s.tw i } main ns gs T G ->
  ∃ h',Ps h' L { s with tw:=twG gs s.tw gs.length } main ns gs T G/\lim tab.get S 22 0 6 [pI 0,pI 1,pI 2,kI (gs.length:Int),kI (i:Int)] h=lim tab.get S 22 0 7 [pI 0,pI 1,pI 2] h'
 |0,i,h,hi,A=>by
  have hi:i=gs.length:=by omega
  subst hi;refine⟨h,A,?_⟩;have lt:¬ (gs.length:Int)<(gs.length:Int):=by omega
  rw[w22_6,b22_6];simp (maxSteps:=9999999) +contextual only[exa,rA,rB,rC,rD,rE,rF,rG,rH,rI,lt,if_false]
 |m+1,i,h,hi,A=>by
  obtain⟨h1,A1,e1⟩:=qP9 hn A i (by omega);obtain⟨h2,A2,e2⟩:=qKT (L:=L) (s:=s) (main:=main) hn m (i+1) h1 (by omega) A1;exact⟨h2,A2,e1.trans e2⟩
theorem qO1{h:Heap}{L:List Tok}{s:RS}{main:TT}{ns:Es}{gs:Gs}{T G:Cell}(A:Ps h L s main ns gs T G) :
  lim tab.get S 22 0 5 [pI 0,pI 1,pI 2] h=lim tab.get S 22 0 6 [pI 0,pI 1,pI 2,kI (gs.length:Int),kI 0] h:=by
 have B2:=A.g2;obtain⟨m1,m2,m3,m4,hm⟩:=qAY main;rw[hm] at B2;change h.get (.im 2)=some (.cells [.p m1,.p m2,.p m3,.p m4,T,G] 0) at B2;have LG:=λ{β:Type} {k:TVal->Heap->Option β} {d:Nat}=>A.tG.len (h':=h) (k:=k) (d:=d)
 rw[w22_5,b22_5];simp (maxSteps:=9999999) +contextual only[exa,rA,rB,rC,rD,rE,rF,rG,rH,rI,exW,exY,B2,LG,Nat.le_refl,oneOf]
theorem qRn{vs:List Comp}{h:Heap}{v:TVal}{fr:List Ref}(hf:freezeT h (oneOf vs)=some (v,fr))(hp:pT v=true):vfin true 0 vs h=some (v,[]):=by
 letI:Sym:=⟨λ_=>0⟩
 obtain⟨q1,q2,q3,q4⟩:=qAk hp;rw[qCL];unfold finV;simp[hf,q1,q3,ims,reach,fuelReach]
def slF{α:Type}(l:List α):Sl α:=if l.isEmpty then .nil else .mk false l
theorem qDw{α:Type}(l:List α):(slF l).list=l:=by cases l <;> rfl
structure SC where
 main:TT
 ts:Sl (List UInt8×TT)
 gs:Sl GS
def SC.row(x:SC):List PVal:=x.main.row++[slP 5 (λp=>eRow p.1 p.2) x.ts,slP 6 gRow x.gs]
def SC.zero:SC:=⟨zeroT,.nil,.nil⟩
theorem AtN.frz{h:Heap}{ns:Es}{T:Cell}(A:AtN h ns T):∃ fr,AI.freeze h fuelFreeze T=some (slP 5 (λp=>eRow p.1 p.2) (slF ns),fr):=by
 rcases A with ⟨rfl,rfl⟩|⟨hne,j,_,rfl,hg⟩
 ·exact⟨[],rfl⟩
 ·refine⟨[.im j],?_⟩;have e:slF ns = .mk false ns:=by cases ns with|nil=>exact absurd rfl hne|cons _ _=>rfl
  rw[e];have:=qDv (h:=h) 28 j 5 none (ns.map λp=>eRow p.1 p.2) (λr hr=>by obtain⟨p,_,rfl⟩:=List.mem_map.1 hr; exact qA0 _ _) (by rw[hg]; unfold eRows; rw[List.flatMap_def]);rw[List.length_map] at this;exact this
theorem AtF.frz{h:Heap}{ns:Gs}{T:Cell}(A:AtF h ns T):∃ fr,AI.freeze h fuelFreeze T=some (slP 6 gRow (slF ns),fr):=by
 rcases A with ⟨rfl,rfl⟩|⟨hne,j,_,rfl,hg⟩
 ·exact⟨[],rfl⟩
 ·refine⟨[.im j],?_⟩;have e:slF ns = .mk false ns:=by cases ns with|nil=>exact absurd rfl hne|cons _ _=>rfl
  rw[e];have:=qDv (h:=h) 28 j 6 none (ns.map gRow) (λr hr=>by obtain⟨p,_,rfl⟩:=List.mem_map.1 hr; exact qAm _) (by rw[hg]; unfold gRows; rw[List.flatMap_def]);rw[List.length_map] at this;exact this
theorem qOx{h:Heap}{L:List Tok}{s:RS}{main:TT}{ns:Es}{gs:Gs}{T G:Cell}(hp:s.p<=900000)(hL:L.length<=1000)(A:Ps h L s main ns gs T G) :
  lim tab.get S 22 0 7 [pI 0,pI 1,pI 2] h=some (if errM (endM L s)=0 then .tup [.agg (pcells (SC.row ⟨main,slF ns,slF gs⟩)),.c (.p (.int .i64 0))] else .tup [.agg (pcells SC.zero.row),.c (.p (.int .i64 (errM (endM L s))))],[]):=by
 have A1:=A.put (t:=endM L s);have c35:∀ {β:Type}{k:TVal->Heap->Option β}{d:Nat},vcall Om (.v (.c (.func 35 []))) [pI 1] h d k=k (kI (errM (endM L s))) (h.put (.im 1) (rO L (endM L s))):=λ{β k d} =>
  qAU 35 (.im 1) 0 [] [] _ _ _ rfl rfl A.g1 (qAC L _) (qAC L _) rfl (qQf L s)
 generalize h.put (.im 1) (rO L (endM L s))=h1 at *;obtain⟨m1,m2,m3,m4,hm⟩:=qAY main;have B0:=A1.g0;have B2:=A1.g2;rw[hm] at B2;change h1.get (.im 2)=some (.cells [.p m1,.p m2,.p m3,.p m4,T,G] 0) at B2;have P6:∀ a b c d e f:Cell,put1 z6s 0 [a,b,c,d,e,f]=[a,b,c,d,e,f]:=λ_ _ _ _ _ _=>qBA _ _ rfl
 by_cases he:errM (endM L s)=0
 ·rw[if_pos he];have g0:(h1.put (.im 0) (.cells [.p m1,.p m2,.p m3,.p m4,T,G] 0)).get (.im 0)=some (.cells [.p m1,.p m2,.p m3,.p m4,T,G] 0):=Heap.zput_self B0 (λe=>by cases e);have hT:AtN (h1.put (.im 0) (.cells [.p m1,.p m2,.p m3,.p m4,T,G] 0)) ns T:=A1.tT.keep λr hr=>by
   obtain⟨j,rfl,hj,_⟩:=A1.tT.ref r hr;exact Heap.zput_ne B0 (λe=>by cases e; omega)
  have hG:AtF (h1.put (.im 0) (.cells [.p m1,.p m2,.p m3,.p m4,T,G] 0)) gs G:=A1.tG.keep λr hr=>by
   obtain⟨j,rfl,hj,_⟩:=A1.tG.ref r hr;exact Heap.zput_ne B0 (λe=>by cases e; omega)
  obtain⟨f1,e1⟩:=hT.frz;obtain⟨f2,e2⟩:=hG.frz;have fin:vfin true 0 [.agg [.p m1,.p m2,.p m3,.p m4,T,G],.c (.p (.int .i64 0))] (h1.put (.im 0) (.cells [.p m1,.p m2,.p m3,.p m4,T,G] 0))=some (.tup [.agg (pcells (SC.row ⟨main,slF ns,slF gs⟩)),.c (.p (.int .i64 0))],[]):=by
   refine qRn (fr:=f1++f2) ?_ (by simp only[exP]);generalize h1.put (.im 0) (.cells [.p m1,.p m2,.p m3,.p m4,T,G] 0)=h9 at e1 e2 ⊢;have em:([.p m1,.p m2,.p m3,.p m4,T,G]:List Cell).mapM (AI.freeze h9 fuelFreeze)=some [(m1,[]),(m2,[]),(m3,[]),(m4,[]),(slP 5 (λp=>eRow p.1 p.2) (slF ns),f1),(slP 6 gRow (slF gs),f2)]:=by
    have fp:∀ x:PVal,AI.freeze h9 fuelFreeze (.p x)=some (x,[]):=λx=>rfl
    simp only[List.mapM_cons,List.mapM_nil,fp,e1,e2,Option.pure_def,rL,Option.bind_some]
   show([Comp.agg [.p m1,.p m2,.p m3,.p m4,T,G],.c (.p (.int .i64 0))].mapM (freezeC h9)).map _=_;have e3:freezeC h9 (.agg [.p m1,.p m2,.p m3,.p m4,T,G])=some (.agg (pcells (SC.row ⟨main,slF ns,slF gs⟩)),f1++f2):=by
    show(List.mapM (AI.freeze h9 fuelFreeze) [.p m1,.p m2,.p m3,.p m4,T,G]).map _=_;rw[em];unfold SC.row;rw[hm];simp[pcells]
   have e4:freezeC h9 (.c (.p (.int .i64 0)))=some (.c (.p (.int .i64 0)),[]):=rfl;simp only[List.mapM_cons,List.mapM_nil,e3,e4,Option.pure_def,rL,Option.bind_some];simp
  rw[w22_7,b22_7];simp (maxSteps:=9999999) +contextual only[exa,rA,rB,rC,rD,rE,rF,rG,rH,rI,exW,exY,c35,he,B0,B2,P6,g0,Nat.le_refl,if_false,oneOf];exact fin
 ·rw[if_neg he];rw[w22_7,b22_7];have g0:=Heap.zput_self (o := .cells z6s 0) B0 (λe=>by cases e);simp (maxSteps:=9999999) +contextual only[exa,rA,rB,rC,rD,rE,rF,rG,rH,rI,exW,exY,c35,he,B0,B2,P6,g0,Nat.le_refl,if_false,oneOf];rfl
open Go Go.AI
def RSameOK(a b:TT):Prop:=Om 17 [kA a.row,kA b.row] []=some (kB (sameT a b),[])
abbrev s2P:TVal := .v (.c (.ptr (.own 2 1) 0))
abbrev s3P:TVal := .v (.c (.ptr (.own 3 1) 0))
abbrev tC(a:TT):List Cell:=[.p (.int .i64 a.kind),.p (.str a.name),.p (slP 1 sRow a.names),.p (slP 4 TT.row a.kids)]
theorem qQT(a:TT):pcells a.row=tC a:=by rw[TT.row_eq]; rfl
theorem qPb(a b:TT)(hab:a.names.len=b.names.len)(hl:a.names.len<=1000)(h:Heap)(g2:h.get (.own 2 1)=some (.cells (tC a) 0))(g3:h.get (.own 3 1)=some (.cells (tC b) 0)) :
  ∀ i:Nat,lim tab.get S 17 0 1 [s2P,s3P,kI (i:Int)] h=if a.names.list.drop i=b.names.list.drop i then lim tab.get S 17 0 3 [s2P,s3P,kI 0] h else some (kB false,[]):=by
 refine qE7 a.names.len (λi hi => ?_) (λi hi ihl => ?_) <;> rw[w17_1,b17_1]
 ·have h1:¬ (i:Int)<(a.names.len:Int):=by omega
  have e1:a.names.list.drop i=[]:=qB8 hi;have e2:b.names.list.drop i=[]:=qB8 (by show b.names.len<=i; omega);rw[e1,e2,if_pos rfl];simp (maxSteps:=9999999) +contextual only[exa,rA,rB,rC,rD,rE,rF,rG,rH,rI,exR,g2,g3,h1];rw[w17_2,b17_2]
 ·have h1:(i:Int)<(a.names.len:Int):=by omega
  obtain⟨x,hx,dx,mx⟩:=qBN (l:=a.names.list) (i:=i) hi;obtain⟨y,hy,dy,my⟩:=qBN (l:=b.names.list) (i:=i) (by show i<b.names.len; omega);rw[dx,dy];by_cases hxy:x=y
  ·subst hxy;have:(x::a.names.list.drop (i+1)=x::b.names.list.drop (i+1))=(a.names.list.drop (i+1)=b.names.list.drop (i+1)):=by simp
   simp only[this];rw[<- ihl];simp (maxSteps:=9999999) +contextual only[exa,rA,rB,rC,rD,rE,rF,rG,rH,rI,exR,g2,g3,h1,hx,hy,qBq i (by omega)]
  ·rw[if_neg (by simp[hxy])];simp (maxSteps:=9999999) +contextual only[exa,rA,rB,rC,rD,rE,rF,rG,rH,rI,exR,g2,g3,h1,hx,hy,hxy,oneOf]
theorem qNi(a b:TT)(hab:a.kids.len=b.kids.len)(hl:a.kids.len<=1000)(ok:∀ x∈a.kids.list,∀ y∈b.kids.list,RSameOK x y)(h:Heap)(g2:h.get (.own 2 1)=some (.cells (tC a) 0))(g3:h.get (.own 3 1)=some (.cells (tC b) 0)) :
  ∀ i:Nat,lim tab.get S 17 0 3 [s2P,s3P,kI (i:Int)] h=some (kB (sameL (a.kids.list.drop i) (b.kids.list.drop i)),[]):=by
 refine qE7 a.kids.len (λi hi => ?_) (λi hi ihl => ?_) <;> rw[w17_3,b17_3]
 ·have h1:¬ (i:Int)<(a.kids.len:Int):=by omega
  have e1:a.kids.list.drop i=[]:=qB8 hi;have e2:b.kids.list.drop i=[]:=qB8 (by show b.kids.len<=i; omega);rw[e1,e2];simp (maxSteps:=9999999) +contextual only[exa,rA,rB,rC,rD,rE,rF,rG,rH,rI,exR,g2,g3,h1,oneOf,sameL]
 ·have h1:(i:Int)<(a.kids.len:Int):=by omega
  obtain⟨x,hx,dx,mx⟩:=qBN (l:=a.kids.list) (i:=i) hi;obtain⟨y,hy,dy,my⟩:=qBN (l:=b.kids.list) (i:=i) (by show i<b.kids.len; omega);rw[dx,dy,sameL];have cc:CAL 17 [kA x.row,kA y.row] (kB (sameT x y)):=qAH 17 _ _ (by simp only[exP]) (ok x mx y my) rfl;cases hs:sameT x y
  ·simp (maxSteps:=9999999) +contextual only[exa,rA,rB,rC,rD,rE,rF,rG,rH,rI,exR,g2,g3,h1,hx,hy,cc,hs,oneOf]
  ·simp (maxSteps:=9999999) +contextual only[exa,rA,rB,rC,rD,rE,rF,rG,rH,rI,exR,g2,g3,h1,hx,hy,cc,hs,qBq i (by omega),ihl]
theorem qPU:∀ (n:Nat) (a b:TT),SizeOf.sizeOf a<n->smT a->smT b->RSameOK a b:=by
 intro n
 induction n with
 |zero=>intro a b h; omega
 |succ n ih =>
  intro a b hs sa sb;obtain⟨a1,a2,a3⟩:=(qGM a).1 sa;obtain⟨b1,b2,b3⟩:=(qGM b).1 sb;have ok:∀ x∈a.kids.list,∀ y∈b.kids.list,RSameOK x y:=λx hx y hy=>ih x y (by have:=TT.mem_size hx; omega) (a3 x hx) (b3 y hy)
  refine(qAD rfl).trans ?_;show lim tab.get S 17 0 0 [kA a.row,kA b.row] h0=_;rw[w17_0,b17_0,qIk];rw[show kA a.row = .v (.agg (tC a)) by rw[<- qQT],show kA b.row = .v (.agg (tC b)) by rw[<- qQT]];by_cases h1:a.kind=b.kind
  ·by_cases h2:a.name=b.name
   ·by_cases h3:(a.names.len:Int)=(b.names.len:Int)
    ·by_cases h4:(a.kids.len:Int)=(b.kids.len:Int)
     ·have NL:=qPb a b (by omega) a1 ((h0.own 2 1 (.cells (tC a) 0)).own 3 1 (.cells (tC b) 0)) rfl rfl 0;have KL:=qNi a b (by omega) a2 ok ((h0.own 2 1 (.cells (tC a) 0)).own 3 1 (.cells (tC b) 0)) rfl rfl 0;rw[List.drop_zero,List.drop_zero] at NL KL;have hh:lim tab.get S 17 0 1 [s2P,s3P,kI 0] ((h0.own 2 1 (.cells (tC a) 0)).own 3 1 (.cells (tC b) 0))=some (kB (((decide (a.kind=b.kind)&&decide (a.name=b.name))&&decide (a.names.list=b.names.list))&&sameL a.kids.list b.kids.list),[]):=by
       refine NL.trans ?_;by_cases h5:a.names.list=b.names.list
       ·rw[if_pos h5];refine KL.trans ?_;rw[decide_eq_true h1,decide_eq_true h2,decide_eq_true h5]; rfl
       ·rw[if_neg h5,decide_eq_false h5];rw[Bool.and_false,Bool.false_and]
      rw[<- hh];simp (maxSteps:=9999999) +contextual only[exa,rA,rB,rC,rD,rE,rF,rG,rH,rI,exR,h1,h2,h3,h4]
     ·have h5:sameL a.kids.list b.kids.list=false:=qEs _ _ (λe=>h4 (by show((a.kids.list.length:Nat):Int)=_; rw[e]; rfl));rw[h5,Bool.and_false];simp (maxSteps:=9999999) +contextual only[exa,rA,rB,rC,rD,rE,rF,rG,rH,rI,exR,h1,h2,h3,h4,oneOf]
    ·have h5:a.names.list≠b.names.list:=λe=>h3 (by show((a.names.list.length:Nat):Int)=_; rw[e]; rfl)
     rw[decide_eq_false h5,Bool.and_false,Bool.false_and];simp (maxSteps:=9999999) +contextual only[exa,rA,rB,rC,rD,rE,rF,rG,rH,rI,exR,h1,h2,h3,oneOf]
   ·simp (maxSteps:=9999999) +contextual only[exa,rA,rB,rC,rD,rE,rF,rG,rH,rI,exR,h1,h2,oneOf]
  ·simp (maxSteps:=9999999) +contextual only[exa,rA,rB,rC,rD,rE,rF,rG,rH,rI,exR,h1,oneOf]
abbrev IsP(s:Sl Int):TVal := .v (.c (.p (slP 1 iRow s)))
theorem qLR{β:Type}{h:Heap}{k:TVal->Heap->Option β}(a b:List UInt8)(hl:a.length+b.length<=4611686018427387904):vbin .add 0 (kS a) (kS b) h k=k (kS (a++b)) h:=by
 simp (config:={ maxSteps:=10000000 }) only[exa,rA,rB,rC,rD,rE,rF,rG,rH,rI,decide_eq_true hl]
def nameB(w:List UInt8):Bool:=match w with
 |[]=>false
 |c::_=>isLetter c.toNat&&w.all (λb=>isWord b.toNat)&&Nat.ble w.length 16
def endW(r:List UInt8):Prop:=∀ b t,r=b::t->isWord b.toNat=false
theorem qGy(p:Nat->Bool):∀ (w r:List UInt8),(∀ b∈w,p b.toNat=true)->(∀ b t,r=b::t->p b.toNat=false)->runLen p (w++r)=w.length
 |[],r,_,h=>by
  cases r with
  |nil=>rfl
  |cons b t=>simp[runLen,h b t rfl]
 |b::w,r,h1,h2=>by
  have:=qGy p w r (λx hx=>h1 x (List.mem_cons_of_mem _ hx)) h2;simp[runLen,h1 b (List.mem_cons_self ..),this]
theorem qMt(n:Nat)(h:isLetter n=true):isBlank n=false:=by
 cases hb:isBlank n with
 |false=>rfl
 |true =>
  exfalso;unfold isLetter at h;unfold isBlank at hb;simp only[Bool.or_eq_true,Bool.and_eq_true,Nat.beq_eq,Nat.ble_eq] at h hb;omega
theorem qNH{w:List UInt8}(hw:nameB w=true){r:List UInt8}(hr:endW r)(f i:Nat)(acc:List Tok):toksGo (f+1) (w++r) i acc=toksGo f r (i+w.length) (acc++[⟨1,w,0,(i:Int)⟩]):=by
 cases w with
 |nil=>cases hw
 |cons c q =>
  unfold nameB at hw;simp only[Bool.and_eq_true,Nat.ble_eq,List.all_eq_true] at hw;obtain⟨⟨h1,h2⟩,h3⟩:=hw;have hk:runLen isBlank (c::(q++r))=0:=by simp[runLen,qMt _ h1]
  have hl:=qGy isWord (c::q) r h2 hr;have ho:oneM (c::(q++r))=⟨⟨1,c::q,0,0⟩,((c::q).length:Nat),0⟩:=by
   show(if isLetter c.toNat then wrdM (c::(q++r)) else _)=_;rw[if_pos h1];unfold wrdM;rw[show c::(q++r)=(c::q)++r from rfl,hl,if_neg (by omega),List.take_left'];rfl
  rw[List.cons_append,toksGo];simp only[hk,List.drop_zero];simp only[ho,Nat.add_zero,if_true,Int.toNat_natCast];rw[show(c::(q++r))=(c::q)++r from rfl,List.drop_left'];rfl
def sgnB(c:UInt8):Bool:=Nat.beq c.toNat 60||Nat.beq c.toNat 62||Nat.beq c.toNat 123||Nat.beq c.toNat 125||Nat.beq c.toNat 44||Nat.beq c.toNat 58||Nat.beq c.toNat 59||Nat.beq c.toNat 40||Nat.beq c.toNat 41||Nat.beq c.toNat 61
theorem qEY{c:UInt8}(h:sgnB c=true):c=60\/c=62\/c=123\/c=125\/c=44\/c=58\/c=59\/c=40\/c=41\/c=61:=by
 unfold sgnB at h;simp only[Bool.or_eq_true,Nat.beq_eq] at h
 rcases h with ((((((((h|h)|h)|h)|h)|h)|h)|h)|h)|h
 ·exact .inl (UInt8.toNat_inj.1 h)
 ·exact .inr (.inl (UInt8.toNat_inj.1 h))
 ·exact .inr (.inr (.inl (UInt8.toNat_inj.1 h)))
 ·exact .inr (.inr (.inr (.inl (UInt8.toNat_inj.1 h))))
 ·exact .inr (.inr (.inr (.inr (.inl (UInt8.toNat_inj.1 h)))))
 ·exact .inr (.inr (.inr (.inr (.inr (.inl (UInt8.toNat_inj.1 h))))))
 ·exact .inr (.inr (.inr (.inr (.inr (.inr (.inl (UInt8.toNat_inj.1 h)))))))
 ·exact .inr (.inr (.inr (.inr (.inr (.inr (.inr (.inl (UInt8.toNat_inj.1 h))))))))
 ·exact .inr (.inr (.inr (.inr (.inr (.inr (.inr (.inr (.inl (UInt8.toNat_inj.1 h)))))))))
 ·exact .inr (.inr (.inr (.inr (.inr (.inr (.inr (.inr (.inr (UInt8.toNat_inj.1 h)))))))))
theorem qPT{c:UInt8}(r:List UInt8)(h1:isLetter c.toNat=false)(h2:isDigit c.toNat=false)(h3:c.toNat≠45)(h4:c.toNat≠34):oneM (c::r)=signM (c::r):=by
 have hn:numHead (c::r)=false:=by
  show(isDigit c.toNat||(decide (c.toNat=45)&&_))=false;rw[h2,decide_eq_false h3,Bool.false_and,Bool.or_false]
 show(if isLetter c.toNat=true then wrdM (c::r) else if numHead (c::r)=true then numberM (c::r) else if c.toNat=34 then textM (c::r) else signM (c::r))=_;rw[h1,hn,if_neg (by decide),if_neg (by decide),if_neg h4]
theorem qNj{c:UInt8}(hc:sgnB c=true)(r:List UInt8)(hr:c=58->r.head?≠some 61)(f i:Nat)(acc:List Tok):toksGo (f+1) (c::r) i acc=toksGo f r (i+1) (acc++[⟨4,[c],0,(i:Int)⟩]):=by
 have ho:oneM (c::r)=⟨⟨4,[c],0,0⟩,1,0⟩:=by
  have h2:¬ (c::r).take 2=two2:=by
   intro e;cases r with
   |nil=>cases e
   |cons b t =>
    have e':[c,b]=[58,61]:=e;injection e' with e1 e2
    injection e2 with e2 e3
    exact hr e1 (by rw[e2]; rfl)
  rcases qEY hc with rfl|rfl|rfl|rfl|rfl|rfl|rfl|rfl|rfl|rfl
  all_goals
   rw[qPT r (by decide) (by decide) (by decide) (by decide)];unfold signM
   rw[if_neg (by
    intro e;cases r with
    |nil=>cases e
    |cons b t=>injection e with e1 e2; cases e1),if_neg h2]
   rfl
 have hk:runLen isBlank (c::r)=0:=by
  rcases qEY hc with rfl|rfl|rfl|rfl|rfl|rfl|rfl|rfl|rfl|rfl <;> rfl
 rw[toksGo];simp only[hk,List.drop_zero];simp only[ho,Nat.add_zero,if_true];rfl
theorem qLx(f:Nat)(s:List UInt8)(i:Nat)(acc:List Tok):toksGo (f+1) (32::s) i acc=toksGo (f+1) s (i+1) acc:=by
 have e:runLen isBlank (32::s)=runLen isBlank s+1:=by simp[runLen]; rfl
 unfold toksGo;simp only[e,List.drop_succ_cons,show i+(runLen isBlank s+1)=i+1+runLen isBlank s by omega]
theorem qOt(f i:Nat)(acc:List Tok):toksGo f [] i acc = .ok acc:=by cases f <;> rfl
abbrev TW:=Int×List UInt8
def tw(t:Tok):TW:=(t.kind,t.text)
def Rd(s:List UInt8)(ws:List TW)(r:List UInt8):Prop:=ws.length+r.length<=s.length/\∀ f i acc,∃ l i',l.map tw=ws/\toksGo (f+ws.length) s i acc=toksGo f r i' (acc++l)
theorem Rd.name{w:List UInt8}(hw:nameB w=true){r:List UInt8}(hr:endW r):Rd (w++r) [(1,w)] r:=by
 refine⟨?_,λf i acc=>⟨[⟨1,w,0,(i:Int)⟩],_,rfl,qNH hw hr f i acc⟩⟩;cases w with
 |nil=>cases hw
 |cons c q=>simp; omega
theorem Rd.sign{c:UInt8}(hc:sgnB c=true)(r:List UInt8)(hr:c=58->r.head?≠some 61):Rd (c::r) [(4,[c])] r :=
 ⟨by simp; omega,λf i acc=>⟨[⟨4,[c],0,(i:Int)⟩],_,rfl,qNj hc r hr f i acc⟩⟩
theorem Rd.trans{s m r:List UInt8}{a b:List TW}(h1:Rd s a m)(h2:Rd m b r):Rd s (a++b) r:=by
 refine⟨by have:=h1.1; have:=h2.1; rw[List.length_append]; omega,λf i acc => ?_⟩;obtain⟨l1,i1,e1,e2⟩:=h1.2 (f+b.length) i acc;obtain⟨l2,i2,e3,e4⟩:=h2.2 f i1 (acc++l1);refine⟨l1++l2,i2,by rw[List.map_append,e1,e3],?_⟩;rw[List.length_append,show f+(a.length+b.length)=f+b.length+a.length by omega,e2,e4,List.append_assoc]
theorem Rd.blank{s r:List UInt8}{a:List TW}(h1:Rd s a r)(ha:a≠[]):Rd (32::s) a r:=by
 refine⟨by have:=h1.1; rw[List.length_cons]; omega,λf i acc => ?_⟩;obtain⟨l1,i1,e1,e2⟩:=h1.2 f (i+1) acc;refine⟨l1,i1,e1,?_⟩;obtain⟨x,xs,rfl⟩:∃ x xs,a=x::xs:=by cases a with|nil=>exact absurd rfl ha|cons x xs=>exact⟨x,xs,rfl⟩
 rw[List.length_cons,<- Nat.add_assoc] at e2 ⊢;rw[qLx];exact e2
def keyL:List (List UInt8):=[wordM 1,wordM 2,wordM 3,wordM 4,wordM 5,wordM 6,wordM 8]
def strictS(l:Es):Prop:=∀ i p q,l[i]?=some p->l[i+1]?=some q->bless p.1 q.1=true
def WF:Nat->TT->Prop
 |0,_=>False
 |n+1,t=>(∃ k:Int,(k=1\/k=2\/k=3)/\t=leafT k)\/(∃ w,nameB w=true/\w∉keyL/\t = .mk 9 w .nil .nil)\/(∃ (k:Int) (x:TT),(k=4\/k=5\/k=6)/\WF n x/\t = .mk k [] .nil (.mk true [x])) \/
  (∃ (k:Int) (l:Es),(k=7\/k=8)/\l.length<=1000/\(∀ p∈l,nameB p.1=true/\WF n p.2)/\strictS l/\t=recT k l)
def fldW(sub:TT->List TW):Es->List TW
 |[]=>[]
 |[p]=>(1,p.1)::(4,[58])::sub p.2
 |p::q::l=>((1,p.1)::(4,[58])::sub p.2)++(4,[44])::fldW sub (q::l)
def tokN:Nat->TT->List TW
 |0,_=>[]
 |n+1,t=>if t.kind=9 then [(1,t.name)] else if t.kind=7 then (4,[123])::(fldW (tokN n) (t.names.list.zip t.kids.list)++[(4,[125])]) else if t.kind=8 then (1,wordM 8)::(4,[123])::(fldW (tokN n) (t.names.list.zip t.kids.list)++[(4,[125])])
  else match t.kids.list with
   |[]=>[(1,wordM t.kind)]
   |x::_=>(1,wordM t.kind)::(4,[60])::(tokN n x++[(4,[62])])
theorem qCm(n:Nat)(t:TT):tokN (n+1) t=if t.kind=9 then [(1,t.name)] else if t.kind=7 then (4,[123])::(fldW (tokN n) (t.names.list.zip t.kids.list)++[(4,[125])]) else if t.kind=8 then (1,wordM 8)::(4,[123])::(fldW (tokN n) (t.names.list.zip t.kids.list)++[(4,[125])])
  else match t.kids.list with
   |[]=>[(1,wordM t.kind)]
   |x::_=>(1,wordM t.kind)::(4,[60])::(tokN n x++[(4,[62])]):=rfl
theorem qB3{α:Type}(l:List α):(grown l).list=l:=by cases l <;> rfl
theorem qKX(k:Int)(l:Es):(recT k l).names.list.zip (recT k l).kids.list=l:=by
 show(grown (l.map (·.1))).list.zip (grown (l.map (·.2))).list=l;rw[qB3,qB3]
 induction l with
 |nil=>rfl
 |cons p l ih=>simp[ih]
theorem qCK{c:UInt8}(hc:sgnB c=true)(r:List UInt8):endW (c::r):=by
 intro b t e;injection e with e1 e2
 subst e1
 rcases qEY hc with rfl|rfl|rfl|rfl|rfl|rfl|rfl|rfl|rfl|rfl <;> decide
def Pos(L:List Tok)(s:RS)(ws:List TW):Prop:=s.e=0/\(L.map tw).drop s.p=ws
def advM(s:RS)(k:Nat):RS:={ s with p:=s.p+k }
theorem Pos.adv{L:List Tok}{s:RS}{a b:List TW}(h:Pos L s (a++b)):Pos L (advM s a.length) b:=by
 refine⟨h.1,?_⟩;show(L.map tw).drop (s.p+a.length)=b;rw[<- List.drop_drop,h.2,List.drop_left'];rfl
theorem qAb(s:RS)(a b:Nat):advM (advM s a) b=advM s (a+b):=by unfold advM; simp[Nat.add_assoc]
theorem qAn(s:RS):nextM s=advM s 1:=rfl
section
variable {L:List Tok} {s:RS} {k:Int} {x:List UInt8} {w:List TW}
theorem Pos.at(h:Pos L s ((k,x)::w)):∃ t,L[s.p]?=some t/\t.kind=k/\t.text=x:=by
 have h2:((L.map tw).drop s.p)[0]?=some (k,x):=by rw[h.2]; rfl
 rw[List.getElem?_drop,Nat.add_zero,List.getElem?_map] at h2;cases ht:L[s.p]? with
 |none=>rw[ht] at h2; cases h2
 |some t =>
  rw[ht] at h2;have:tw t=(k,x):=Option.some.inj h2;exact⟨t,rfl,congrArg Prod.fst this,congrArg Prod.snd this⟩
theorem Pos.peek(h:Pos L s ((k,x)::w)):(peekM L s).kind=k/\(peekM L s).text=x:=by
 obtain⟨t,h1,h2,h3⟩:=h.at;unfold peekM;rw[if_pos h.1,h1];exact⟨h2,h3⟩
theorem Pos.lt(h:Pos L s ((k,x)::w)):s.p<L.length:=by
 obtain⟨t,h1,_⟩:=h.at;exact(List.getElem?_eq_some_iff.1 h1).1
theorem Pos.next(h:Pos L s ((k,x)::w)):Pos L (nextM s) w:=Pos.adv (a:=[(k,x)]) h
theorem Pos.is(h:Pos L s ((k,x)::w))(k':Int)(y:List UInt8):isM k' L s y=(decide (k=k')&&decide (x=y)):=by
 unfold isM;rw[h.peek.1,h.peek.2]
theorem Pos.take(h:Pos L s ((4,x)::w)):isM 4 L s x=true/\takeM 4 L s x=nextM s:=by
 have:isM 4 L s x=true:=by rw[h.is]; simp
 exact⟨this,by unfold takeM; rw[if_pos this]⟩
theorem Pos.must(h:Pos L s ((4,x)::w)):mustM (takeM 4 L s x) (isM 4 L s x)=nextM s:=by
 rw[h.take.1,h.take.2]; rfl
end
theorem Pos.col{L:List Tok}{s:RS}{nm:List UInt8}{w:List TW}(h:Pos L s ((1,nm)::(4,[58])::w)):colM L s=advM s 2/\(peekM L s).text=nm:=by
 refine⟨?_,h.peek.2⟩;have h1:nmS1 L s=nextM s:=by
  unfold nmS1;rw[h.peek.1]; rfl
 have h2:=h.next;unfold colM;rw[h1,h2.must];rfl
def tailW(sub:TT->List TW):Es->List TW
 |[]=>[]
 |q::l=>(4,[44])::(1,q.1)::(4,[58])::(sub q.2++tailW sub l)
theorem qHa(sub:TT->List TW):∀ (p:List UInt8×TT) (l:Es),fldW sub (p::l)=(1,p.1)::(4,[58])::(sub p.2++tailW sub l)
 |p,[]=>by simp[fldW,tailW]
 |p,q::l=>by
  show((1,p.1)::(4,[58])::sub p.2)++(4,[44])::fldW sub (q::l)=_;rw[qHa sub q l];simp[tailW]
def KidOK(L:List Tok)(sub:RS->TT×RS)(ok:RS->Prop)(tk:TT->List TW)(t:TT):Prop:=∀ s rest,Pos L s (tk t++rest)->sub s=(t,advM s (tk t).length)/\ok s
theorem qJM{L:List Tok}{sub:RS->TT×RS}{ok:RS->Prop}{tk:TT->List TW}{p:List UInt8×TT}(K:KidOK L sub ok tk p.2){s:RS}{rest:List TW}(h:Pos L s ((1,p.1)::(4,[58])::(tk p.2++rest))) :
  fieldM sub L s=(p,advM s (2+(tk p.2).length))/\ok (colM L s)/\Pos L (advM s (2+(tk p.2).length)) rest:=by
 obtain⟨h1,h2⟩:=h.col;have h3:Pos L (advM s 2) (tk p.2++rest):=Pos.adv (a:=[(1,p.1),(4,[58])]) h;obtain⟨h4,h5⟩:=K _ _ h3;refine⟨?_,by rw[h1]; exact h5,?_⟩
 ·unfold fieldM;rw[h1,h2,h4,qAb]
 ·have:=h3.adv
  rwa [qAb] at this
theorem qKY{L:List Tok}{sub:RS->TT×RS}{ok:RS->Prop}{tk:TT->List TW}:∀ (l:Es),(∀ p∈l,KidOK L sub ok tk p.2)->∀ (f:Nat) (s:RS) (acc:Es) (rest:List TW),(tailW tk l).length<f->Pos L s (tailW tk l++(4,[125])::rest) ->
  loopM sub L [125] f s acc=(acc++l,advM s ((tailW tk l).length+1))/\loopOK sub ok L f s
 |[],_,0,s,acc,rest,hf,_=>by omega
 |[],_,f+1,s,acc,rest,hf,h=>by
  have h:Pos L s ((4,[125])::rest):=h;have hi:isM 4 L s [44]=false:=by rw[h.is]; rfl
  refine⟨?_,?_⟩
  ·unfold loopM;rw[if_neg (by rw[hi]; decide),h.must,List.append_nil]; rfl
  ·unfold loopOK;intro e;rw[hi] at e; cases e
 |q::l,K,0,s,acc,rest,hf,_=>by omega
 |q::l,K,f+1,s,acc,rest,hf,h=>by
  have h':Pos L s ((4,[44])::(1,q.1)::(4,[58])::(tk q.2++(tailW tk l++(4,[125])::rest))):=by
   have:=h;simp only[tailW,List.cons_append,List.append_assoc] at this;exact this
  obtain⟨hi,ht⟩:=h'.take;obtain⟨h1,h2,h3⟩:=qJM (K q (List.mem_cons_self ..)) h'.next;have hlen:(tailW tk (q::l)).length=3+(tk q.2).length+(tailW tk l).length:=by simp[tailW]; omega
  obtain⟨h4,h5⟩:=qKY l (λp hp=>K p (List.mem_cons_of_mem _ hp)) f _ (acc++[q]) rest (by omega) h3;refine⟨?_,?_⟩
  ·unfold loopM;rw[if_pos hi,h1];show loopM sub L [125] f (advM (nextM s) (2+(tk q.2).length)) (acc++[q])=_;rw[h4,qAn,qAb,qAb,List.append_assoc,hlen]
   congr 2
   omega
  ·unfold loopOK;intro _;rw[h1];exact⟨h2,h5⟩
theorem qKk{L:List Tok}{s:RS}{a b:List TW}(h:Pos L s (a++b)):a.length<=L.length:=by
 have:=congrArg List.length h.2;rw[List.length_drop,List.length_map,List.length_append] at this;omega
theorem qMu{L:List Tok}{sub:RS->TT×RS}{ok:RS->Prop}{tk:TT->List TW}(l:Es)(K:∀ p∈l,KidOK L sub ok tk p.2){s:RS}{rest:List TW}(h:Pos L s (fldW tk l++(4,[125])::rest)) :
  rowM sub L [125] s=(l,advM s ((fldW tk l).length+1))/\rowOK sub ok L [125] s:=by
 cases l with
 |nil =>
  have h:Pos L s ((4,[125])::rest):=h;refine⟨?_,λe=>by rw[h.take.1] at e; cases e⟩;unfold rowM;rw[if_pos h.take.1]; rfl
 |cons p l =>
  rw[qHa] at h ⊢;have h':Pos L s ((1,p.1)::(4,[58])::(tk p.2++(tailW tk l++(4,[125])::rest))):=by
   have:=h;simp only[List.cons_append,List.append_assoc] at this;exact this
  have hi:isM 4 L s [125]=false:=by rw[h'.is]; rfl
  obtain⟨h1,h2,h3⟩:=qJM (K p (List.mem_cons_self ..)) h';have hle:=qKk h3;obtain⟨h4,h5⟩:=qKY l (λq hq=>K q (List.mem_cons_of_mem _ hq)) (L.length+2) _ [p] rest (by omega) h3;refine⟨?_,λ_=>⟨h2,?_⟩⟩
  ·unfold rowM;rw[if_neg (by rw[hi]; decide),h1];show loopM sub L [125] (L.length+2) (advM s (2+(tk p.2).length)) [p]=_;rw[h4,qAb]
   congr 2
   simp; omega
  ·rw[h1]; exact h5
def adjS(l:Es)(a b:Nat):Prop:=∀ p q,l[a]?=some p->l[b]?=some q->bless q.1 p.1=false
theorem qCz(l:Es)(h:l.length<=1000):Ord ltE (sortedM l):=(qC4 l h).1
theorem qEt:∀ {l:Es},strictS l->l.Pairwise λp q=>ltE p q=true
 |[],_=>List.Pairwise.nil
 |[a],_=>List.pairwise_singleton _ _
 |a::b::l,h=>by
  have ih:=qEt (l:=b::l) (λi p q hp hq=>h (i+1) p q hp hq);have ab:ltE a b=true:=h 0 a b rfl rfl;refine List.pairwise_cons.2 ⟨λx hx => ?_,ih⟩
  rcases List.mem_cons.1 hx with rfl|hx
  ·exact ab
  ·have bx:=(List.pairwise_cons.1 ih).1 x hx;cases hc:ltE a x
   ·have:=qAe b x a (qBQ _ _ bx) hc;rw[ab] at this; cases this
   ·rfl
theorem qI1:∀ (l Z:Es),(l.Pairwise λp q=>ltE p q=true)->Ord ltE Z->Z.Perm l->Z=l
 |[],Z,_,_,p=>List.perm_nil.1 p
 |a::l,[],_,_,p=>by have:=p.length_eq; simp at this
 |a::l,z::Z,s,o,p=>by
  have s':=List.pairwise_cons.1 s;have o':=List.pairwise_cons.1 o;have e:z=a:=by
   rcases List.mem_cons.1 (p.mem_iff.1 (List.mem_cons_self)) with e|hz
   ·exact e
   ·rcases List.mem_cons.1 (p.mem_iff.2 (List.mem_cons_self (a:=a) (l:=l))) with e|ha
    ·exact e.symm
    ·have h1:=s'.1 z hz;have h2:=o'.1 a ha;rw[h1] at h2; cases h2
  subst e;rw[qI1 l Z s'.2 o'.2 (List.Perm.cons_inv p)]
theorem qJw{l:Es}(hl:l.length<=1000)(h:strictS l):sortedM l=l:=qI1 l _ (qEt h) (qCz l hl) (qBX l)
theorem qOW{l:Es}(h:strictS l)(i:Nat):adjM l i=false:=by
 cases i with
 |zero=>rfl
 |succ j =>
  show(match l[j]?,l[j+1]? with|some q,some p=>decide (q.1=p.1)|_,_=>false)=false;split
  ·rename_i q p hq hp;rw[decide_eq_false];intro e;have:=h j q p hq hp;rw[e,qCp] at this;cases this
  ·rfl
theorem qHK{l:Es}(h:strictS l)(b:Bool):∀ n,twM l b n=b
 |0=>rfl
 |n+1=>by
  show(twM l b n||adjM l n)=b;rw[qOW h,Bool.or_false]; exact qHK h b n
theorem qMk{L:List Tok}{sub:RS->TT×RS}{ok:RS->Prop}{tk:TT->List TW}(k:Int)(l:Es)(hl:l.length<=1000)(hs:strictS l)(K:∀ p∈l,KidOK L sub ok tk p.2){s:RS}{rest:List TW}(h:Pos L s ((4,[123])::(fldW tk l++[(4,[125])]++rest))) :
  recdM sub L k s=(recT k l,advM s ((fldW tk l).length+2))/\recOK sub ok L s:=by
 have ho:opnM L s=advM s 1:=h.must;have h2:Pos L (advM s 1) (fldW tk l++(4,[125])::rest):=by
  have:=h.next
  simpa [qAn] using this
 obtain⟨h3,h4⟩:=qMu l K h2;refine⟨?_,?_⟩
 ·unfold recdM;rw[ho,h3];have hsr:sortedM l=l:=qJw hl hs;show(recT k (sortedM l),_)=_;rw[hsr,qHK hs,qAb]
  congr 1
  show advM s (1+((fldW tk l).length+1))=_;rw[show 1+((fldW tk l).length+1)=(fldW tk l).length+2 by omega]
 ·unfold recOK;rw[ho];exact⟨h4,by rw[h3]; exact hl⟩
theorem qDl{L:List Tok}{s:RS}{k:Int}{x:List UInt8}{w:List TW}(h:Pos L s ((k,x)::w))(hb:k=1\/(k=4/\x=[123])){d:Int}(hd:d<=12):hedM d L s=s:=by
 have hbeg:begM (peekM L s)=true:=by
  unfold begM;rw[h.peek.1,h.peek.2]
  rcases hb with rfl|⟨rfl,rfl⟩ <;> rfl
 unfold hedM;rw[hbeg,Bool.true_and,if_neg (by rw[decide_eq_true_eq]; omega)];rfl
theorem qTP{w:List UInt8}(h:w∉keyL):w≠wordM 1/\w≠wordM 2/\w≠wordM 3/\w≠wordM 4/\w≠wordM 5/\w≠wordM 6/\w≠wordM 8:=by
 unfold keyL at h;simp only[List.mem_cons,List.not_mem_nil,or_false,not_or] at h;exact⟨h.1,h.2.1,h.2.2.1,h.2.2.2.1,h.2.2.2.2.1,h.2.2.2.2.2.1,h.2.2.2.2.2.2⟩
theorem qG9(L:List Tok):∀ (n:Nat) (t:TT),WF n t->∀ (m:Nat),n<=m->∀ (d:Int),d+n<=13->KidOK L (oneF L m d) (okF L m d) (tokN n) t
 |0,t,h,_,_,_,_=>h.elim
 |n+1,t,h,0,hm,_,_=>by omega
 |n+1,t,h,m+1,hm,d,hd=>by
  have ih:=λx hx=>qG9 L n x hx m (by omega) (d+1) (by omega)
  have hd12:d<=12:=by omega
  intro s rest P;show oneP (oneF L m (d+1)) d L s=_/\oneOK (oneF L m (d+1)) (okF L m (d+1)) d L s
  rcases h with ⟨k,hk,rfl⟩|⟨w,hw,hne,rfl⟩|⟨k,x,hk,hx,rfl⟩|⟨k,l,hk,hl,hp,hs,rfl⟩
  ·have e2:tokN (n+1) (leafT k)=[(1,wordM k)]:=by
    rw[qCm];show(if k=9 then _ else if k=7 then _ else if k=8 then _ else _)=_;rw[if_neg (by omega),if_neg (by omega),if_neg (by omega)]; rfl
   rw[e2] at P ⊢;have P:Pos L s ((1,wordM k)::rest):=P;have hh:=qDl P (.inl rfl) hd12;have kw:∀ a:Int,(a=4\/a=5\/a=6\/a=8)->wordM k≠wordM a:=λa ha=>by
    rcases hk with rfl|rfl|rfl <;> rcases ha with rfl|rfl|rfl|rfl <;> decide
   refine⟨?_,?_⟩
   ·unfold oneP;rw[hh,if_neg (λh=>h P.1),P.peek.1,P.peek.2,if_neg (by decide)];unfold wrdT
    rcases hk with rfl|rfl|rfl
    ·rw[if_pos rfl]; rfl
    ·rw[if_neg (by decide),if_pos rfl]; rfl
    ·rw[if_neg (by decide),if_neg (by decide),if_pos rfl]; rfl
   ·intro _;rw[P.peek.1,P.peek.2];refine⟨λe=>(by cases e),λ_=>⟨λe=>absurd e (kw 8 (by omega)),λe => ?_⟩⟩
    rcases e with e|e|e
    ·exact absurd e (kw 4 (by omega))
    ·exact absurd e (kw 5 (by omega))
    ·exact absurd e (kw 6 (by omega))
  ·have P:Pos L s ((1,w)::rest):=P;have hh:=qDl P (.inl rfl) hd12;obtain⟨k1,k2,k3,k4,k5,k6,k8⟩:=qTP hne;refine⟨?_,?_⟩
   ·unfold oneP;rw[hh,if_neg (λh=>h P.1),P.peek.1,P.peek.2,if_neg (by decide)];unfold wrdT;rw[if_neg k1,if_neg k2,if_neg k3,if_neg k8,if_neg k4,if_neg k5,if_neg k6];rfl
   ·intro _;rw[P.peek.1,P.peek.2];refine⟨λe=>(by cases e),λ_=>⟨λe=>absurd e k8,λe => ?_⟩⟩
    rcases e with e|e|e
    ·exact absurd e k4
    ·exact absurd e k5
    ·exact absurd e k6
  ·have e2:tokN (n+1) (.mk k [] .nil (.mk true [x]))=(1,wordM k)::(4,[60])::(tokN n x++[(4,[62])]):=by
    rw[qCm];show(if k=9 then _ else if k=7 then _ else if k=8 then _ else _)=_;rw[if_neg (by omega),if_neg (by omega),if_neg (by omega)]; rfl
   rw[e2] at P ⊢;have P:Pos L s ((1,wordM k)::(4,[60])::(tokN n x++(4,[62])::rest)):=by simpa using P
   have hh:=qDl P (.inl rfl) hd12;have P1:=P.next;have ha:angM L (nextM s)=nextM (nextM s):=P1.must;have P2:=P1.next;obtain⟨h1,h2⟩:=ih x hx _ _ P2;have P3:=P2.adv;have he:engM L (advM (nextM (nextM s)) (tokN n x).length)=nextM (advM (nextM (nextM s)) (tokN n x).length):=P3.must;have kw:∀ a:Int,(a=1\/a=2\/a=3\/a=8)->wordM k≠wordM a:=λa ha=>by
    rcases hk with rfl|rfl|rfl <;> rcases ha with rfl|rfl|rfl|rfl <;> decide
   refine⟨?_,?_⟩
   ·unfold oneP;rw[hh,if_neg (λh=>h P.1),P.peek.1,P.peek.2,if_neg (by decide)];unfold wrdT;rw[if_neg (kw 1 (by omega)),if_neg (kw 2 (by omega)),if_neg (kw 3 (by omega)),if_neg (kw 8 (by omega))];have fin:ofM (oneF L m (d+1)) L k (nextM s)=(.mk k [] .nil (.mk true [x]),advM s ((1,wordM k)::(4,[60])::(tokN n x++[((4:Int),([62]:List UInt8))])).length):=by
     unfold ofM;rw[ha,h1];show(_,engM L (advM (nextM (nextM s)) (tokN n x).length))=_;rw[he,qAn,qAn,qAn,qAb,qAb,qAb]
     congr 2
     simp; omega
    rcases hk with rfl|rfl|rfl
    ·rw[if_pos rfl]; exact fin
    ·rw[if_neg (by decide),if_pos rfl]; exact fin
    ·rw[if_neg (by decide),if_neg (by decide),if_pos rfl]; exact fin
   ·intro _;rw[P.peek.1,P.peek.2,hh];refine⟨λe=>(by cases e),λ_=>⟨λe=>absurd e (kw 8 (by omega)),λ_ => ?_⟩⟩;rw[ha]; exact h2
  ·have K:∀ p∈l,KidOK L (oneF L m (d+1)) (okF L m (d+1)) (tokN n) p.2:=λp hpl=>ih p.2 (hp p hpl).2
   rcases hk with rfl|rfl
   ·have e2:tokN (n+1) (recT 7 l)=(4,[123])::(fldW (tokN n) l++[(4,[125])]):=by
     rw[qCm,qKX]; rfl
    rw[e2] at P ⊢;have hh:=qDl P (.inr ⟨rfl,rfl⟩) hd12;obtain⟨h1,h2⟩:=qMk 7 l hl hs K P;refine⟨?_,?_⟩
    ·unfold oneP;rw[hh,if_neg (λh=>h P.1),P.peek.1,if_pos rfl,h1]
     congr 2
     simp
    ·intro _;rw[P.peek.1,hh];exact⟨λ_=>h2,λe=>absurd rfl e⟩
   ·have e2:tokN (n+1) (recT 8 l)=(1,wordM 8)::(4,[123])::(fldW (tokN n) l++[(4,[125])]):=by
     rw[qCm,qKX]; rfl
    rw[e2] at P ⊢;have hh:=qDl P (.inl rfl) hd12;have P1:=P.next;obtain⟨h1,h2⟩:=qMk 8 l hl hs K P1;refine⟨?_,?_⟩
    ·unfold oneP;rw[hh,if_neg (λh=>h P.1),P.peek.1,P.peek.2,if_neg (by decide)];unfold wrdT;rw[if_neg (by decide),if_neg (by decide),if_neg (by decide),if_pos rfl,h1,qAn,qAb]
     congr 2
     simp; omega
    ·intro _;rw[P.peek.1,P.peek.2,hh];refine⟨λe=>(by cases e),λ_=>⟨λ_=>h2,λe => ?_⟩⟩
     rcases e with e|e|e <;> exact absurd e (by decide)
theorem qHe:∀ (n:Nat) (l:Es) (b:Bool),twM l b n=false->b=false/\∀ i,i<n->adjM l i=false
 |0,l,b,h=>⟨h,λi hi=>by omega⟩
 |n+1,l,b,h=>by
  have h:(twM l b n||adjM l n)=false:=h;rw[Bool.or_eq_false_iff] at h;obtain⟨h1,h2⟩:=qHe n l b h.1;refine⟨h1,λi hi => ?_⟩;by_cases e:i=n
  ·rw[e]; exact h.2
  ·exact h2 i (by omega)
theorem qN5{l:Es}(h:∀ i,i<l.length->adjM l i=false)(ho:∀ j,j+1<l.length->adjS l j (j+1)):strictS l:=by
 intro i p q hp hq;have hl:i+1<l.length:=(List.getElem?_eq_some_iff.1 hq).1;have h1:=ho i hl p q hp hq;have h2:=h (i+1) hl;have h3:(match l[i]?,l[i+1]? with|some q,some p=>decide (q.1=p.1)|_,_=>false)=false:=h2;rw[hp,hq] at h3;have hne:p.1≠q.1:=of_decide_eq_false h3;cases hb:bless p.1 q.1 with
 |true=>rfl
 |false=>exact absurd (qDS _ _ hb h1) hne
def wt1(t:Tok):Nat:=if t.kind=1\/(t.kind=4/\(t.text=[44]\/t.text=[58])) then 1 else 0
def wsum(L:List Tok):Nat:=(L.map wt1).sum
theorem qEW(L:List Tok)(i:Nat)(t:Tok)(h:L[i]?=some t):wsum (L.drop i)=wt1 t+wsum (L.drop (i+1)):=by
 obtain⟨h1,h2⟩:=List.getElem?_eq_some_iff.1 h;unfold wsum;rw[List.drop_eq_getElem_cons h1,h2];simp
theorem qKZ(L:List Tok):∀ (k i:Nat),wsum (L.drop (i+k))<=wsum (L.drop i)
 |0,i=>Nat.le_refl _
 |k+1,i=>by
  have ih:=qKZ L k (i+1);rw[show i+1+k=i+(k+1) by omega] at ih;cases ht:L[i]? with
  |some t=>rw[qEW L i t ht]; omega
  |none =>
   have h1:L.length<=i:=List.getElem?_eq_none_iff.1 ht;rw[List.drop_eq_nil_of_le (by omega:L.length<=i+(k+1))];exact Nat.zero_le _
theorem qH5(L:List Tok){i j:Nat}(h:i<=j):wsum (L.drop j)<=wsum (L.drop i):=by
 have:=qKZ L (j - i) i
 rwa [show i+(j - i)=j by omega] at this
theorem qQg{k:Int}{L:List Tok}{s:RS}{x:List UInt8}(hk:k≠0)(h:isM k L s x=true)(hw:∀ t:Tok,t.kind=k->t.text=x->wt1 t=1):wsum (L.drop s.p)=1+wsum (L.drop (s.p+1)):=by
 obtain⟨h1,h2⟩:=qBC hk h;have ht:L[s.p]?=some L[s.p]:=List.getElem?_eq_getElem h2;unfold isM peekM at h;rw[if_pos h1,ht,Option.getD_some,Bool.and_eq_true,decide_eq_true_eq,decide_eq_true_eq] at h;rw[qEW L _ _ ht,hw _ h.1 h.2]
theorem qSf{L:List Tok}{s:RS}(h:(colM L s).e=0):wsum (L.drop (colM L s).p)+2<=wsum (L.drop s.p):=by
 obtain⟨h1,h2⟩:=qHO h;have hc:colM L s=nextM (nmS1 L s):=by
  unfold colM takeM;rw[h1]; rfl
 have h3:(nmS1 L s).e=0:=by
  have:(takeM 4 L (nmS1 L s) [58]).e=0:=h2;unfold takeM at this;rw[h1] at this;exact this
 obtain⟨h4,h5⟩:=qHO (show(mustM s (decide ((peekM L s).kind=1))).e=0 from h3);have hk:=of_decide_eq_true h4;obtain⟨h6,h7⟩:=qCo (L:=L) (s:=s) (by rw[hk]; decide);have ht:L[s.p]?=some L[s.p]:=List.getElem?_eq_getElem h7;unfold peekM at hk;rw[if_pos h6,ht,Option.getD_some] at hk;have w1:=qEW L _ _ ht;have:wt1 L[s.p]=1:=by unfold wt1; rw[if_pos (.inl hk)]
 have w2:=qQg (by decide) h1 (λt a b=>by unfold wt1; rw[if_pos (.inr ⟨a,.inr b⟩)]);rw[qB6] at w2;have hp:(colM L s).p=s.p+2:=by rw[hc]; show(nmS1 L s).p+1=_; rw[qB6]
 rw[hp];show wsum (L.drop (s.p+1+1))+2<=_;omega
def Eb(sub:RS->TT×RS):Prop:=∀ s,(sub s).2.e=0->s.e=0
theorem qSp(sub:RS->TT×RS)(d:Int)(L:List Tok):Eb (oneP sub d L):=by
 intro s h;by_cases he:(hedM d L s).e=0
 ·exact(qGq he).2.2.1
 ·unfold oneP at h;rw[if_pos he] at h;exact absurd h he
theorem qKi(L:List Tok):∀ (m:Nat) (d:Int),Eb (oneF L m d)
 |0,d=>λs h=>h
 |m+1,d=>qSp _ d L
def phi(L:List Tok)(s:RS):Nat:=if s.e=0 then wsum (L.drop s.p)+2 else 0
theorem qJO{L:List Tok}{sub:RS->TT×RS}(inv:Inv L sub)(eb:Eb sub)(x:List UInt8):∀ (f:Nat) (s:RS) (acc:Es),I1 L s->(loopM sub L x f s acc).1.length*3<=acc.length*3+phi L s
 |0,s,acc,h=>by show acc.length*3<=_; omega
 |f+1,s,acc,h=>by
  unfold loopM;by_cases hi:isM 4 L s [44]=true
  ·rw[if_pos hi];obtain⟨h1,h2⟩:=qBC (by decide) hi;have hn:(nextM s).p<=L.length:=h2;obtain⟨h3,h4⟩:=qCN inv hn;have ih:=qJO inv eb x f _ (acc++[(fieldM sub L (nextM s)).1]) h3;have w:=qQg (by decide) hi (λt a b=>by unfold wt1; rw[if_pos (.inr ⟨a,.inl b⟩)]);have hphi:phi L s=wsum (L.drop s.p)+2:=by unfold phi; rw[if_pos h1]
   have hacc:(acc++[(fieldM sub L (nextM s)).1]).length=acc.length+1:=by simp
   rw[hacc] at ih;have:phi L (fieldM sub L (nextM s)).2+3<=phi L s:=by
    unfold phi;rw[if_pos h1];by_cases he:(fieldM sub L (nextM s)).2.e=0
    ·rw[if_pos he];have hc:(colM L (nextM s)).e=0:=eb _ he;have w2:=qSf hc;obtain⟨hi1,_⟩:=qGS hn;have hm:=(inv _ hi1).2;have w3:=qH5 L (show(colM L (nextM s)).p<=(fieldM sub L (nextM s)).2.p from hm);have:(nextM s).p=s.p+1:=rfl;rw[this] at w2;omega
    ·rw[if_neg he]; omega
   omega
  ·rw[if_neg hi];show acc.length*3<=_;omega
theorem row_len{L:List Tok}{sub:RS->TT×RS}(inv:Inv L sub)(eb:Eb sub)(x:List UInt8){s:RS}(h:s.p<=L.length)(hw:wsum L<=2000):(rowM sub L x s).1.length<=1000:=by
 unfold rowM;split
 ·show 0<=1000; decide
 ·obtain⟨h3,h4⟩:=qCN inv h;have:=qJO inv eb x (L.length+2) _ [(fieldM sub L s).1] h3;have hp:phi L (fieldM sub L s).2<=2002:=by
   unfold phi;split
   ·have:=qH5 L (Nat.zero_le (fieldM sub L s).2.p);rw[List.drop_zero] at this;omega
   ·omega
  have:[(fieldM sub L s).1].length=1:=rfl;omega
theorem qIr{L:List Tok}{sub:RS->TT×RS}{ok:RS->Prop}(inv:Inv L sub)(ho:∀ s,I1 L s->ok s):∀ (f:Nat) (s:RS),I1 L s->loopOK sub ok L f s
 |0,_,_=>trivial
 |f+1,s,h=>by
  intro hi;have hn:(nextM s).p<=L.length:=(qBC (by decide) hi).2;exact⟨ho _ (qGS hn).1,qIr inv ho f _ (qCN inv hn).1⟩
theorem qKM{L:List Tok}{sub:RS->TT×RS}{ok:RS->Prop}(hw:wsum L<=2000)(inv:Inv L sub)(eb:Eb sub)(ho:∀ s,I1 L s->ok s){s:RS}(h:s.p<=L.length):recOK sub ok L s :=
 ⟨λ_=>⟨ho _ (qGS (qGw h)).1,qIr inv ho _ _ (qCN inv (qGw h)).1⟩,row_len inv eb [125] (qGw h) hw⟩
theorem qKe{L:List Tok}{sub:RS->TT×RS}{ok:RS->Prop}(hw:wsum L<=2000)(inv:Inv L sub)(eb:Eb sub)(d:Int)(ho:d<=12->∀ s,I1 L s->ok s){s:RS}(h:I1 L s):oneOK sub ok d L s:=by
 intro he;obtain⟨h1,h2,h3,h4⟩:=qGq he;rw[h1];have hp:=h.1 h3;refine⟨λ_=>qKM hw inv eb (ho h4) hp,λhk => ?_⟩;have hk1:(peekM L s).kind=1:=by
  unfold begM at h2;rw[decide_eq_false hk,Bool.false_and,Bool.or_false,decide_eq_true_eq] at h2;exact h2
 have hl:=(qCo (L:=L) (s:=s) (by rw[hk1]; decide)).2;have hn:(nextM s).p<=L.length:=hl;exact⟨λ_=>qKM hw inv eb (ho h4) hn,λ_=>ho h4 _ (qAg [60] ⟨λ_=>hn,by omega⟩).1⟩
theorem qG5{L:List Tok}(hw:wsum L<=2000):∀ (m:Nat) (d:Int),d+m=14->0<m->∀ s,I1 L s->okF L m d s
 |0,_,_,h,_,_=>by omega
 |1,d,hd,_,s,I=>qKe hw (qDF L 0 (d+1)) (qKi L 0 (d+1)) d (λh=>by omega) I
 |m+2,d,hd,_,s,I=>qKe hw (qDF L (m+1) (d+1)) (qKi L (m+1) (d+1)) d (λ_ s I=>qG5 hw (m+1) (d+1) (by omega) (by omega) s I) I
theorem qLY{src:List UInt8}(h:wsum (wordsM src).1<=2000):typeOK src:=qG5 h 13 1 (by decide) (by decide) _ ⟨λ_=>Nat.zero_le _,Nat.zero_le _⟩
theorem qFz:∀ L:List Tok,wsum L<=L.length
 |[]=>Nat.le_refl _
 |t::L=>by
  have:=qFz L;have h1:wt1 t<=1:=by unfold wt1; split <;> omega
  show wt1 t+wsum L<=L.length+1;omega
theorem qGD(src:List UInt8):typeOK src:=qLY (by have:=qFz (wordsM src).1; have:=qE0 src; omega)
theorem qRo{L:List Tok}(hL:L.length<=1000):SubOK 0 L (oneF L 13 1) (I1 L) :=
 ⟨λs I _=>qHD hL 13 1 (by decide) (by decide) s I (qG5 (by have:=qFz L; omega) 13 1 (by decide) (by decide) s I),qDF L 13 1⟩
theorem qHg{L:List Tok}{sub:RS->TT×RS}(inv:Inv L sub):∀ (f:Nat) (s:RS),I1 L s->loopPOK sub (I1 L) L f s
 |0,_,_=>trivial
 |f+1,s,I=>λhi=>by
  have hn:(nextM s).p<=L.length:=(qBC (by decide) hi).2;have I':I1 L (nextM s):=⟨λ_=>hn,by omega⟩;exact⟨I',qHg inv f _ (inv _ I').1⟩
theorem qQi{L:List Tok}{s:RS}(h:s.p<L.length):(fnS L s).p<=L.length/\s.p<=(fnS L s).p:=by
 unfold fnS;rw[qBS];unfold takeM;split
 ·exact⟨by show s.p+1<=_; omega,by show s.p<=s.p+1; omega⟩
 ·exact⟨by omega,Nat.le_refl _⟩
theorem qOX{L:List Tok}{sub:RS->TT×RS}(inv:Inv L sub){s:RS}(h:s.p<=L.length):sgOK sub (I1 L) L s/\I1 L (sgM sub L s).2:=by
 obtain⟨I1',q1⟩:=qDr [40] h;obtain⟨I2,q2⟩:=qIv inv [41] I1';obtain⟨I3,q3⟩:=qAg [45,62] I2;obtain⟨I4,q4⟩:=inv _ I3;exact⟨⟨λ_=>⟨I1',qHg inv _ _ (inv _ I1').1⟩,I3⟩,I4⟩
theorem qHF{L:List Tok}{sub:RS->TT×RS}(inv:Inv L sub):∀ (f:Nat) (s:RS),I1 L s->parOK sub (I1 L) L f s
 |0,_,_=>trivial
 |f+1,s,I=>λhe hp=>by
  have hn1:(nextM s).p<=L.length:=by show s.p+1<=_; omega
  refine⟨λhk=>⟨(qDr [61] hn1).1,qHF inv f _ (qAg [59] (inv _ (qDr [61] hn1).1).1).1⟩,λhk => ?_⟩;obtain⟨a,b⟩:=qOX inv (qQi hp).1;exact⟨a,qHF inv f _ (qAg [59] b).1⟩
theorem qHE{L:List Tok}{sub:RS->TT×RS}(inv:Inv L sub):∀ (f:Nat) (s:RS) (ns:Es) (gs:Gs),I1 L s->I1 L (parM sub L f s ns gs).2/\(parM sub L f s ns gs).1.1.length+(parM sub L f s ns gs).1.2.length<=ns.length+gs.length+f
 |0,s,ns,gs,I=>⟨I,Nat.le_refl _⟩
 |f+1,s,ns,gs,I=>by
  unfold parM;split
  ·rename_i h;obtain⟨he,hp⟩:=h;have hn1:(nextM s).p<=L.length:=by show s.p+1<=_; omega
   split
   ·obtain⟨a,b⟩:=qHE inv f _ (ns++[((peekM L (nextM s)).text,(sub (sepM [61] L (nextM s))).1)]) gs (qAg [59] (inv _ (qDr [61] hn1).1).1).1;refine⟨a,Nat.le_trans b ?_⟩;rw[List.length_append,List.length_singleton]; omega
   ·obtain⟨a,b⟩:=qHE inv f _ ns (gs++[(sgM sub L (fnS L s)).1]) (qAg [59] (qOX inv (qQi hp).1).2).1;refine⟨a,Nat.le_trans b ?_⟩;rw[List.length_append,List.length_singleton]; omega
  ·exact⟨I,by show ns.length+gs.length<=_; omega⟩
noncomputable def parT(src:List UInt8):TT×RS:=oneF (wordsM src).1 13 1 (dtM (wordsM src).1 (s0M src))
noncomputable def parG(src:List UInt8):(Es×Gs)×RS:=parM (oneF (wordsM src).1 13 1) (wordsM src).1 ((wordsM src).1.length+2) (semM (wordsM src).1 (parT src).2) [] []
noncomputable def parR(src:List UInt8):(TT×Es×Gs)×RS :=
 (((parT src).1,sortedMN (parG src).1.1,sortedMG (parG src).1.2),{ (parG src).2 with tw:=twG (sortedMG (parG src).1.2) (twM (sortedMN (parG src).1.1) (parG src).2.tw (sortedMN (parG src).1.1).length) (sortedMG (parG src).1.2).length })
noncomputable def parE(src:List UInt8):Int:=errM (endM (wordsM src).1 (parR src).2)
noncomputable def parS(src:List UInt8):SC:=if parE src=0 then ⟨(parR src).1.1,slF (parR src).1.2.1,slF (parR src).1.2.2⟩ else SC.zero
theorem s0_I(src:List UInt8):I1 (wordsM src).1 (s0M src):=⟨λ_=>Nat.zero_le _,Nat.zero_le _⟩
theorem dt_I{L:List Tok}{s:RS}(I:I1 L s):I1 L (dtM L s):=qEa _ (qEj (by decide) I).1
theorem qRc(src:List UInt8):Om 22 [kS src] []=some (.tup [.agg (pcells (parS src).row),.c (.p (.int .i64 (parE src)))],[]):=by
 have hL:=qE0 src;refine(qAD rfl).trans ?_;show lim tab.get S 22 0 0 [kS src] h0=_;have ok:=qRo (L:=(wordsM src).1) (by omega);have Id:=dt_I (s0_I src);have e34:=ok.one _ Id Id;obtain⟨Im,_⟩:=ok.inv _ Id;obtain⟨h1,A1,e1⟩:=qNn src e34 (by have:=Im.2; omega);have Is:I1 (wordsM src).1 (semM (wordsM src).1 (oneF (wordsM src).1 13 1 (dtM (wordsM src).1 (s0M src))).2):=(qAg [59] Im).1;obtain⟨h2,T,G,A2,e2⟩:=qF4 ok (by omega) ((wordsM src).1.length+2) _ [] [] _ _ h1 Is (qHF ok.inv _ _ Is) (by omega) (by show 0+0+_<=_; omega) A1;obtain⟨Ir,lr⟩:=qHE ok.inv ((wordsM src).1.length+2) _ [] [] Is;change Ps h2 (wordsM src).1 (parG src).2 (parT src).1 (parG src).1.1 (parG src).1.2 T G at A2;change I1 (wordsM src).1 (parG src).2 at Ir;change (parG src).1.1.length+(parG src).1.2.length<=0+0+((wordsM src).1.length+2) at lr;have hE:parE src=errM (endM (wordsM src).1 (parR src).2):=rfl;have hS:parS src=if parE src=0 then ⟨(parR src).1.1,slF (parR src).1.2.1,slF (parR src).1.2.2⟩ else SC.zero:=rfl
 have hR:parR src=(((parT src).1,sortedMN (parG src).1.1,sortedMG (parG src).1.2),{ (parG src).2 with tw:=twG (sortedMG (parG src).1.2) (twM (sortedMN (parG src).1.1) (parG src).2.tw (sortedMN (parG src).1.1).length) (sortedMG (parG src).1.2).length }):=rfl;generalize parR src=R at *;generalize parG src=r at *;generalize parT src=t at *;obtain⟨h3,A3,e3⟩:=qOv (by omega) (by omega) A2;have lN:(sortedMN r.1.1).length<=1000:=by rw[qDX]; omega
 have lG:(sortedMG r.1.2).length<=1000:=by rw[qDW]; omega
 obtain⟨h4,A4,e4⟩:=qKu (L:=(wordsM src).1) (s:=r.2) lN (sortedMN r.1.1).length 0 h3 (by omega) A3;have e5:=qO1 A4;obtain⟨h6,A6,e6⟩:=qKT (L:=(wordsM src).1) (s:={ r.2 with tw:=twM (sortedMN r.1.1) r.2.tw (sortedMN r.1.1).length }) lG (sortedMG r.1.2).length 0 h4 (by omega) A4;have e7:=qOx (by have:=Ir.2; show r.2.p<=_; omega) (by omega) A6;refine(e1.trans (e2.trans (e3.trans (e4.trans (e5.trans (e6.trans e7)))))).trans ?_;subst hR;rw[hS,hE];split
 ·rename_i h; rw[h]
 ·rfl
theorem qNs{src:List UInt8}{ws:List TW}(R:Rd src ws []):((wordsM src).2=4/\(wordsM src).1=[]/\1500<src.length)\/((wordsM src).2=3/\(wordsM src).1=[]/\400<ws.length)\/((wordsM src).2=0/\(wordsM src).1.map tw=ws):=by
 obtain⟨h1,h2⟩:=R;obtain⟨l,i',e1,e2⟩:=h2 (src.length+1 - ws.length) 0 [];rw[show src.length+1 - ws.length+ws.length=src.length+1 by simp at h1; omega,qOt,List.nil_append] at e2;have hll:l.length=ws.length:=by rw[<- e1,List.length_map]
 unfold wordsM tokensM;split
 ·rename_i e he;split at he
  ·rename_i hs; cases he; exact .inl ⟨rfl,rfl,hs⟩
  ·rw[e2] at he;unfold toksFin at he;split at he
   ·rename_i he2; cases he2
   ·rename_i l' hl';cases hl';split at he
    ·rename_i hs; cases he; exact .inr (.inl ⟨rfl,rfl,by omega⟩)
    ·cases he
 ·rename_i l' he;split at he
  ·cases he
  ·rw[e2] at he;unfold toksFin at he;split at he
   ·cases he
   ·rename_i l2 hl2;cases hl2;split at he
    ·cases he
    ·cases he; exact .inr (.inr ⟨rfl,e1⟩)
theorem qPP(r:List UInt8)(f i:Nat)(acc:List Tok):toksGo (f+1) (45::62::r) i acc=toksGo f r (i+2) (acc++[⟨4,[45,62],0,(i:Int)⟩]):=by
 have ho:oneM (45::62::r)=⟨⟨4,[45,62],0,0⟩,2,0⟩:=by
  have hn:numHead (45::62::r)=false:=rfl;show(if isLetter (45:UInt8).toNat=true then wrdM (45::62::r) else if numHead (45::62::r)=true then numberM (45::62::r) else if (45:UInt8).toNat=34 then textM (45::62::r) else signM (45::62::r))=_;rw[hn,if_neg (by decide),if_neg (by decide),if_neg (by decide)];unfold signM;rw[if_pos (show((45:UInt8)::62::r).take 2=two1 from rfl)];rfl
 have hk:runLen isBlank (45::62::r)=0:=rfl;rw[toksGo];simp only[hk,List.drop_zero];simp only[ho,Nat.add_zero,if_true];rfl
theorem Rd.arr(r:List UInt8):Rd (45::62::r) [(4,[45,62])] r :=
 ⟨by simp; omega,λf i acc=>⟨[⟨4,[45,62],0,(i:Int)⟩],_,rfl,qPP r f i acc⟩⟩
theorem Pos.takek{L:List Tok}{s:RS}{k:Int}{x:List UInt8}{w:List TW}(h:Pos L s ((k,x)::w)):isM k L s x=true/\takeM k L s x=nextM s:=by
 have:isM k L s x=true:=by rw[h.is,decide_eq_true rfl,decide_eq_true rfl]; rfl
 exact⟨this,by unfold takeM; rw[if_pos this]⟩
theorem Pos.mustk{L:List Tok}{s:RS}{k:Int}{x:List UInt8}{w:List TW}(h:Pos L s ((k,x)::w)):mustM (takeM k L s x) (isM k L s x)=nextM s:=by
 rw[h.takek.1,h.takek.2]; rfl
theorem Pos.sep{L:List Tok}{s:RS}{nm y:List UInt8}{w:List TW}(h:Pos L s ((1,nm)::(4,y)::w)):sepM y L s=advM s 2/\(peekM L s).text=nm:=by
 obtain⟨h1,h2⟩:=h.peek;have h3:nmS1 L s=nextM s:=by unfold nmS1; rw[h1]; rfl
 refine⟨?_,h2⟩;unfold sepM;rw[h3,h.next.mustk,qAn,qAn,qAb]
theorem Pos.nil{L:List Tok}{s:RS}(h:Pos L s []):L.length<=s.p:=by
 have:=congrArg List.length h.2;rw[List.length_drop,List.length_map,List.length_nil] at this;omega
theorem qMd{n:Nat}{t:TT}(h:WF n t):∃ k x w,tokN n t=(k,x)::w/\(k=1\/(k=4/\x=[123])):=by
 cases n with
 |zero=>exact h.elim
 |succ n =>
  unfold tokN;split
  ·exact⟨_,_,_,rfl,.inl rfl⟩
  split
  ·exact⟨_,_,_,rfl,.inr ⟨rfl,rfl⟩⟩
  split
  ·exact⟨_,_,_,rfl,.inl rfl⟩
  split
  ·exact⟨_,_,_,rfl,.inl rfl⟩
  ·exact⟨_,_,_,rfl,.inl rfl⟩
abbrev KidA(L:List Tok)(t:TT):Prop:=KidOK L (oneF L 13 1) (okF L 13 1) (tokN 12) t
theorem qDd(L:List Tok){t:TT}(h:WF 12 t):KidA L t:=qG9 L 12 t h 13 (by decide) 1 (by decide)
def prmW:List TT->List TW
 |[]=>[]
 |[t]=>tokN 12 t
 |t::q::l=>tokN 12 t++(4,[44])::prmW (q::l)
def prmT:List TT->List TW
 |[]=>[]
 |t::l=>(4,[44])::(tokN 12 t++prmT l)
theorem qHx:∀ (t:TT) (l:List TT),prmW (t::l)=tokN 12 t++prmT l
 |t,[]=>by simp[prmW,prmT]
 |t,q::l=>by
  show tokN 12 t++(4,[44])::prmW (q::l)=_;rw[qHx q l]; rfl
theorem qIe{L:List Tok}:∀ (l:List TT),(∀ t∈l,WF 12 t)->∀ (f:Nat) (s:RS) (acc:List TT) (rest:List TW),l.length<f->Pos L s (prmT l++(4,[41])::rest) ->
  loopP (oneF L 13 1) L [41] f s acc=(acc++l,advM s ((prmT l).length+1))
 |[],_,0,s,acc,rest,hf,_=>by simp at hf
 |[],_,f+1,s,acc,rest,hf,h=>by
  have h:Pos L s ((4,[41])::rest):=h;unfold loopP;rw[if_neg (by rw[h.is]; decide),h.must,List.append_nil]; rfl
 |t::l,w,0,s,acc,rest,hf,_=>by simp at hf
 |t::l,w,f+1,s,acc,rest,hf,h=>by
  have h:Pos L s ((4,[44])::(tokN 12 t++(prmT l++(4,[41])::rest))):=by
   have:=h;simp only[prmT,List.cons_append,List.append_assoc] at this;exact this
  obtain⟨e,_⟩:=qDd L (w t (by simp)) (nextM s) _ h.next;have ih:=qIe l (λx hx=>w x (by simp[hx])) f (advM (nextM s) (tokN 12 t).length) (acc++[t]) rest (by simp at hf; omega) h.next.adv;unfold loopP;rw[if_pos (by rw[h.is]; rfl),e,ih,qAn,qAb,qAb,List.append_assoc]
  congr 2
  simp[prmT]; omega
theorem qRA{L:List Tok}{l:List TT}(w:∀ t∈l,WF 12 t){s:RS}{rest:List TW}(h:Pos L s (prmW l++(4,[41])::rest)) :
  rowP (oneF L 13 1) L [41] s=(l,advM s ((prmW l).length+1)):=by
 cases l with
 |nil =>
  have h:Pos L s ((4,[41])::rest):=h;unfold rowP;rw[if_pos (by rw[h.is]; rfl)]; rfl
 |cons t l =>
  rw[qHx] at h ⊢;obtain⟨k,x,q,hq,hk⟩:=qMd (w t (by simp));have hn:isM 4 L s [41]=false:=by
   have h2:=h;rw[hq] at h2;have h2:Pos L s ((k,x)::(q++prmT l++(4,[41])::rest)):=h2;rw[h2.is]
   rcases hk with rfl|⟨rfl,rfl⟩ <;> rfl
  have h3:Pos L s (tokN 12 t++(prmT l++(4,[41])::rest)):=by rw[<- List.append_assoc]; exact h
  obtain⟨e,_⟩:=qDd L (w t (by simp)) s _ h3;have hlen:l.length<L.length+2:=by
   have:=qKk h3.adv;have:∀ l:List TT,l.length<=(prmT l).length:=λl=>by
    induction l with
    |nil=>exact Nat.le_refl _
    |cons t l ih=>simp only[prmT,List.length_cons,List.length_append]; omega
   have:=this l;omega
  have ih:=qIe l (λx hx=>w x (by simp[hx])) (L.length+2) (advM s (tokN 12 t).length) [t] rest hlen h3.adv;unfold rowP;rw[if_neg (by rw[hn]; decide),e];show loopP (oneF L 13 1) L [41] (L.length+2) (advM s (tokN 12 t).length) [t]=_;rw[ih,qAb]
  congr 2
  rw[List.length_append]; omega
abbrev En:=(List UInt8×TT) ⊕ GS
def fnW:List UInt8:=[102,110]
def entW:En->List TW
 |.inl p=>(1,tyW)::(1,p.1)::(4,[61])::(tokN 12 p.2++[(4,[59])])
 |.inr g=>(1,fnW)::(1,g.nm)::(4,[40])::(prmW g.pr.list++(4,[41])::(4,[45,62])::(tokN 12 g.rs++[(4,[59])]))
def entOK:En->Prop
 |.inl p=>nameB p.1=true/\WF 12 p.2
 |.inr g=>nameB g.nm=true/\(∀ t∈g.pr.list,WF 12 t)/\WF 12 g.rs/\g.pr=grown g.pr.list
def tOf:En->Option (List UInt8×TT)
 |.inl p=>some p
 |.inr _=>none
def fOf:En->Option GS
 |.inl _=>none
 |.inr g=>some g
def Ts(E:List En):Es:=E.filterMap tOf
def Fs(E:List En):Gs:=E.filterMap fOf
theorem qTe{L:List Tok}{p:List UInt8×TT}(w:WF 12 p.2){s:RS}{rest:List TW}(h:Pos L s (entW (.inl p)++rest))(ns:Es)(gs:Gs)(f:Nat) :
  parM (oneF L 13 1) L (f+1) s ns gs=parM (oneF L 13 1) L f (advM s (entW (.inl p)).length) (ns++[p]) gs:=by
 have h:Pos L s ((1,tyW)::(1,p.1)::(4,[61])::(tokN 12 p.2++(4,[59])::rest)):=by
  have:=h;simp only[entW,List.cons_append,List.append_assoc,List.nil_append] at this;exact this
 have e1:=h.takek.1;obtain⟨e2,e3⟩:=h.next.sep;have h4:Pos L (advM (nextM s) 2) (tokN 12 p.2++(4,[59])::rest):=h.next.next.next;obtain⟨e5,_⟩:=qDd L w _ _ h4;have e6:semM L (advM (advM (nextM s) 2) (tokN 12 p.2).length)=nextM (advM (advM (nextM s) 2) (tokN 12 p.2).length):=h4.adv.must
 conv=>lhs; unfold parM
 rw[if_pos ⟨h.1,h.lt⟩,if_pos e1,e2,e3,e5,e6];simp only[qAn,qAb]
 congr 2
 simp[entW]; omega
theorem qTY{L:List Tok}{g:GS}(w:entOK (.inr g)){s:RS}{rest:List TW}(h:Pos L s (entW (.inr g)++rest))(ns:Es)(gs:Gs)(f:Nat) :
  parM (oneF L 13 1) L (f+1) s ns gs=parM (oneF L 13 1) L f (advM s (entW (.inr g)).length) ns (gs++[g]):=by
 have h:Pos L s ((1,fnW)::(1,g.nm)::(4,[40])::(prmW g.pr.list++(4,[41])::((4,[45,62])::(tokN 12 g.rs++(4,[59])::rest)))):=by
  have:=h;simp only[entW,List.cons_append,List.append_assoc,List.nil_append] at this;exact this
 have e1:isM 1 L s tyW=false:=by rw[h.is]; rfl
 have e0:fnS L s=nextM s:=h.mustk;obtain⟨e2,e3⟩:=h.next.sep;have h4:Pos L (advM (nextM s) 2) (prmW g.pr.list++(4,[41])::((4,[45,62])::(tokN 12 g.rs++(4,[59])::rest))):=h.next.next.next;have e4:=qRA w.2.1 h4;have h5:Pos L (advM (advM (nextM s) 2) ((prmW g.pr.list).length+1)) ((4,[45,62])::(tokN 12 g.rs++(4,[59])::rest)):=by
  have:=Pos.adv (a:=prmW g.pr.list++[(4,[41])]) (b:=(4,[45,62])::(tokN 12 g.rs++(4,[59])::rest)) (s:=advM (nextM s) 2) (L:=L) (by rw[List.append_assoc]; exact h4);rw[List.length_append] at this;exact this
 have e6:arrM L (advM (advM (nextM s) 2) ((prmW g.pr.list).length+1))=nextM (advM (advM (nextM s) 2) ((prmW g.pr.list).length+1)):=h5.must;obtain⟨e7,_⟩:=qDd L w.2.2.1 _ _ h5.next;have e8:semM L (advM (nextM (advM (advM (nextM s) 2) ((prmW g.pr.list).length+1))) (tokN 12 g.rs).length)=_:=h5.next.adv.must;have es:sgM (oneF L 13 1) L (fnS L s)=(g,advM (nextM (advM (advM (nextM s) 2) ((prmW g.pr.list).length+1))) (tokN 12 g.rs).length):=by
  rw[e0];unfold sgM;rw[e3,e2,e4,e6,e7];have hg:(⟨g.nm,grown g.pr.list,g.rs⟩:GS)=g:=by rw[<- w.2.2.2]
  exact Prod.ext hg rfl
 conv=>lhs; unfold parM
 rw[if_pos ⟨h.1,h.lt⟩,if_neg (by rw[e1]; decide),es,e8];simp only[qAn,qAb]
 congr 2
 simp[entW]; omega
theorem qIp{L:List Tok}:∀ (E:List En),(∀ e∈E,entOK e)->∀ (f:Nat) (s:RS) (ns:Es) (gs:Gs),E.length<f->Pos L s (E.flatMap entW) ->
  parM (oneF L 13 1) L f s ns gs=((ns++Ts E,gs++Fs E),advM s (E.flatMap entW).length)
 |[],_,0,s,ns,gs,hf,_=>by simp at hf
 |[],_,f+1,s,ns,gs,hf,h=>by
  have hp:=Pos.nil h;unfold parM;rw[if_neg (λhh=>by omega)];simp[Ts,Fs,tOf,fOf]; rfl
 |e::E,w,0,s,ns,gs,hf,_=>by simp at hf
 |.inl p::E,w,f+1,s,ns,gs,hf,h=>by
  rw[List.flatMap_cons] at h ⊢;rw[qTe (w (.inl p) (by simp)).2 h ns gs f,qIp E (λe he=>w e (by simp[he])) f _ _ _ (by simp at hf; omega) h.adv,qAb,List.length_append];simp[Ts,Fs,tOf,fOf];rfl
 |.inr g::E,w,f+1,s,ns,gs,hf,h=>by
  rw[List.flatMap_cons] at h ⊢;rw[qTY (w (.inr g) (by simp)) h ns gs f,qIp E (λe he=>w e (by simp[he])) f _ _ _ (by simp at hf; omega) h.adv,qAb,List.length_append];simp[Ts,Fs,tOf,fOf];rfl
def schW(main:TT)(E:List En):List TW:=(1,dtW)::(tokN 12 main++(4,[59])::E.flatMap entW)
theorem qMU{src:List UInt8}{main:TT}{E:List En}(hm:WF 12 main)(w:∀ e∈E,entOK e)(h0:(wordsM src).2=0)(hw:(wordsM src).1.map tw=schW main E) :
  parT src=(main,advM (s0M src) (1+(tokN 12 main).length))/\parG src=((Ts E,Fs E),advM (s0M src) (schW main E).length):=by
 have P:Pos (wordsM src).1 (s0M src) (schW main E):=⟨h0,by show((wordsM src).1.map tw).drop 0=_; rw[List.drop_zero,hw]⟩;unfold schW at P;have e1:dtM (wordsM src).1 (s0M src)=nextM (s0M src):=P.mustk;obtain⟨e2,_⟩:=qDd (wordsM src).1 hm _ _ P.next;have e3:parT src=(main,advM (s0M src) (1+(tokN 12 main).length)):=by
  unfold parT;rw[e1,e2,qAn,qAb]
 refine⟨e3,?_⟩;have h4:Pos (wordsM src).1 (advM (s0M src) (1+(tokN 12 main).length)) ((4,[59])::E.flatMap entW):=by
  rw[<- qAb,<- qAn]; exact P.next.adv
 have e5:semM (wordsM src).1 (advM (s0M src) (1+(tokN 12 main).length))=nextM (advM (s0M src) (1+(tokN 12 main).length)):=h4.must;have hl:E.length<(wordsM src).1.length+2:=by
  have h5:=congrArg List.length hw;rw[List.length_map] at h5;rw[h5];have:∀ E:List En,E.length<=(E.flatMap entW).length:=λE=>by
   induction E with
   |nil=>exact Nat.le_refl _
   |cons e E ih =>
    rw[List.flatMap_cons,List.length_append,List.length_cons];have:1<=(entW e).length:=by cases e <;> simp[entW]
    omega
  have:=this E;unfold schW;simp only[List.length_cons,List.length_append];omega
 unfold parG;rw[e3,e5,qIp E w _ _ [] [] hl h4.next,qAn,qAb,qAb];simp only[List.nil_append]
 congr 2
 unfold schW;simp only[List.length_cons,List.length_append]; omega
theorem qLZ{α:Type}(lt:α->α->Bool):∀ (l Z:List α),(l.Pairwise λp q=>lt p q=true)->Ord lt Z->Z.Perm l->Z=l
 |[],Z,_,_,p=>List.perm_nil.1 p
 |a::l,[],_,_,p=>by have:=p.length_eq; simp at this
 |a::l,z::Z,s,o,p=>by
  have s':=List.pairwise_cons.1 s;have o':=List.pairwise_cons.1 o;have e:z=a:=by
   rcases List.mem_cons.1 (p.mem_iff.1 (List.mem_cons_self)) with e|hz
   ·exact e
   ·rcases List.mem_cons.1 (p.mem_iff.2 (List.mem_cons_self (a:=a) (l:=l))) with e|ha
    ·exact e.symm
    ·have h1:=s'.1 z hz;have h2:=o'.1 a ha;rw[h1] at h2; cases h2
  subst e;rw[qLZ lt l Z s'.2 o'.2 (List.Perm.cons_inv p)]
theorem qIn{Z:Es}(o:Ord ltE Z)(hn:(Z.map (·.1)).Nodup):Z.Pairwise λp q=>ltE p q=true:=by
 rw[List.Nodup,List.pairwise_map] at hn;refine(o.and hn).imp λ{p q} h => ?_
 cases hc:ltE p q
 ·exact absurd (qDS _ _ hc h.1) h.2
 ·rfl
theorem qMg{Z:Es}(h:Z.Pairwise λp q=>ltE p q=true):strictS Z:=λi p q hp hq=>by
 obtain⟨h1,e1⟩:=List.getElem?_eq_some_iff.1 hp;obtain⟨h2,e2⟩:=List.getElem?_eq_some_iff.1 hq;have:=List.pairwise_iff_getElem.1 h i (i+1) h1 h2 (by omega);rw[e1,e2] at this;exact this
theorem qP2{Z:Es}(h:Z.Pairwise λp q=>ltE p q=true):(Z.map (·.1)).Nodup:=by
 rw[List.Nodup,List.pairwise_map];refine h.imp λ{p q} h e => ?_
 unfold ltE at h;rw[e,qCp] at h; cases h
theorem qRY{Z:Es}(o:Ord ltE Z)(j:Nat)(hj:j+1<Z.length):adjS Z j (j+1):=λp q hp hq=>by
 obtain⟨h1,e1⟩:=List.getElem?_eq_some_iff.1 hp;obtain⟨h2,e2⟩:=List.getElem?_eq_some_iff.1 hq;have:=List.pairwise_iff_getElem.1 o j (j+1) h1 h2 (by omega);rw[e1,e2] at this;exact this
theorem qJG{Z es:Es}(o:Ord ltE Z)(p:Z.Perm es):(twM Z false Z.length=false↔(es.map (·.1)).Nodup):=by
 have pm:=(p.map (·.1)).nodup_iff;constructor
 ·intro h;exact pm.1 (qP2 (qEt (qN5 (qHe _ _ _ h).2 (qRY o))))
 ·intro h;exact qHK (qMg (qIn o (pm.2 h))) false _
theorem qHv{Z es Z' es':Es}(o:Ord ltE Z)(p:Z.Perm es)(o':Ord ltE Z')(p':Z'.Perm es')(hp:es'.Perm es)(hn:(es.map (·.1)).Nodup):Z'=Z :=
 qLZ ltE Z Z' (qIn o ((p.map (·.1)).nodup_iff.2 hn)) o' (p'.trans (hp.trans p.symm))
def gE(g:GS):List UInt8×TT:=(g.nm,g.rs)
theorem qQX(l:Gs)(b:Bool):∀ n,twG l b n=twM (l.map gE) b n
 |0=>rfl
 |n+1=>by
  show(twG l b n||adjG l n)=(twM (l.map gE) b n||adjM (l.map gE) n);rw[qQX l b n]
  congr 1
  cases n with
  |zero=>rfl
  |succ j =>
   show(match l[j]?,l[j+1]? with|some q,some p=>decide (q.nm=p.nm)|_,_=>false)=(match (l.map gE)[j]?,(l.map gE)[j+1]? with|some q,some p=>decide (q.1=p.1)|_,_=>false);rw[List.getElem?_map,List.getElem?_map];cases l[j]? <;> cases l[j+1]? <;> rfl
theorem qSn{Z:Gs}(o:Ord ltG Z):Ord ltE (Z.map gE):=List.pairwise_map.2 o
theorem qSl(l:Gs):(l.map gE).map (·.1)=l.map (·.nm):=by rw[List.map_map]; rfl
theorem qQu{Z gs:Gs}(o:Ord ltG Z)(p:Z.Perm gs):(twG Z false Z.length=false↔(gs.map (·.nm)).Nodup):=by
 rw[qQX,<- qSl,<- qJG (qSn o) (p.map gE),List.length_map]
theorem qMJ{Z gs Z' gs':Gs}(o:Ord ltG Z)(p:Z.Perm gs)(o':Ord ltG Z')(p':Z'.Perm gs')(hp:gs'.Perm gs)(hn:(gs.map (·.nm)).Nodup):Z'=Z:=by
 refine qLZ ltG Z Z' ?_ o' (p'.trans (hp.trans p.symm));have hZ:=(p.map (·.nm)).nodup_iff.2 hn;rw[List.Nodup,List.pairwise_map] at hZ;refine(o.and hZ).imp λ{p q} h => ?_
 cases hc:ltG p q
 ·exact absurd (qDS _ _ hc h.1) h.2
 ·rfl
theorem qR7{L:List Tok}{s:RS}{es:Es}{m:Nat}(w:∀ p∈es,WF m p.2)(hm:m<=11)(h:Pos L s ((4,[123])::(fldW (tokN m) es++[(4,[125])]))) :
  oneF L 13 1 s=(recT 7 (sortedM es),{ advM s ((fldW (tokN m) es).length+2) with tw:=twM (sortedM es) s.tw (sortedM es).length }):=by
 have hh:=qDl (d:=1) h (.inr ⟨rfl,rfl⟩) (by decide);have ho:opnM L s=advM s 1:=h.must;have h2:Pos L (advM s 1) (fldW (tokN m) es++(4,[125])::[]):=by
  have:=h.next
  simpa [qAn] using this
 obtain⟨h3,_⟩:=qMu (sub:=oneF L 12 2) (ok:=okF L 12 2) es (λp hp=>qG9 L m p.2 (w p hp) 12 (by omega) 2 (by omega)) h2;show oneP (oneF L 12 (1+1)) 1 L s=_;unfold oneP;rw[hh,if_neg (λhx=>hx h.1),h.peek.1,if_pos rfl];unfold recdM;rw[ho];have h3':rowM (oneF L 12 (1+1)) L [125] (advM s 1)=(es,advM (advM s 1) ((fldW (tokN m) es).length+1)):=h3;rw[h3'];show(recT 7 (sortedM es),{ advM (advM s 1) ((fldW (tokN m) es).length+1) with tw:=twM (sortedM es) s.tw (sortedM es).length })=_;rw[qAb,show 1+((fldW (tokN m) es).length+1)=(fldW (tokN m) es).length+2 by omega]
theorem qKs{L:List Tok}{s:RS}(he:s.e=0)(hp:L.length<=s.p):errM (endM L s)=if s.tw=true then 6 else 0:=by
 unfold endM;rw[decide_eq_true hp];unfold mustM errM;rw[if_pos rfl,if_neg (λhh=>hh he)]
theorem qOc{src:List UInt8}{es:Es}{m:Nat}(w:∀ p∈es,WF m p.2)(hm:m<=11)(h0:(wordsM src).2=0)(hw:(wordsM src).1.map tw=(4,[123])::(fldW (tokN m) es++[(4,[125])]))(hl:es.length<=1000) :
  ((es.map (·.1)).Nodup->typeE src=0/\typeM src=recT 7 (sortedM es))/\(¬ (es.map (·.1)).Nodup->typeE src=6):=by
 have P:Pos (wordsM src).1 (s0M src) ((4,[123])::(fldW (tokN m) es++[(4,[125])])):=⟨h0,by show((wordsM src).1.map tw).drop 0=_; rw[List.drop_zero,hw]⟩;have hr:typeR src=_:=qR7 w hm P;have hlen:(wordsM src).1.length=(fldW (tokN m) es).length+2:=by
  have:=congrArg List.length hw
  simpa using this
 have hE:typeE src=if twM (sortedM es) false (sortedM es).length=true then 6 else 0:=by
  unfold typeE;rw[hr,qKs (by exact h0) (by show _<=0+_; omega)]
 have tf:=qJG (qCz es hl) (qBX es);refine⟨λhn => ?_,λhn => ?_⟩
 ·have e0:typeE src=0:=by rw[hE,tf.2 hn]; rfl
  refine⟨e0,?_⟩;unfold typeM;rw[if_pos e0,hr]
 ·rw[hE];cases hc:twM (sortedM es) false (sortedM es).length with
  |true=>rfl
  |false=>exact absurd (tf.1 hc) hn
theorem qIQ{src:List UInt8}{main:TT}{E:List En}(hm:WF 12 main)(w:∀ e∈E,entOK e)(h0:(wordsM src).2=0)(hw:(wordsM src).1.map tw=schW main E)(hl:E.length<=1000) :
  (((Ts E).map (·.1)).Nodup/\((Fs E).map (·.nm)).Nodup->parE src=0/\parS src=⟨main,slF (sortedMN (Ts E)),slF (sortedMG (Fs E))⟩)/\(¬ (((Ts E).map (·.1)).Nodup/\((Fs E).map (·.nm)).Nodup)->parE src=6):=by
 obtain⟨e1,e2⟩:=qMU hm w h0 hw;have hlen:(wordsM src).1.length=(schW main E).length:=by rw[<- hw,List.length_map]
 have lT:(Ts E).length<=1000:=Nat.le_trans (List.length_filterMap_le _ _) hl;have lF:(Fs E).length<=1000:=Nat.le_trans (List.length_filterMap_le _ _) hl;have hR:parR src=((main,sortedMN (Ts E),sortedMG (Fs E)),{ advM (s0M src) (schW main E).length with tw:=twG (sortedMG (Fs E)) (twM (sortedMN (Ts E)) false (sortedMN (Ts E)).length) (sortedMG (Fs E)).length }):=by
  unfold parR;rw[e1,e2]; rfl
 have tf:=qJG (qBf (Ts E) lT).1 (qBj (Ts E));have tg:=qQu (qBg (Fs E) lF).1 (qBp (Fs E));have hE:parE src=if twG (sortedMG (Fs E)) (twM (sortedMN (Ts E)) false (sortedMN (Ts E)).length) (sortedMG (Fs E)).length=true then 6 else 0:=by
  unfold parE;rw[hR,qKs (by exact h0) (by show _<=0+_; omega)]
 have mono:∀ (n:Nat) (l:Gs),twG l true n=true:=λn l=>by
  induction n with
  |zero=>rfl
  |succ n ih=>show(twG l true n||_)=true; rw[ih]; rfl
 refine⟨λhn => ?_,λhn => ?_⟩
 ·have e0:parE src=0:=by rw[hE,tf.2 hn.1,tg.2 hn.2]; rfl
  refine⟨e0,?_⟩;unfold parS;rw[if_pos e0,hR]
 ·rw[hE];cases hc:twM (sortedMN (Ts E)) false (sortedMN (Ts E)).length with
  |true=>rw[mono]; rfl
  |false =>
   cases hd:twG (sortedMG (Fs E)) false (sortedMG (Fs E)).length with
   |true=>rfl
   |false=>exact absurd ⟨tf.1 hc,tg.1 hd⟩ hn
abbrev Nm:=List UInt8
def nmOK(n:Nm):Prop:=n∈nameL
theorem qIP{n:Nm}(h:nmOK n):nameB n=true:=by
 have:∀ x∈nameL,nameB x=true:=by decide
 exact this n h
theorem qEu{n:Nm}(h:nmOK n):n.length<=4:=by
 have:∀ x∈nameL,x.length<=4:=by decide
 exact this n h
theorem qTo(z:Int):nmOK (nameM z):=List.mem_of_getElem? (qJX z)
def fieT(p:Nm×Int):List UInt8:=p.1++58::wordM p.2
def rowT:List (Nm×Int)->List UInt8
 |[]=>[]
 |[p]=>fieT p
 |p::q::l=>fieT p++44::rowT (q::l)
def fE(p:Nm×Int):List UInt8×TT:=(p.1,leafT p.2)
def k3(k:Int):Prop:=k=1\/k=2\/k=3
theorem qBM{k:Int}(h:k3 k)(n:Nat):tokN (n+1) (leafT k)=[(1,wordM k)]:=by
 rw[qCm];show(if k=9 then _ else if k=7 then _ else if k=8 then _ else _)=_
 rcases h with rfl|rfl|rfl <;> rfl
theorem qFK{k:Int}(h:k3 k)(n:Nat):WF (n+1) (leafT k) := .inl ⟨k,h,rfl⟩
theorem qTT{k:Int}(h:k3 k):nameB (wordM k)=true:=by rcases h with rfl|rfl|rfl <;> decide
theorem qMz{p:Nm×Int}(hn:nmOK p.1)(hk:k3 p.2){r:List UInt8}(hr:endW r):Rd (fieT p++r) [(1,p.1),(4,[58]),(1,wordM p.2)] r:=by
 have a:=Rd.name (qIP hn) (r:=58::(wordM p.2++r)) (qCK (by decide) _);have b:=Rd.sign (c:=58) (by decide) (wordM p.2++r) (λ_=>by rcases hk with h|h|h <;> rw[h] <;> simp[wordM]);have c:=Rd.name (qTT hk) hr;have:=a.trans (b.trans c)
 simpa [fieT] using this
theorem qJh:∀ (l:List (Nm×Int)),l≠[]->(∀ p∈l,nmOK p.1/\k3 p.2)->∀ r,Rd (rowT l++125::r) (fldW (tokN 1) (l.map fE)) (125::r)
 |[],h,_,_=>absurd rfl h
 |[p],_,hp,r=>by
  obtain⟨h1,h2⟩:=hp p (by simp);have:=qMz h1 h2 (r:=125::r) (qCK (by decide) _)
  simpa [rowT,fldW,fE,qBM h2 0] using this
 |p::q::l,_,hp,r=>by
  obtain⟨h1,h2⟩:=hp p (by simp);have a:=qMz h1 h2 (r:=44::(rowT (q::l)++125::r)) (qCK (by decide) _);have d:=Rd.sign (c:=44) (by decide) (rowT (q::l)++125::r) (λe=>by cases e);have e:=qJh (q::l) (by simp) (λx hx=>hp x (by simp[hx])) r;have:=a.trans (d.trans e)
  simpa [rowT,fldW,fE,qBM h2 0] using this
theorem qO5(l:List (Nm×Int))(h0:l≠[])(hp:∀ p∈l,nmOK p.1/\k3 p.2):Rd (123::(rowT l++[125])) ((4,[123])::(fldW (tokN 1) (l.map fE)++[(4,[125])])) []:=by
 have a:=Rd.sign (c:=123) (by decide) (rowT l++[125]) (λe=>by cases e);have b:=qJh l h0 hp [];have d:=Rd.sign (c:=125) (by decide) [] (λe=>by cases e);exact a.trans (b.trans d)
theorem qEz:∀ (l:List (Nm×Int)) (p:Nm×Int),rowT (l++[p])=rowT l++(if l=[] then [] else [44])++fieT p
 |[],p=>by simp[rowT]
 |[q],p=>by simp[rowT]
 |q::q2::l,p=>by
  have:=qEz (q2::l) p;show fieT q++44::rowT (q2::l++[p])=(fieT q++44::rowT (q2::l))++_++_;rw[this];simp
theorem qKO{p:Nm×Int}(h:nmOK p.1/\k3 p.2):(fieT p).length<=9:=by
 have:=qEu h.1;unfold fieT;rw[List.length_append,List.length_cons];have:(wordM p.2).length<=4:=by rcases h.2 with e|e|e <;> rw[e] <;> decide
 omega
theorem qFn:∀ (l:List (Nm×Int)),(∀ p∈l,nmOK p.1/\k3 p.2)->(rowT l).length<=10*l.length
 |[],_=>by simp[rowT]
 |[p],h=>by have:=qKO (h p (by simp)); simp[rowT]; omega
 |p::q::l,h=>by
  have h1:=qKO (h p (by simp));have h2:=qFn (q::l) (λx hx=>h x (by simp[hx]));show(fieT p++44::rowT (q::l)).length<=_;rw[List.length_append,List.length_cons,List.length_cons];omega
theorem qJi:∀ (l:List (Nm×Int)),(∀ p∈l,k3 p.2)->(fldW (tokN 1) (l.map fE)).length<=4*l.length
 |[],_=>by simp[fldW]
 |[p],h=>by simp[fldW,fE,qBM (h p (by simp)) 0]
 |p::q::l,h=>by
  have h2:=qJi (q::l) (λx hx=>h x (by simp[hx]));have e:fldW (tokN 1) ((p::q::l).map fE)=((1,p.1)::(4,[58])::tokN 1 (leafT p.2))++(4,[44])::fldW (tokN 1) ((q::l).map fE):=rfl;rw[e,qBM (h p (by simp)) 0];simp only[List.length_append,List.length_cons,List.length_nil] at h2 ⊢;omega
theorem qGB{src:List UInt8}{ws:List TW}(R:Rd src ws [])(h1:src.length<=1500)(h2:ws.length<=400):(wordsM src).2=0/\(wordsM src).1.map tw=ws:=by
 rcases qNs R with ⟨_,_,h⟩|⟨_,_,h⟩|h
 ·omega
 ·omega
 ·exact h
theorem qF5(l:List (Nm×Int))(h0:l≠[])(hp:∀ p∈l,nmOK p.1/\k3 p.2)(hl:l.length<=20) :
  ((l.map (·.1)).Nodup->typeE (123::(rowT l++[125]))=0/\typeM (123::(rowT l++[125]))=recT 7 (sortedM (l.map fE)))/\(¬ (l.map (·.1)).Nodup->typeE (123::(rowT l++[125]))=6):=by
 have t1:=qFn l hp;have t2:=qJi l (λp hx=>(hp p hx).2);obtain⟨g1,g2⟩:=qGB (qO5 l h0 hp) (by simp; omega) (by simp; omega)
 have:=qOc (m:=1) (es:=l.map fE) (λp hx=>by
  obtain⟨q,hq,rfl⟩:=List.mem_map.1 hx
  exact qFK (hp q hq).2 0) (by decide) g1 g2 (by rw[List.length_map]; omega)
 rw[List.map_map] at this;exact this
def tyB:List UInt8:=[116,121,112,101,32]
def tyC:List UInt8:=[61,66,111,111,108,59,102,110,32]
def tyD:List UInt8:=[40,41,45,62,73,110,116,59]
def fnB:List UInt8:=[102,110,32]
def entT(n:Nm):List UInt8:=tyB++n++tyC++n++tyD
def funT(n:Nm):List UInt8:=fnB++n++tyD
def eT(n:Nm):En := .inl (n,leafT 1)
def eF(n:Nm):En := .inr ⟨n,.nil,leafT 2⟩
theorem qNF{n:Nm}(hn:nmOK n)(r:List UInt8):Rd (funT n++r) (entW (eF n)) r:=by
 have a0:Rd (fnW++32::(n++(tyD++r))) [(1,fnW)] (32::(n++(tyD++r))):=Rd.name (by decide) (λb t e=>by injection e with e1 e2; subst e1; decide);have a1:Rd (n++(tyD++r)) [(1,n)] (tyD++r):=Rd.name (qIP hn) (qCK (by decide) _);have a2:Rd (tyD++r) [(4,[40])] (41::45::62::73::110::116::59::r):=Rd.sign (by decide) _ (λe=>by cases e);have a3:Rd (41::45::62::73::110::116::59::r) [(4,[41])] (45::62::73::110::116::59::r):=Rd.sign (by decide) _ (λe=>by cases e);have a4:=Rd.arr (73::110::116::59::r);have a5:Rd (73::110::116::59::r) [(1,wordM 2)] (59::r):=Rd.name (w:=[73,110,116]) (by decide) (qCK (by decide) _);have a6:Rd (59::r) [(4,[59])] r:=Rd.sign (by decide) _ (λe=>by cases e);have:=a0.trans ((a1.blank (by simp)).trans (a2.trans (a3.trans (a4.trans (a5.trans a6)))));have e1:entW (eF n)=[(1,fnW)]++([(1,n)]++([(4,[40])]++([(4,[41])]++([(4,[45,62])]++([(1,wordM 2)]++[(4,[59])]))))):=by
  show(1,fnW)::(1,n)::(4,[40])::([]++(4,[41])::(4,[45,62])::(tokN 12 (leafT 2)++[(4,[59])]))=_;rw[qBM (.inr (.inl rfl)) 11]; rfl
 have e2:funT n++r=fnW++32::(n++(tyD++r)):=by simp[funT,fnB,fnW]
 rw[e1,e2];exact this
theorem qSO{n:Nm}(hn:nmOK n)(r:List UInt8):Rd (entT n++r) (entW (eT n)++entW (eF n)) r:=by
 have f:=qNF hn r;have a0:Rd (tyW++32::(n++61::66::111::111::108::59::(funT n++r))) [(1,tyW)] (32::(n++61::66::111::111::108::59::(funT n++r))):=Rd.name (by decide) (λb t e=>by injection e with e1 e2; subst e1; decide);have a1:Rd (n++61::66::111::111::108::59::(funT n++r)) [(1,n)] (61::66::111::111::108::59::(funT n++r)):=Rd.name (qIP hn) (qCK (by decide) _);have a2:Rd (61::66::111::111::108::59::(funT n++r)) [(4,[61])] (66::111::111::108::59::(funT n++r)):=Rd.sign (by decide) _ (λe=>by cases e);have a3:Rd (66::111::111::108::59::(funT n++r)) [(1,wordM 1)] (59::(funT n++r)):=Rd.name (w:=[66,111,111,108]) (by decide) (qCK (by decide) _);have a4:Rd (59::(funT n++r)) [(4,[59])] (funT n++r):=Rd.sign (by decide) _ (λe=>by cases e);have:=a0.trans ((a1.blank (by simp)).trans (a2.trans (a3.trans (a4.trans f))));have e1:entW (eT n)++entW (eF n)=[(1,tyW)]++([(1,n)]++([(4,[61])]++([(1,wordM 1)]++([(4,[59])]++entW (eF n))))):=by
  show((1,tyW)::(1,n)::(4,[61])::(tokN 12 (leafT 1)++[(4,[59])]))++entW (eF n)=_;rw[qBM (.inl rfl) 11]; rfl
 have e2:entT n++r=tyW++32::(n++61::66::111::111::108::59::(funT n++r)):=by simp[entT,funT,tyB,tyC,tyD,fnB,tyW]
 rw[e1,e2];exact this
def daT:List UInt8:=[100,97,116,97,32,73,110,116,59]
def enB(l:List Nm):List En:=l.flatMap λn=>[eT n,eF n]
theorem qKy:∀ (l:List Nm),(∀ n∈l,nmOK n)->∀ r,Rd (l.flatMap entT++r) ((enB l).flatMap entW) r
 |[],_,r=>⟨by simp[enB],λf i acc=>⟨[],i,rfl,by simp[enB]⟩⟩
 |n::l,h,r=>by
  have a:=qSO (h n (by simp)) (l.flatMap entT++r);have b:=qKy l (λx hx=>h x (by simp[hx])) r;have:=a.trans b
  simpa [enB] using this
theorem qS0(l:List Nm)(h:∀ n∈l,nmOK n)(m:List Nm)(hm:∀ n∈m,nmOK n):Rd (daT++l.flatMap entT++m.flatMap funT) (schW (leafT 2) (enB l++m.map eF)) []:=by
 have a0:Rd (dtW++32::73::110::116::59::(l.flatMap entT++m.flatMap funT)) [(1,dtW)] (32::73::110::116::59::(l.flatMap entT++m.flatMap funT)):=Rd.name (by decide) (λb t e=>by injection e with e1 e2; subst e1; decide);have a1:Rd (73::110::116::59::(l.flatMap entT++m.flatMap funT)) [(1,wordM 2)] (59::(l.flatMap entT++m.flatMap funT)):=Rd.name (w:=[73,110,116]) (by decide) (qCK (by decide) _);have a2:Rd (59::(l.flatMap entT++m.flatMap funT)) [(4,[59])] (l.flatMap entT++m.flatMap funT):=Rd.sign (by decide) _ (λe=>by cases e);have a3:=qKy l h (m.flatMap funT);have a4:∀ m:List Nm,(∀ n∈m,nmOK n)->Rd (m.flatMap funT) ((m.map eF).flatMap entW) []:=by
  intro m
  induction m with
  |nil=>intro _; exact⟨by simp,λf i acc=>⟨[],i,rfl,by simp⟩⟩
  |cons n m ih =>
   intro hm;have a:=qNF (hm n (by simp)) (m.flatMap funT);have:=a.trans (ih (λx hx=>hm x (by simp[hx])))
   simpa using this
 have:=a0.trans ((a1.blank (by simp)).trans (a2.trans (a3.trans (a4 m hm))));have e1:schW (leafT 2) (enB l++m.map eF)=[(1,dtW)]++([(1,wordM 2)]++([(4,[59])]++((enB l).flatMap entW++(m.map eF).flatMap entW))):=by
  unfold schW;rw[qBM (.inr (.inl rfl)) 11,List.flatMap_append]; rfl
 have e2:daT++l.flatMap entT++m.flatMap funT=dtW++32::73::110::116::59::(l.flatMap entT++m.flatMap funT):=by simp[daT,dtW]
 rw[e1,e2];exact this
theorem qG4{n:Nm}(h:nmOK n):(entT n).length<=30/\(funT n).length<=15:=by
 have:=qEu h;unfold entT funT tyB tyC tyD fnB;simp only[List.length_append,List.length_cons,List.length_nil];omega
theorem qKS(n:Nm):(entW (eT n)).length=5/\(entW (eF n)).length=7:=by
 constructor
 ·show((1,tyW)::(1,n)::(4,[61])::(tokN 12 (leafT 1)++[(4,[59])])).length=5;rw[qBM (.inl rfl) 11]; rfl
 ·show((1,fnW)::(1,n)::(4,[40])::([]++(4,[41])::(4,[45,62])::(tokN 12 (leafT 2)++[(4,[59])]))).length=7;rw[qBM (.inr (.inl rfl)) 11]; rfl
theorem qSW(l m:List Nm):Ts (enB l++m.map eF)=l.map λn=>(n,leafT 1):=by
 unfold Ts;rw[List.filterMap_append];have e1:(enB l).filterMap tOf=l.map λn=>(n,leafT 1):=by
  induction l with
  |nil=>rfl
  |cons n l ih=>simp only[enB,List.flatMap_cons,List.cons_append,List.nil_append,eT,eF,List.filterMap_cons,tOf,fOf] at ih ⊢; rw[List.map_cons,<- ih]
 have e2:(m.map eF).filterMap tOf=[]:=by
  induction m with
  |nil=>rfl
  |cons n m ih=>simp only[List.map_cons,eF,List.filterMap_cons,tOf] at ih ⊢; exact ih
 rw[e1,e2,List.append_nil]
theorem qSL(l m:List Nm):Fs (enB l++m.map eF)=(l++m).map λn=>⟨n,.nil,leafT 2⟩:=by
 unfold Fs;rw[List.filterMap_append,List.map_append]
 congr 1
 ·induction l with
  |nil=>rfl
  |cons n l ih=>simp only[enB,List.flatMap_cons,List.cons_append,List.nil_append,eT,eF,List.filterMap_cons,tOf,fOf] at ih ⊢; rw[List.map_cons,<- ih]
 ·induction m with
  |nil=>rfl
  |cons n m ih=>simp only[List.map_cons,eF,List.filterMap_cons,fOf] at ih ⊢; rw[ih]
theorem qTb(l m:List Nm)(h:∀ n∈l,nmOK n)(hm:∀ n∈m,nmOK n):∀ e∈enB l++m.map eF,entOK e:=by
 intro e he;have kT:∀ n,nmOK n->entOK (eT n):=λn hn=>⟨qIP hn,qFK (.inl rfl) 11⟩
 have kF:∀ n,nmOK n->entOK (eF n):=λn hn=>⟨qIP hn,λt ht=>(by cases ht),qFK (.inr (.inl rfl)) 11,rfl⟩
 rcases List.mem_append.1 he with he|he
 ·obtain⟨n,hn,he⟩:=List.mem_flatMap.1 he
  rcases List.mem_cons.1 he with rfl|he
  ·exact kT n (h n hn)
  ·rw[List.mem_singleton.1 he]; exact kF n (h n hn)
 ·obtain⟨n,hn,rfl⟩:=List.mem_map.1 he;exact kF n (hm n hn)
theorem qFE{α:Type}(f:α->List UInt8)(c:Nat):∀ (l:List α),(∀ x∈l,(f x).length<=c)->(l.flatMap f).length<=c*l.length
 |[],_=>by simp
 |x::l,h=>by
  have:=qFE f c l (λy hy=>h y (by simp[hy]));have:=h x (by simp);rw[List.flatMap_cons,List.length_append,List.length_cons,Nat.mul_succ]; omega
theorem qGA(l m:List Nm)(h:∀ n∈l,nmOK n)(hm:∀ n∈m,nmOK n)(hl:l.length<=8)(hl2:m.length<=1) :
  (l.Nodup/\(l++m).Nodup->parE (daT++l.flatMap entT++m.flatMap funT)=0/\parS (daT++l.flatMap entT++m.flatMap funT)=⟨leafT 2,slF (sortedMN (l.map λn=>(n,leafT 1))),slF (sortedMG ((l++m).map λn=>⟨n,.nil,leafT 2⟩))⟩) /\
  (¬ (l++m).Nodup->parE (daT++l.flatMap entT++m.flatMap funT)=6):=by
 have t1:=qFE entT 30 l (λn hn=>(qG4 (h n hn)).1);have t2:=qFE funT 15 m (λn hn=>(qG4 (hm n hn)).2);have t3:((enB l++m.map eF).flatMap entW).length=12*l.length+7*m.length:=by
  rw[List.flatMap_append,List.length_append];have a:((enB l).flatMap entW).length=12*l.length:=by
   clear h t1 hl
   induction l with
   |nil=>rfl
   |cons n l ih =>
    have:=qKS n;simp only[enB,List.flatMap_cons,List.cons_append,List.nil_append,List.length_append,List.length_cons] at ih ⊢;omega
  have b:((m.map eF).flatMap entW).length=7*m.length:=by
   clear hm t2 hl2
   induction m with
   |nil=>rfl
   |cons n m ih =>
    have:=qKS n;simp only[List.map_cons,List.flatMap_cons,List.length_append,List.length_cons] at ih ⊢;omega
  omega
 obtain⟨g1,g2⟩:=qGB (qS0 l h m hm) (by simp only[List.length_append]; have:daT.length=9:=rfl; omega) (by
  unfold schW;rw[qBM (.inr (.inl rfl)) 11];simp only[List.length_cons,List.length_append,List.length_nil,t3]
  omega)
 have hE:(enB l++m.map eF).length<=1000:=by
  have:(enB l).length=2*l.length:=by
   clear h t1 hl t3 g1 g2
   induction l with
   |nil=>rfl
   |cons n l ih=>simp only[enB,List.flatMap_cons,List.length_append,List.length_cons,List.length_nil] at ih ⊢; omega
  rw[List.length_append,List.length_map]; omega
 have:=qIQ (qFK (.inr (.inl rfl)) 11) (qTb l m h hm) g1 g2 hE;rw[qSW,qSL,List.map_map,List.map_map] at this;have i1:l.map ((λp:List UInt8×TT=>p.1)∘λn=>(n,leafT 1))=l:=List.map_id l;have i2:(l++m).map ((λg:GS=>g.nm)∘λn=>⟨n,.nil,leafT 2⟩)=l++m:=List.map_id (l++m);rw[i1,i2] at this;exact⟨this.1,λhn=>this.2 (λhh=>hn hh.2)⟩
def sameN1(p q:List UInt8×TT):Bool:=decide (p.1=q.1)&&sameT p.2 q.2
def sameG1(p q:GS):Bool:=(decide (p.nm=q.nm)&&sameL p.pr.list q.pr.list)&&sameT p.rs q.rs
def sameB{α:Type}(f:α->α->Bool):List α->List α->Bool
 |[],[]=>true
 |a::l,b::m=>f a b&&sameB f l m
 |_,_=>false
theorem qEy{α:Type}(f:α->α->Bool):∀ (a b:List α),a.length≠b.length->sameB f a b=false
 |[],[],h=>absurd rfl h
 |[],_::_,_=>rfl
 |_::_,[],_=>rfl
 |a::l,b::m,h=>by rw[sameB,qEy f l m (λe=>h (by rw[List.length_cons,List.length_cons,e])),Bool.and_false]
def sameSC(a b:SC):Bool:=(sameT a.main b.main&&sameB sameN1 a.ts.list b.ts.list)&&sameB sameG1 a.gs.list b.gs.list
structure smSC (a:SC):Prop where
 main:smT a.main
 ts:a.ts.len<=1000
 gs:a.gs.len<=1000
 ta:∀ p∈a.ts.list,smT p.2
 ga:∀ p∈a.gs.list,p.pr.len<=1000/\(∀ x∈p.pr.list,smT x)/\smT p.rs
theorem r17{β:Type}{k:TVal->Heap->Option β}{h:Heap}{d:Nat}{a b:TT}(sa:smT a)(sb:smT b):vcall Om (.v (.c (.func 17 []))) [kA a.row,kA b.row] h d k=k (kB (sameT a b)) h:=qAH 17 _ _ (by simp only[exP]) (qPU _ a b (Nat.lt_succ_self _) sa sb) rfl
theorem qNl{β:Type}{h:Heap}{k:TVal->Heap->Option β}(x:List UInt8)(v:TT):vload true 4 (.v (.c (.p (.pptr (eRow x v) 1)))) h k=k (kA v.row) h:=by
 obtain⟨a1,a2,a3,a4,ha⟩:=qAY v;unfold eRow;rw[ha]; rfl
theorem qOp{β:Type}{h:Heap}{k:TVal->Heap->Option β}(f:GS):vload true 6 (.v (.c (.p (.pptr (gRow f) 0)))) h k=k (kA (gRow f)) h:=by
 obtain⟨a1,a2,a3,a4,ha⟩:=qAY f.rs;unfold gRow;rw[ha]; rfl
theorem exE:(∀ (x:List UInt8) (v:TT),(eRow x v)[0]?=some (.str x))/\(∀ (x:List UInt8) (v:TT),(eRow x v).length=5)/\(∀ f:GS,(gRow f).length=6)/\(∀ f:GS,(gRow f)[0]?=some (.str f.nm))/\(∀ f:GS,(gRow f)[1]?=some (slP 4 TT.row f.pr)) /\
  (∀ {β:Type}{h:Heap}{k:TVal->Heap->Option β}(x:List UInt8)(v:TT),vload true 4 (.v (.c (.p (.pptr (eRow x v) 1)))) h k=k (kA v.row) h)/\(∀ {β:Type}{h:Heap}{k:TVal->Heap->Option β}(f:GS),vload true 6 (.v (.c (.p (.pptr (gRow f) 0)))) h k=k (kA (gRow f)) h) :=
 ⟨λ_ _=>rfl,qA0,qAm,λ_=>rfl,λ_=>rfl,qNl,qOp⟩
theorem qTw(a b:SC)(sa:smSC a)(sb:smSC b)(hab:a.ts.len=b.ts.len)(m1 m2 m3 m4 n1 n2 n3 n4:PVal)(h:Heap)
  (g2:h.get (.own 2 1)=some (.cells [.p m1,.p m2,.p m3,.p m4,.p (slP 5 (λp=>eRow p.1 p.2) a.ts),.p (slP 6 gRow a.gs)] 0)) (g3:h.get (.own 3 1)=some (.cells [.p n1,.p n2,.p n3,.p n4,.p (slP 5 (λp=>eRow p.1 p.2) b.ts),.p (slP 6 gRow b.gs)] 0)) :
  ∀ i:Nat,lim tab.get S 23 0 1 [s2P,s3P,kI (i:Int)] h=if sameB sameN1 (a.ts.list.drop i) (b.ts.list.drop i)=true then lim tab.get S 23 0 3 [s2P,s3P,kI 0] h else some (kB false,[]):=by
 have hl:=sa.ts;refine qE7 a.ts.len (λi hi => ?_) (λi hi ihl => ?_) <;> rw[w23_1,b23_1]
 ·have h1:¬ (i:Int)<(a.ts.len:Int):=by omega
  have e1:a.ts.list.drop i=[]:=qB8 hi;have e2:b.ts.list.drop i=[]:=qB8 (by show b.ts.len<=i; omega);rw[e1,e2,if_pos (show sameB sameN1 [] []=true from rfl)];simp (maxSteps:=9999999) +contextual only[exa,rA,rB,rC,rD,rE,rF,rG,rH,rI,exT,exE,g2,g3,h1];rw[w23_2,b23_2]
 ·have h1:(i:Int)<(a.ts.len:Int):=by omega
  obtain⟨x,hx,dx,mx⟩:=qBN (l:=a.ts.list) (i:=i) hi;obtain⟨y,hy,dy,my⟩:=qBN (l:=b.ts.list) (i:=i) (by show i<b.ts.len; omega);rw[dx,dy,sameB];have cc:=λ{β:Type} {k:TVal->Heap->Option β} {h:Heap} {d:Nat}=>r17 (k:=k) (h:=h) (d:=d) (sa.ta x mx) (sb.ta y my)
  by_cases hxy:x.1=y.1
  ·have e0:sameN1 x y=sameT x.2 y.2:=by unfold sameN1; rw[decide_eq_true hxy,Bool.true_and]
   rw[e0];cases hs:sameT x.2 y.2
   ·simp (maxSteps:=9999999) +contextual only[exa,rA,rB,rC,rD,rE,rF,rG,rH,rI,exT,exE,g2,g3,h1,hx,hy,hxy,cc,hs,oneOf];rfl
   ·simp (maxSteps:=9999999) +contextual only[exa,rA,rB,rC,rD,rE,rF,rG,rH,rI,exT,exE,g2,g3,h1,hx,hy,hxy,cc,hs,qBq i (by omega)];exact ihl
  ·have e0:sameN1 x y=false:=by unfold sameN1; rw[decide_eq_false hxy,Bool.false_and]
   rw[e0];simp (maxSteps:=9999999) +contextual only[exa,rA,rB,rC,rD,rE,rF,rG,rH,rI,exT,exE,g2,g3,h1,hx,hy,hxy,oneOf];rfl
abbrev s7P(g:Nat):TVal := .v (.c (.ptr (.own 7 g) 0))
abbrev s8P(g:Nat):TVal := .v (.c (.ptr (.own 8 g) 0))
theorem qTH(x y:GS)(lx:x.pr.len<=1000)(hxy:x.pr.len=y.pr.len)(sx:∀ t∈x.pr.list,smT t)(sy:∀ t∈y.pr.list,smT t)(j u7 u8:Nat)(h:Heap)(g7:h.get (.own 7 u7)=some (.cells (pcells (gRow x)) 0))(g8:h.get (.own 8 u8)=some (.cells (pcells (gRow y)) 0)) :
  ∀ i:Nat,lim tab.get S 23 0 4 [s2P,s3P,kI (j:Int),s7P u7,s8P u8,kI (i:Int)] h=if sameL (x.pr.list.drop i) (y.pr.list.drop i)=true then lim tab.get S 23 0 5 [s2P,s3P,kI (j:Int)] h else some (kB false,[]):=by
 have g71:(pcells (gRow x))[1]?=some (.p (slP 4 TT.row x.pr)):=rfl;have g81:(pcells (gRow y))[1]?=some (.p (slP 4 TT.row y.pr)):=rfl;refine qE7 x.pr.len (λi hi => ?_) (λi hi ihl => ?_) <;> rw[w23_4,b23_4]
 ·have h1:¬ (i:Int)<(x.pr.len:Int):=by omega
  have e1:x.pr.list.drop i=[]:=qB8 hi;have e2:y.pr.list.drop i=[]:=qB8 (by show y.pr.len<=i; omega);rw[e1,e2,if_pos (show sameL [] []=true from rfl)];simp (maxSteps:=9999999) +contextual only[exa,rA,rB,rC,rD,rE,rF,rG,rH,rI,exT,exE,g7,g8,g71,g81,h1]
 ·have h1:(i:Int)<(x.pr.len:Int):=by omega
  obtain⟨u,hu,du,mu⟩:=qBN (l:=x.pr.list) (i:=i) hi;obtain⟨v,hv,dv,mv⟩:=qBN (l:=y.pr.list) (i:=i) (by show i<y.pr.len; omega);rw[du,dv,sameL];have cc:=λ{β:Type} {k:TVal->Heap->Option β} {h:Heap} {d:Nat}=>r17 (k:=k) (h:=h) (d:=d) (sx u mu) (sy v mv)
  cases hs:sameT u v
  ·simp (maxSteps:=9999999) +contextual only[exa,rA,rB,rC,rD,rE,rF,rG,rH,rI,exT,exE,g7,g8,g71,g81,h1,hu,hv,cc,hs,oneOf];rfl
  ·simp (maxSteps:=9999999) +contextual only[exa,rA,rB,rC,rD,rE,rF,rG,rH,rI,exT,exE,g7,g8,g71,g81,h1,hu,hv,cc,hs,qBq i (by omega)];exact ihl
theorem qQQ(a b:SC)(sa:smSC a)(sb:smSC b)(hab:a.gs.len=b.gs.len)(m1 m2 m3 m4 n1 n2 n3 n4:PVal):∀ (m i:Nat) (h:Heap),i+m=a.gs.len ->
  h.get (.own 2 1)=some (.cells [.p m1,.p m2,.p m3,.p m4,.p (slP 5 (λp=>eRow p.1 p.2) a.ts),.p (slP 6 gRow a.gs)] 0)->h.get (.own 3 1)=some (.cells [.p n1,.p n2,.p n3,.p n4,.p (slP 5 (λp=>eRow p.1 p.2) b.ts),.p (slP 6 gRow b.gs)] 0) ->
  lim tab.get S 23 0 3 [s2P,s3P,kI (i:Int)] h=some (kB (sameB sameG1 (a.gs.list.drop i) (b.gs.list.drop i)),[])
 |0,i,h,hi,g2,g3=>by
  have h1:¬ (i:Int)<(a.gs.len:Int):=by omega
  have e1:a.gs.list.drop i=[]:=qB8 (by show a.gs.len<=i; omega);have e2:b.gs.list.drop i=[]:=qB8 (by show b.gs.len<=i; omega);rw[e1,e2,w23_3,b23_3];simp (maxSteps:=9999999) +contextual only[exa,rA,rB,rC,rD,rE,rF,rG,rH,rI,exT,exE,g2,g3,h1,oneOf,sameB]
 |m+1,i,h,hi,g2,g3=>by
  have hl:=sa.gs;have h1:(i:Int)<(a.gs.len:Int):=by omega
  obtain⟨x,hx,dx,mx⟩:=qBN (l:=a.gs.list) (i:=i) (by show i<a.gs.len; omega);obtain⟨y,hy,dy,my⟩:=qBN (l:=b.gs.list) (i:=i) (by show i<b.gs.len; omega);obtain⟨x1,x2,x3⟩:=sa.ga x mx;obtain⟨y1,y2,y3⟩:=sb.ga y my;have cc:=λ{β:Type} {k:TVal->Heap->Option β} {h:Heap} {d:Nat}=>r17 (k:=k) (h:=h) (d:=d) x3 y3
  have PX:∀ a b c d e f:Cell,put1 [a,b,c,d,e,f] 0 (pcells (gRow x))=pcells (gRow x):=λ_ _ _ _ _ _=>qBA _ _ (by rw[qAN,qAm]; rfl)
  have PY:∀ a b c d e f:Cell,put1 [a,b,c,d,e,f] 0 (pcells (gRow y))=pcells (gRow y):=λ_ _ _ _ _ _=>qBA _ _ (by rw[qAN,qAm]; rfl)
  have LX:(pcells (gRow x)).length=6:=by rw[qAN,qAm]
  have LY:(pcells (gRow y)).length=6:=by rw[qAN,qAm]
  have r00:(pcells (gRow x))[0]?=some (.p (.str x.nm)):=rfl;have r10:(pcells (gRow y))[0]?=some (.p (.str y.nm)):=rfl;have r01:(pcells (gRow x))[1]?=some (.p (slP 4 TT.row x.pr)):=rfl;have r11:(pcells (gRow y))[1]?=some (.p (slP 4 TT.row y.pr)):=rfl;have r02:((pcells (gRow x)).drop 2).take 4=pcells x.rs.row:=by
   show(pcells x.rs.row).take 4=_;exact List.take_of_length_le (by rw[qAN,TT.row_len]; omega)
  have r12:((pcells (gRow y)).drop 2).take 4=pcells y.rs.row:=by
   show(pcells y.rs.row).take 4=_;exact List.take_of_length_le (by rw[qAN,TT.row_len]; omega)
  have l02:(pcells x.rs.row).length=4:=by rw[qAN,TT.row_len]
  have l12:(pcells y.rs.row).length=4:=by rw[qAN,TT.row_len]
  generalize hz:([.p (.str []),.p .nilslice,.p (.int .i64 0),.p (.str []),.p .nilslice,.p .nilslice]:List Cell)=z;have lz:z.length=6:=by rw[<- hz]; rfl
  have PX:put1 z 0 (pcells (gRow x))=pcells (gRow x):=by rw[<- hz]; exact PX _ _ _ _ _ _
  have PY:put1 z 0 (pcells (gRow y))=pcells (gRow y):=by rw[<- hz]; exact PY _ _ _ _ _ _
  obtain⟨u7,hu7⟩:∃ u,u=h.gen 7+1:=⟨_,rfl⟩;obtain⟨h1',e1⟩:∃ h',h'=h.own 7 u7 (.cells z 0):=⟨_,rfl⟩;obtain⟨u8,hu8⟩:∃ u,u=h.gen 8+1:=⟨_,rfl⟩;obtain⟨h2',e2⟩:∃ h',h'=h1'.own 8 u8 (.cells z 0):=⟨_,rfl⟩;have k1:∀ d g o,d≠7->h.get (.own d g)=some o->h1'.get (.own d g)=some o:=λd g o hd ho=>by rw[e1,Heap.own_get_ne _ _ _ _ _ _ (Ne.symm hd),ho]
  have k2:∀ d g o,d≠8->h1'.get (.own d g)=some o->h2'.get (.own d g)=some o:=λd g o hd ho=>by rw[e2,Heap.own_get_ne _ _ _ _ _ _ (Ne.symm hd),ho]
  have a7:h2'.get (.own 7 u7)=some (.cells z 0):=k2 _ _ _ (by decide) (by rw[e1]; exact Heap.own_get _ _ _ _ (by omega) (λe=>by cases e));have a8:h2'.get (.own 8 u8)=some (.cells z 0):=by rw[e2]; exact Heap.own_get _ _ _ _ (by omega) (λe=>by cases e)
  obtain⟨h3',e3⟩:∃ h',h'=h2'.own 7 u7 (.cells (pcells (gRow x)) 0):=⟨_,rfl⟩;have b8:h3'.get (.own 8 u8)=some (.cells z 0):=by rw[e3,Heap.own_get_ne _ _ _ _ _ _ (by decide)]; exact a8
  have b7:h3'.get (.own 7 u7)=some (.cells (pcells (gRow x)) 0):=by rw[e3]; exact Heap.own_get _ _ _ _ (by omega) (λe=>by cases e)
  obtain⟨h4',e4⟩:∃ h',h'=h3'.own 8 u8 (.cells (pcells (gRow y)) 0):=⟨_,rfl⟩;have c7:h4'.get (.own 7 u7)=some (.cells (pcells (gRow x)) 0):=by rw[e4,Heap.own_get_ne _ _ _ _ _ _ (by decide)]; exact b7
  have c8:h4'.get (.own 8 u8)=some (.cells (pcells (gRow y)) 0):=by rw[e4]; exact Heap.own_get _ _ _ _ (by omega) (λe=>by cases e)
  have kk:∀ d o,d≠7->d≠8->h.get (.own d 1)=some o->h4'.get (.own d 1)=some o:=λd o h7 h8 ho=>by
   rw[e4,Heap.own_get_ne _ _ _ _ _ _ (Ne.symm h8),e3,Heap.own_get_ne _ _ _ _ _ _ (Ne.symm h7)];exact k2 _ _ _ h8 (k1 _ _ _ h7 ho)
  have d2:=kk 2 _ (by decide) (by decide) g2;have d3:=kk 3 _ (by decide) (by decide) g3;have ih:=qQQ a b sa sb hab m1 m2 m3 m4 n1 n2 n3 n4 m (i+1) h4' (by omega) d2 d3;have pm:=λhxy=>qTH x y x1 hxy x2 y2 i u7 u8 h4' c7 c8 0
  rw[List.drop_zero,List.drop_zero] at pm;have p5:lim tab.get S 23 0 5 [s2P,s3P,kI (i:Int)] h4'=lim tab.get S 23 0 3 [s2P,s3P,kI ((i+1:Nat):Int)] h4':=by
   rw[w23_5,b23_5];simp (maxSteps:=9999999) +contextual only[exa,rA,rB,rC,rD,rE,rF,rG,rH,rI,qBq i (by omega)]
  have A1:AI.Touch.apart ⟨[(Ref.own 2 1).site],[],false⟩ ⟨[],[.own 7],false⟩=true:=rfl;have A2:AI.Touch.apart ⟨[(Ref.own 3 1).site],[],false⟩ ⟨[],[.own 7],false⟩=true:=rfl;have A3:AI.Touch.apart ⟨[(Ref.own 2 1).site],[],false⟩ ⟨[],[.own 8],false⟩=true:=rfl;have A4:AI.Touch.apart ⟨[(Ref.own 3 1).site],[],false⟩ ⟨[],[.own 8],false⟩=true:=rfl;have A5:AI.Touch.apart ⟨[],[.own 7],false⟩ ⟨[],[.own 8],false⟩=true:=rfl;have A6:AI.Touch.apart ⟨[(Ref.own 3 1).site],[],false⟩ ⟨[(Ref.own 7 u7).site],[(Ref.own 7 u7).site],false⟩=true:=rfl;have A0:∀ {β:Type}(x y:Option β),(bif (true&&(true&&(true&&(true&&(true&&true))))) then x else y)=x:=λ_ _=>rfl
  rw[dx,dy,sameB,w23_3,b23_3];by_cases q1:x.nm=y.nm
  ·by_cases q2:(x.pr.len:Int)=(y.pr.len:Int)
   ·have pm:=pm (by omega);cases q3:sameT x.rs y.rs
    ·have e9:sameG1 x y=false:=by unfold sameG1; rw[q3,Bool.and_false]
     rw[e9,Bool.false_and];simp (maxSteps:=9999999) +contextual only[exa,rA,rB,rC,rD,rE,rF,rG,rH,rI,exT,exE,exY,qE8,qAv,hz,<- hu7,<- e1,<- hu8,<- e2,a7,a8,<- e3,b8,<- e4,c7,c8,g2,g3,h1,hx,hy,lz,PX,PY,LX,LY,r00,r10,r01,r11,r02,r12,l02,l12,A0,A1,A2,A3,A4,A5,A6,q1,q2,q3,cc,Nat.le_refl,Nat.zero_add,oneOf]
    ·have e9:sameG1 x y=sameL x.pr.list y.pr.list:=by unfold sameG1; rw[q3,Bool.and_true,decide_eq_true q1,Bool.true_and]
     rw[e9];simp (maxSteps:=9999999) +contextual only[exa,rA,rB,rC,rD,rE,rF,rG,rH,rI,exT,exE,exY,qE8,qAv,hz,<- hu7,<- e1,<- hu8,<- e2,a7,a8,<- e3,b8,<- e4,c7,c8,g2,g3,h1,hx,hy,lz,PX,PY,LX,LY,r00,r10,r01,r11,r02,r12,l02,l12,A0,A1,A2,A3,A4,A5,A6,q1,q2,q3,cc,Nat.le_refl,Nat.zero_add,oneOf];refine pm.trans ?_;cases hs:sameL x.pr.list y.pr.list
     ·rw[if_neg (by decide),Bool.false_and]
     ·rw[if_pos rfl,Bool.true_and,p5];exact ih
   ·have e9:sameG1 x y=false:=by
     unfold sameG1;rw[qEs _ _ (λe=>q2 (by show((x.pr.list.length:Nat):Int)=_; rw[e]; rfl)),Bool.and_false,Bool.false_and]
    rw[e9,Bool.false_and];simp (maxSteps:=9999999) +contextual only[exa,rA,rB,rC,rD,rE,rF,rG,rH,rI,exT,exE,exY,qE8,qAv,hz,<- hu7,<- e1,<- hu8,<- e2,a7,a8,<- e3,b8,<- e4,c7,c8,g2,g3,h1,hx,hy,lz,PX,PY,LX,LY,r00,r10,r01,r11,r02,r12,l02,l12,A0,A1,A2,A3,A4,A5,A6,q1,q2,cc,Nat.le_refl,Nat.zero_add,oneOf]
  ·have e9:sameG1 x y=false:=by unfold sameG1; rw[decide_eq_false q1,Bool.false_and,Bool.false_and]
   rw[e9,Bool.false_and];simp (maxSteps:=9999999) +contextual only[exa,rA,rB,rC,rD,rE,rF,rG,rH,rI,exT,exE,exY,qE8,qAv,hz,<- hu7,<- e1,<- hu8,<- e2,a7,a8,<- e3,b8,<- e4,c7,c8,g2,g3,h1,hx,hy,lz,PX,PY,LX,LY,r00,r10,r01,r11,r02,r12,l02,l12,A0,A1,A2,A3,A4,A5,A6,q1,cc,Nat.le_refl,Nat.zero_add,oneOf]
theorem qPK(a b:SC)(sa:smSC a)(sb:smSC b):Om 23 [kA a.row,kA b.row] []=some (kB (sameSC a b),[]):=by
 refine(qAD rfl).trans ?_;show lim tab.get S 23 0 0 [kA a.row,kA b.row] h0=_;obtain⟨m1,m2,m3,m4,hm⟩:=qAY a.main;obtain⟨n1,n2,n3,n4,hn⟩:=qAY b.main;have cc:CAL 17 [.v (.agg [.p m1,.p m2,.p m3,.p m4]),.v (.agg [.p n1,.p n2,.p n3,.p n4])] (kB (sameT a.main b.main)):=λ{β k h d}=>by
  have:=r17 (k:=k) (h:=h) (d:=d) sa.main sb.main;rw[hm,hn] at this;exact this
 have ra:kA a.row = .v (.agg [.p m1,.p m2,.p m3,.p m4,.p (slP 5 (λp=>eRow p.1 p.2) a.ts),.p (slP 6 gRow a.gs)]):=by unfold SC.row; rw[hm]; rfl
 have rb:kA b.row = .v (.agg [.p n1,.p n2,.p n3,.p n4,.p (slP 5 (λp=>eRow p.1 p.2) b.ts),.p (slP 6 gRow b.gs)]):=by unfold SC.row; rw[hn]; rfl
 rw[ra,rb];have HT:=λhab=>qTw a b sa sb hab m1 m2 m3 m4 n1 n2 n3 n4 ((h0.own 2 1 (.cells [.p m1,.p m2,.p m3,.p m4,.p (slP 5 (λp=>eRow p.1 p.2) a.ts),.p (slP 6 gRow a.gs)] 0)).own 3 1 (.cells [.p n1,.p n2,.p n3,.p n4,.p (slP 5 (λp=>eRow p.1 p.2) b.ts),.p (slP 6 gRow b.gs)] 0)) rfl rfl 0
 have HG:=λhab=>qQQ a b sa sb hab m1 m2 m3 m4 n1 n2 n3 n4 a.gs.len 0 ((h0.own 2 1 (.cells [.p m1,.p m2,.p m3,.p m4,.p (slP 5 (λp=>eRow p.1 p.2) a.ts),.p (slP 6 gRow a.gs)] 0)).own 3 1 (.cells [.p n1,.p n2,.p n3,.p n4,.p (slP 5 (λp=>eRow p.1 p.2) b.ts),.p (slP 6 gRow b.gs)] 0)) (by omega) rfl rfl
 rw[List.drop_zero,List.drop_zero] at HT HG;rw[w23_0,b23_0];unfold sameSC;cases q1:sameT a.main b.main
 ·simp (maxSteps:=9999999) +contextual only[exa,rA,rB,rC,rD,rE,rF,rG,rH,rI,exT,exE,exY,cc,q1,oneOf,Bool.false_and]
 ·by_cases q2:(a.ts.len:Int)=(b.ts.len:Int)
  ·by_cases q3:(a.gs.len:Int)=(b.gs.len:Int)
   ·have HT:=HT (by omega);have HG:=HG (by omega);rw[Bool.true_and];have:lim tab.get S 23 0 1 [s2P,s3P,kI 0] ((h0.own 2 1 (.cells [.p m1,.p m2,.p m3,.p m4,.p (slP 5 (λp=>eRow p.1 p.2) a.ts),.p (slP 6 gRow a.gs)] 0)).own 3 1 (.cells [.p n1,.p n2,.p n3,.p n4,.p (slP 5 (λp=>eRow p.1 p.2) b.ts),.p (slP 6 gRow b.gs)] 0))=some (kB (sameB sameN1 a.ts.list b.ts.list&&sameB sameG1 a.gs.list b.gs.list),[]):=by
     refine HT.trans ?_;cases hs:sameB sameN1 a.ts.list b.ts.list
     ·rw[if_neg (by decide),Bool.false_and]
     ·rw[if_pos rfl,Bool.true_and]; exact HG
    rw[<- this];simp (maxSteps:=9999999) +contextual only[exa,rA,rB,rC,rD,rE,rF,rG,rH,rI,exT,exE,exY,cc,q1,q2,q3]
   ·rw[qEy sameG1 a.gs.list b.gs.list (λe=>q3 (by show((a.gs.list.length:Nat):Int)=_; rw[e]; rfl)),Bool.and_false];simp (maxSteps:=9999999) +contextual only[exa,rA,rB,rC,rD,rE,rF,rG,rH,rI,exT,exE,exY,cc,q1,q2,q3,oneOf]
  ·rw[qEy sameN1 a.ts.list b.ts.list (λe=>q2 (by show((a.ts.list.length:Nat):Int)=_; rw[e]; rfl)),Bool.and_false,Bool.false_and];simp (maxSteps:=9999999) +contextual only[exa,rA,rB,rC,rD,rE,rF,rG,rH,rI,exT,exE,exY,cc,q1,q2,oneOf]
open Go Go.AI
def nmS:List (List UInt8):=[[97],[98],[99],[110,97,109,101],[110],[73,110,116],[116,121,112,101],[117]]
def WT:Nat->TT->Prop
 |0,_=>False
 |n+1,t=>t.name.length<=3/\(((t.kind=1\/t.kind=2\/t.kind=3)/\t.name=[]/\t.names.list=[]/\t.kids.list=[])\/(t.kind=9/\(t.name=[65]\/t.name=[66,101,101])/\t.names.list=[]/\t.kids.list=[]) \/
   ((t.kind=4\/t.kind=5\/t.kind=6)/\t.name=[]/\t.names.list=[]/\∃ x,t.kids.list=[x]/\WT n x) \/
   ((t.kind=7\/t.kind=8)/\t.name=[]/\t.names.list.length=t.kids.list.length/\t.names.list.length<=4/\(∀ m∈t.names.list,m∈nmS)/\∀ x∈t.kids.list,WT n x))
open Go Go.AI
structure RecI (n:Nat) (k:Int) (i:Nat) (t:TT):Prop where
 kd:t.kind=k
 nm:t.name=[]
 eq:t.names.list.length=t.kids.list.length
 le:t.names.list.length<=i
 ns:∀ m∈t.names.list,m∈nmS
 ks:∀ x∈t.kids.list,WT n x
theorem RecI.put{n:Nat}{k:Int}{i:Nat}{t x:TT}{key:List UInt8}(H:RecI n k i t)(hx:WT n x)(hk:key∈nmS):RecI n k (i+1) (putM t key x):=by
 obtain⟨h1,h2,h3,h4,h5,h6⟩:=H;unfold putM;split
 ·exact⟨h1,h2,h3,by omega,h5,h6⟩
 ·have hm:=qJe key t.names.list;generalize leadM key t.names.list=m at hm;have e1:(t.names.list.take m++[key]++t.names.list.drop m).length=t.names.list.length+1:=by simp; omega
  have e2:(t.kids.list.take m++[x]++t.kids.list.drop m).length=t.kids.list.length+1:=by simp; omega
  refine⟨h1,h2,?_,?_,?_,?_⟩
  ·show(t.names.list.take m++[key]++t.names.list.drop m).length=(t.kids.list.take m++[x]++t.kids.list.drop m).length;omega
  ·show(t.names.list.take m++[key]++t.names.list.drop m).length<=i+1;omega
  ·intro y hy;have hy:y∈t.names.list.take m++[key]++t.names.list.drop m:=hy;simp only[List.mem_append,List.mem_singleton] at hy
   rcases hy with (hy|rfl)|hy
   ·exact h5 y (List.mem_of_mem_take hy)
   ·exact hk
   ·exact h5 y (List.mem_of_mem_drop hy)
  ·intro y hy;have hy:y∈t.kids.list.take m++[x]++t.kids.list.drop m:=hy;simp only[List.mem_append,List.mem_singleton] at hy
   rcases hy with (hy|rfl)|hy
   ·exact h6 y (List.mem_of_mem_take hy)
   ·exact hx
   ·exact h6 y (List.mem_of_mem_drop hy)
theorem Rd.of{p r:List UInt8}{k:Int}{x:List UInt8}{n:Int}(c:UInt8)(q:List UInt8)(hp:p=c::q)(hc:isBlank c.toNat=false)(ho:oneM (p++32::r)=⟨⟨k,x,n,0⟩,(p.length:Nat),0⟩):Rd (p++32::r) [(k,x)] (32::r):=by
 subst hp;refine⟨by simp; omega,λf i acc=>⟨[⟨k,x,n,(i:Int)⟩],i+(c::q).length,rfl,?_⟩⟩;have hk:runLen isBlank (c::(q++32::r))=0:=by simp[runLen,hc]
 rw[List.cons_append] at ho ⊢;show toksGo (f+1) _ _ _=_;rw[toksGo];simp only[hk,List.drop_zero];simp only[ho,Nat.add_zero,if_true,Int.toNat_natCast];rw[show(c::(q++32::r))=(c::q)++32::r from rfl,List.drop_left'];rfl
section
variable {n:Nat} {L:List Tok} {sub:RS->TT×RS} {ok:RS->Prop}
end
theorem qBy:∀ (n:Nat) (t:TT),SizeOf.sizeOf t<n->sameT t t=true
 |0,t,h=>by omega
 |n+1,t,h=>by
  have L:∀ l:List TT,(∀ x∈l,SizeOf.sizeOf x<n)->sameL l l=true:=by
   intro l
   induction l with
   |nil=>intro _; rfl
   |cons x l ih =>
    intro hh;rw[sameL,qBy n x (hh x (List.mem_cons_self ..)),ih (λy hy=>hh y (List.mem_cons_of_mem _ hy))];rfl
  rw[qIk,L t.kids.list (λx hx=>by have:=TT.mem_size hx; omega)];simp
theorem z4u(t:TT):put1 z4 0 (pcells t.row)=pcells t.row:=qR2 _ (TT.row_len t)
theorem v16{β:Type}{k:TVal->Heap->Option β}{h:Heap}{d:Nat}{s:List UInt8}(ok:typeOK s):vcall Om (.v (.c (.func 16 []))) [kS s] h d k=k (.tup [.agg (pcells (typeM s).row),.c (.p (.int .i64 (typeE s)))]) h:=qAH 16 _ _ (by simp only[exP]) (qTK s ok) (by simp only[exP])
def mixI:Option (List Int)->Sl Int
 |none => .nil
 |some l => .mk false l
theorem qQp(o:Option (List Int)):intsP .i64 o=slP 1 iRow (mixI o):=by cases o <;> rfl
end Go.Proofs.YtnlmlcfipbnpgaaDoor.Ab
