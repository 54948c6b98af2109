/- THE STATEMENT 'SchSchemas': whatever the input,the law returns true,and the input reads as it did. Conditions: none but the row's own (the listed variables read as listed,which the card ties to the text). -/
import Derived.Test.YtnlmlcfipbnpgaaGreatDoorCards
import Derived.Test.YtnlmlcfipbnpgaaGreatDoorG3
import Derived.Test.YtnlmlcfipbnpgaaGreatDoorTie
import Derived.Test.YtnlmlcfipbnpgaaGreatDoorShelf
import Derived.ProofKit
import Derived.OpenShut
import Derived.LaidLaws
import Derived.Handed
import Derived.JoinedOf
import Derived.Carry
set_option linter.unusedVariables false
set_option maxRecDepth 100000
namespace Go.Proofs.YtnlmlcfipbnpgaaGreatDoor.SchSchemas
open Go Go.AI Go.ChangeShapes Go.WideShapes Go.ChangeAt Go.RowKit Go.ChangeMaps
theorem own:ownKnob Tryz.prog.godebug=none:=bT
theorem mixed:Tryz.prog.follows .mixedOrders=true:=bT
theorem handed{H:Type}{enc:TypeId×Value->H}{a:Assume}{C:Checked}{os:Os}{f:FuncId}{fn:Func}{s:ChangeSpec}{conds:List PathCond}{apart fresh handsOn again:Bool}{X:World->Array Value->Prop}
    (hX:∀ (w w':World) (args:Array Value),w.heap=w'.heap->X w args->X w' args)
    (own:ownKnob C.prog.godebug=none) (started:os.Started) (OP:C.prog.inits.idxOf? f=none) (hfn:C.prog.funcs[f]?=some fn)
    (witness:∃ (w:World) (tape:Tape) (i:Input),w.os=os/\(w.forCall tape i).Shaped C.prog/\i.vars=[]/\Input.okWide C.prog (w.forCall tape i) .any w.heap.size f i /\
      ((s.pre enc C.prog fn conds apart (w.forCall tape i).memory i.args/\X (w.forCall tape i).memory i.args)/\sizedMet enc C.prog fn (OpenSpec.ofChange s) apart (w.forCall tape i).memory i.args)/\a.holds C.prog (lone (Frame.enter C.prog f i.args .normal) [] (w.forCall tape i)))
    (contract:∀ (W:World) (base:Nat) (args:Array Value) (ds gs:List (DataW H)) (before:List MemPlace),
      (∀ (j:Nat) t v,fn.params[j]?=some t->args[j]?=some v->Value.okWide C.prog W .any base t v) ->
      DataW.Whole enc C.prog fn.params.toList s.vars apart W args.toList ds gs before ->
      conds.all (PathCond.test C.prog ⟨fn.params.toList,ds,s.plain.varTypes C.prog,gs⟩)=true->X W args->W.ShapedOpen C.prog ->
      (DataW.weightsEach C.prog (fn.params.toList++s.plain.varTypes C.prog) (ds++gs)).all (·<=reachBytes)=true ->
      Calls C.prog f args W λe W'=>∃ v,e = .returned v/\s.post enc C.prog fn apart fresh handsOn again W args v W') :
    ReturnsInHanded a C os f .any (λw args=>(s.pre enc C.prog fn conds apart w args/\X w args)/\sizedMet enc C.prog fn (OpenSpec.ofChange s) apart w args) (s.post enc C.prog fn apart fresh handsOn again):=by
  refine returnsInHanded_of_calls own started OP witness ?_;intro w tape i _ hsh _ hok qa0 qa6;obtain⟨_,_,_,fn',qa7,_,_,_,_,yE⟩:=hok;have e:fn'=fn:=kr (qa7.symm.trans hfn);subst e;obtain⟨⟨⟨ds,gs,before,hw,hc⟩,hx⟩,hz⟩:=qa0;have hw':=DataW.Whole.of_heap (w':=w.forCall tape i) (by rfl) hw;refine(contract (w.forCall tape i) w.heap.size i.args ds gs before yE hw' hc (hX _ _ _ (by rfl) hx) hsh (hz.weights hw)).mono λe W' ⟨v,he,hp⟩ => ?_
  subst he;exact ChangeSpec.post_blind hp
theorem GY:∀ t∈Ab.th,xX Tryz.prog Rows.schSchemasRow.laid t:=by
  intro t ht;simp only[Ab.th,dK,lL,lK] at ht
  rcases ht with rfl
  . have e:(Rows.laid_strings_asciiSpace:DataW Unit) = .agg (([0,0,0,0,0,0,0,0,0,1,1,1,1,1,0,0,0,0,0,0,0,0,0,0,0,0,0,0,0,0,0,0,1,0,0,0,0,0,0,0,0,0,0,0,0,0,0,0,0,0,0,0,0,0,0,0,0,0,0,0,0,0,0,0,0,0,0,0,0,0,0,0,0,0,0,0,0,0,0,0,0,0,0,0,0,0,0,0,0,0,0,0,0,0,0,0,0,0,0,0,0,0,0,0,0,0,0,0,0,0,0,0,0,0,0,0,0,0,0,0,0,0,0,0,0,0,0,0,0,0,0,0,0,0,0,0,0,0,0,0,0,0,0,0,0,0,0,0,0,0,0,0,0,0,0,0,0,0,0,0,0,0,0,0,0,0,0,0,0,0,0,0,0,0,0,0,0,0,0,0,0,0,0,0,0,0,0,0,0,0,0,0,0,0,0,0,0,0,0,0,0,0,0,0,0,0,0,0,0,0,0,0,0,0,0,0,0,0,0,0,0,0,0,0,0,0,0,0,0,0,0,0,0,0,0,0,0,0,0,0,0,0,0,0,0,0,0,0,0,0,0,0,0,0,0,0]:List Int).map λv => .lit (.int .u8 v)):=bT
    have m:(("strings.asciiSpace" : String),(Rows.laid_strings_asciiSpace:DataW Unit))∈Rows.schSchemasRow.laid := .tail _ (.head _)
    exact⟨(dh (λd=>(("strings.asciiSpace" : String),d)∈Rows.schSchemasRow.laid) e).mp m,bT,394,5,256,bT,Tryz.underlying394,Tryz.underlying5,bT⟩
theorem laidOut:laidOutB Tryz.prog=true:=bT
def tsT:List TypeId:=[3,4,9,22,23,25]
theorem zw:uk Tryz.prog tsT=true:=bT
theorem zC:∀ (n:Nat) (row:List bL),j9 Tryz.prog n 25 row->∃ r:RW,row=r.row/\True:=qW0 Tryz.underlying25 rfl Tryz.underlying3 Tryz.underlying3 Tryz.underlying22 Tryz.underlying3 bT Tryz.underlying23 bT
noncomputable def low:Nat:=(World.settled Tryz.prog default).heap.size
noncomputable def RC:Array Value:=#[.pointer (some ⟨low+1,0,none⟩)]
noncomputable def RB:Array Value:=#[.int .u8 0,.int .u8 0,.int .u8 0,.int .u8 0,.int .u8 0,.int .u8 0,.int .u8 0,.int .u8 0,.int .u8 0,.int .u8 1,.int .u8 1,.int .u8 1,.int .u8 1,.int .u8 1,.int .u8 0,.int .u8 0,.int .u8 0,.int .u8 0,.int .u8 0,.int .u8 0,.int .u8 0,.int .u8 0,.int .u8 0,.int .u8 0,.int .u8 0,.int .u8 0,.int .u8 0,.int .u8 0,.int .u8 0,.int .u8 0,.int .u8 0,.int .u8 0,.int .u8 1,.int .u8 0,.int .u8 0,.int .u8 0,.int .u8 0,.int .u8 0,.int .u8 0,.int .u8 0,.int .u8 0,.int .u8 0,.int .u8 0,.int .u8 0,.int .u8 0,.int .u8 0,.int .u8 0,.int .u8 0,.int .u8 0,.int .u8 0,.int .u8 0,.int .u8 0,.int .u8 0,.int .u8 0,.int .u8 0,.int .u8 0,.int .u8 0,.int .u8 0,.int .u8 0,.int .u8 0,.int .u8 0,.int .u8 0,.int .u8 0,.int .u8 0,.int .u8 0,.int .u8 0,.int .u8 0,.int .u8 0,.int .u8 0,.int .u8 0,.int .u8 0,.int .u8 0,.int .u8 0,.int .u8 0,.int .u8 0,.int .u8 0,.int .u8 0,.int .u8 0,.int .u8 0,.int .u8 0,.int .u8 0,.int .u8 0,.int .u8 0,.int .u8 0,.int .u8 0,.int .u8 0,.int .u8 0,.int .u8 0,.int .u8 0,.int .u8 0,.int .u8 0,.int .u8 0,.int .u8 0,.int .u8 0,.int .u8 0,.int .u8 0,.int .u8 0,.int .u8 0,.int .u8 0,.int .u8 0,.int .u8 0,.int .u8 0,.int .u8 0,.int .u8 0,.int .u8 0,.int .u8 0,.int .u8 0,.int .u8 0,.int .u8 0,.int .u8 0,.int .u8 0,.int .u8 0,.int .u8 0,.int .u8 0,.int .u8 0,.int .u8 0,.int .u8 0,.int .u8 0,.int .u8 0,.int .u8 0,.int .u8 0,.int .u8 0,.int .u8 0,.int .u8 0,.int .u8 0,.int .u8 0,.int .u8 0,.int .u8 0,.int .u8 0,.int .u8 0,.int .u8 0,.int .u8 0,.int .u8 0,.int .u8 0,.int .u8 0,.int .u8 0,.int .u8 0,.int .u8 0,.int .u8 0,.int .u8 0,.int .u8 0,.int .u8 0,.int .u8 0,.int .u8 0,.int .u8 0,.int .u8 0,.int .u8 0,.int .u8 0,.int .u8 0,.int .u8 0,.int .u8 0,.int .u8 0,.int .u8 0,.int .u8 0,.int .u8 0,.int .u8 0,.int .u8 0,.int .u8 0,.int .u8 0,.int .u8 0,.int .u8 0,.int .u8 0,.int .u8 0,.int .u8 0,.int .u8 0,.int .u8 0,.int .u8 0,.int .u8 0,.int .u8 0,.int .u8 0,.int .u8 0,.int .u8 0,.int .u8 0,.int .u8 0,.int .u8 0,.int .u8 0,.int .u8 0,.int .u8 0,.int .u8 0,.int .u8 0,.int .u8 0,.int .u8 0,.int .u8 0,.int .u8 0,.int .u8 0,.int .u8 0,.int .u8 0,.int .u8 0,.int .u8 0,.int .u8 0,.int .u8 0,.int .u8 0,.int .u8 0,.int .u8 0,.int .u8 0,.int .u8 0,.int .u8 0,.int .u8 0,.int .u8 0,.int .u8 0,.int .u8 0,.int .u8 0,.int .u8 0,.int .u8 0,.int .u8 0,.int .u8 0,.int .u8 0,.int .u8 0,.int .u8 0,.int .u8 0,.int .u8 0,.int .u8 0,.int .u8 0,.int .u8 0,.int .u8 0,.int .u8 0,.int .u8 0,.int .u8 0,.int .u8 0,.int .u8 0,.int .u8 0,.int .u8 0,.int .u8 0,.int .u8 0,.int .u8 0,.int .u8 0,.int .u8 0,.int .u8 0,.int .u8 0,.int .u8 0,.int .u8 0,.int .u8 0,.int .u8 0,.int .u8 0,.int .u8 0,.int .u8 0,.int .u8 0,.int .u8 0,.int .u8 0,.int .u8 0,.int .u8 0,.int .u8 0,.int .u8 0,.int .u8 0,.int .u8 0,.int .u8 0,.int .u8 0,.int .u8 0,.int .u8 0,.int .u8 0,.int .u8 0,.int .u8 0,.int .u8 0,.int .u8 0,.int .u8 0,.int .u8 0]
noncomputable def wh(os:Os):World:={ (World.holding Tryz.prog os ⟨#[.cells #[.int .u16 9,.int .u16 13,.int .u16 1,.int .u16 32,.int .u16 133,.int .u16 101,.int .u16 160,.int .u16 5760,.int .u16 5600,.int .u16 8192,.int .u16 8202,.int .u16 1,.int .u16 8232,.int .u16 8233,.int .u16 1,.int .u16 8239,.int .u16 8287,.int .u16 48,.int .u16 12288,.int .u16 12288,.int .u16 1] 412,.cells #[.slice (some ⟨low+0,0,none⟩) 7 7,.slice none 0 0,.int .i64 2] 410],#[],[]⟩) with heap:=(((World.holding Tryz.prog os ⟨#[.cells #[.int .u16 9,.int .u16 13,.int .u16 1,.int .u16 32,.int .u16 133,.int .u16 101,.int .u16 160,.int .u16 5760,.int .u16 5600,.int .u16 8192,.int .u16 8202,.int .u16 1,.int .u16 8232,.int .u16 8233,.int .u16 1,.int .u16 8239,.int .u16 8287,.int .u16 48,.int .u16 12288,.int .u16 12288,.int .u16 1] 412,.cells #[.slice (some ⟨low+0,0,none⟩) 7 7,.slice none 0 0,.int .i64 2] 410],#[],[]⟩).heap.modify 3 λ| .cells _ t frozen => .cells RC t frozen|o=>o).modify 2 λ| .cells _ t frozen => .cells RB t frozen|o=>o) }
theorem DS(os:Os)(args:Array Value):laidMet Tryz.prog Rows.schSchemasRow.laid ((wh os).forCall (λ_ _=>0) ⟨#[],args,[]⟩).memory:=laidMet_of_run' 10 bT bT
theorem lifted(os:Os)(started:os.Started)(H:Type)(enc:TypeId×Value->H) :
    ReturnsInHanded {} Tryz.checked os 3 .any (λw args=>(Rows.schSchemasSpec.pre enc Tryz.prog Tryz.f3 [] false w args/\laidMet Tryz.prog Rows.schSchemasRow.laid w)/\sizedMet enc Tryz.prog Tryz.f3 (OpenSpec.ofChange Rows.schSchemasSpec) false w args) (Rows.schSchemasSpec.post enc Tryz.prog Tryz.f3 false true false false):=by
  refine handed (C:=Tryz.checked) (X:=λw _=>laidMet Tryz.prog Rows.schSchemasRow.laid w) (λ_ _ _ hh h=>h.of_heap hh) own started bT Tryz.func3
    (ChangeSpec.witness_shaped (enc:=enc) (C:=Tryz.checked) (os:=os) (X:=λw _=>laidMet Tryz.prog Rows.schSchemasRow.laid w) false (wh os) #[.string ByteArray.empty,.agg #[.int .i64 0,.int .i64 0,.slice none 0 0,.slice none 0 0],.slice none 0 0,.slice none 0 0,.int .i64 0,.slice none 0 0] 8 rfl (World.shaped_of_RefB bT bT) bT bT bT (DS os _)) ?_
  intro W base args ds gs before Kd hW _ hL hsh kJ;have yE:∀ (j:Nat) t v,Tryz.f3.params[j]?=some t->args[j]?=some v->Value.okWide Tryz.prog W .any base t v:=Kd;have VW:=hW;obtain⟨p,q,hA0,hV,rfl,hfz,hnd⟩:=hW;have hA:DataW.TrodAll enc Tryz.prog W 0 (λ_=>true) true Tryz.f3.params.toList args.toList ds p:=hA0;rw[Tryz.params3] at hA yE kJ;obtain⟨m63,qa1⟩:=cell_of_shapedOpen_int (P:=Tryz.prog) (g:=0) (t:=3) (zero:=#[.int .i64 0]) hsh (gL bT) bT rfl bT bT Tryz.underlying3
  letI:Sym:=⟨λi=>match i with|63=>m63|_=>0⟩
  obtain⟨v0,vs0,d0,ds0,p0,q0,qbw,rfl,rfl,h0,r0⟩:=trodAll_cons hA;obtain⟨v1,vs1,d1,ds1,p1,q1,rfl,rfl,rfl,h1,r1⟩:=trodAll_cons r0;obtain⟨v2,vs2,d2,ds2,p2,q2,rfl,rfl,rfl,h2,r2⟩:=trodAll_cons r1;obtain⟨v3,vs3,d3,ds3,p3,q3,rfl,rfl,rfl,h3,r3⟩:=trodAll_cons r2;obtain⟨v4,vs4,d4,ds4,p4,q4,rfl,rfl,rfl,h4,r4⟩:=trodAll_cons r3;obtain⟨v5,vs5,d5,ds5,p5,q5,rfl,rfl,rfl,h5,r5⟩:=trodAll_cons r4;obtain⟨rfl,rfl,rfl⟩:=trodAll_nil r5;obtain rfl:args=#[v0,v1,v2,v3,v4,v5]:=by cases args; simp_all
  obtain⟨rfl,rfl⟩:=trodVars_none hV;have hk0:=h0;obtain⟨a0,rfl,rfl,rfl,w0⟩:=open_string Tryz.underlying9 (yE 0 9 v0 rfl rfl) h0;have hk1:=h1;obtain⟨cs1,n1,Hc,rfl,t1,hT1⟩:=qOg zw Tryz.underlying25 (gL bT) (gL bT) h1;obtain⟨a1,rfl,g1⟩:=zC n1 Hc hT1;have hk2:=h2;obtain⟨sa2,sl2,sc2,rfl⟩:=okWide_slice Tryz.underlying23 (yE 2 23 v2 rfl rfl);obtain⟨n2,N7,x2,rfl,t2,hT2⟩:=qJt zw (t:=23) (gL bT) rfl h2;obtain⟨a2,rfl,m2,g2⟩:=qMR zC Tryz.underlying23 bT n2 x2 hT2;have hk3:=h3;obtain⟨sa3,sl3,sc3,rfl⟩:=okWide_slice Tryz.underlying23 (yE 3 23 v3 rfl rfl);obtain⟨n3,N6,x3,rfl,t3,hT3⟩:=qJt zw (t:=23) (gL bT) rfl h3;obtain⟨a3,rfl,m3,g3⟩:=qMR zC Tryz.underlying23 bT n3 x3 hT3;have hk4:=h4;obtain⟨a4,rfl,rfl,rfl,w4⟩:=open_int Tryz.underlying3 (yE 4 3 v4 rfl rfl) h4;have g4:(-9223372036854775808)<=a4/\a4<=9223372036854775807:=by have h:(decide (IntKind.min .i64<=a4)&&decide (a4<=IntKind.max .i64))=true:=w4; simp only[fj,dF] at h; exact h
  have hk5:=h5;obtain⟨a5,t5,w5,m5,b5⟩:=qLt Tryz.underlying22 Tryz.underlying3 bT (yE 5 22 v5 rfl rfl) h5;have g5:∀ n∈rv a5,(-9223372036854775808)<=n/\n<=9223372036854775807:=λn hn=>by have h:(decide (IntKind.min .i64<=n)&&decide (n<=IntKind.max .i64))=true:=w5 n hn; simp only[fj,dF] at h; exact h
  have b5:(rv a5).length<=140737488351232:=by have h:=b5 (qOL kJ 5 rfl rfl); have e:Tryz.prog.bytesOf 3=8:=bT; rw[e] at h; unfold reachBytes at h; omega
  clear hA0 Kd;have qa5:∀ x∈p1,x.block<W.heap.size:=λx hx=>by simpa using VW.lt x (by simp[hx])
  have qa4:∀ x∈p2,x.block<W.heap.size:=λx hx=>by simpa using VW.lt x (by simp[hx])
  have qa3:∀ x∈p3,x.block<W.heap.size:=λx hx=>by simpa using VW.lt x (by simp[hx])
  have qa2:∀ x∈p5,x.block<W.heap.size:=λx hx=>by simpa using VW.lt x (by simp[hx])
  refine(qRR (M:=#[_,.agg cs1,.slice sa2 sl2 sc2,.slice sa3 sl3 sc3,_,v5]) mixed Ab.N4 (qP1 (qRn (g:=0) bT ⟨Tryz.f264,Tryz.func264,bT,gL bT⟩ λs sub m w h1 h2=>Tryz.stringslite_Index s sub m w h1 h2) (qSa ⟨Tryz.f40,Tryz.func40,bT,gL bT⟩ (λa c sep w=>Tryz.strings_Join_none a c sep w) λbk o c xs sep w h1 h2 h3 h4 h5=>Tryz.strings_Join bk o c xs sep w h1 h2 h3 h4 h5)) (Ab.yn _ a1 a2 a3 a4 a5) (qbh hL GY (λg h=>by cases h; exact qa1)) ⟨cD.p _ _ (.str _ a0 rfl),t1,t2,t3,qPX .i64 a4,t5,bB⟩).mono λe W' ⟨he,hg⟩ => ?_
  subst he;exact⟨_,rfl,qL8 VW (pv:=[]) (λ_ _ _=>(trodAll_cons_mk (shut_bool Tryz.underlying4 _) trodAll_mk0)) (trodAll_cons_mk (shut_string Tryz.underlying9 w0) (trodAll_cons_mk (Below.trod laidOut bT (gL bT) hk1 hg qa5) (trodAll_cons_mk (Below.trod laidOut bT (gL bT) hk2 hg qa4) (trodAll_cons_mk (Below.trod laidOut bT (gL bT) hk3 hg qa3) (trodAll_cons_mk (shut_int Tryz.underlying3 w4) (trodAll_cons_mk (Below.trod laidOut bT (gL bT) hk5 hg qa2) trodAll_mk0)))))) (λ_ _=>rfl) bR hg⟩
theorem rq0:joinedFacts Tryz.checked.prog 3 Tryz.f3 Rows.schSchemasSpec Rows.schSchemasRow=true:=bT
theorem rq1:Tryz.pinned.checked.prog.funcNamed Rows.schSchemasRow.func=some 3:=bT
theorem rq2:Tryz.f3.isWrapper Tryz.pinned.checked.prog Rows.schSchemasRow.wrapper Rows.schSchemasRow.mainSum:=by unfold Func.isWrapper; first|(rw[bF (by decide +kernel)]; kernel_rfl)|(rw[bA (by decide +kernel)]; exact⟨rfl,rfl⟩)
theorem row_holds:Rows.SchSchemasSaid :=
  OpenClaim.holds_of_wide 3 Tryz.f3 rfl rfl rfl rfl rfl rfl rfl ⟨rfl,rfl,rfl,rfl,rfl⟩ rfl rfl rfl rfl rfl rq1 Tryz.func3 rq0
    (gL bT) rq2
    (λos started H enc _=>lifted os started H enc)
theorem wK:(Tryz.f3.params.toList.all λt => !(Tryz.prog.wantsStandIn t))=true:=bT
theorem card_holds:Rows.SchSchemasCardSaid :=
  Claim7.holds_tied_plain_at .later [] [.listed,.data] true (true, "99195fd4f653f6bedb8364a458722edcd78df067f930f0027c27c3caec651db5") false
    row_holds (λ_ h=>by cases h) bT (λ_ h=>by cases h) schSchemas_row_tie rfl ⟨rfl,rfl⟩ bT rfl
    (λf fn hf hfn=>by
      obtain rfl:f=3:=kr ((show Tryz.prog.funcNamed Rows.schSchemasRow.func=some 3 by kernel_rfl).symm.trans hf) |>.symm;obtain rfl:fn=Tryz.f3:=(kr (Tryz.func3.symm.trans hfn)).symm;refine⟨bT,λj t ht => ?_⟩;have h:=lU.1 wK t (mY (by simpa using ht))
      exact(by simpa using h:Tryz.prog.wantsStandIn t=false))
    bT
#print axioms card_holds
end Go.Proofs.YtnlmlcfipbnpgaaGreatDoor.SchSchemas
