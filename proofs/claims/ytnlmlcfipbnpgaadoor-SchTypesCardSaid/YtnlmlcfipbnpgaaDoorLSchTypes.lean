/- The statement 'SchTypes'. Own work. No condition. -/
import Derived.Test.YtnlmlcfipbnpgaaDoorCards
import Derived.Test.YtnlmlcfipbnpgaaDoorG2
import Derived.Test.YtnlmlcfipbnpgaaDoorTie
import Derived.Test.YtnlmlcfipbnpgaaDoorShelf
import Derived.ProofKit
import Derived.OpenShut
import Derived.LaidLaws
import Derived.Handed
import Derived.JoinedOf
import Derived.Carry
set_option linter.unusedVariables false
set_option maxRecDepth 100000
namespace Go.Proofs.YtnlmlcfipbnpgaaDoor.SchTypes
open Go Go.AI Go.ChangeShapes Go.WideShapes Go.ChangeAt Go.RowKit Go.ChangeMaps
theorem own:ownKnob Tryd.prog.godebug=none:=by kernel_rfl
theorem mixed:Tryd.prog.follows .mixedOrders=true:=by kernel_rfl
theorem handed{H:Type}{enc:TypeId×Value->H}{a:Assume}{C:Checked}{os:Os}{f:FuncId}{fn:Func}{s:ChangeSpec}{conds:List PathCond}{apart fresh handsOn again:Bool}{X:World->Array Value->Prop}
    (hX:∀ (w w':World) (args:Array Value),w.heap=w'.heap->X w args->X w' args)
    (own:ownKnob C.prog.godebug=none) (started:os.Started) (noInit:C.prog.inits.idxOf? f=none) (hfn:C.prog.funcs[f]?=some fn)
    (witness:∃ (w:World) (tape:Tape) (i:Input),w.os=os/\(w.forCall tape i).Shaped C.prog/\i.vars=[]/\Input.okWide C.prog (w.forCall tape i) .any w.heap.size f i /\
      ((s.pre enc C.prog fn conds apart (w.forCall tape i).memory i.args/\X (w.forCall tape i).memory i.args)/\sizedMet enc C.prog fn (OpenSpec.ofChange s) apart (w.forCall tape i).memory i.args)/\a.holds C.prog (lone (Frame.enter C.prog f i.args .normal) [] (w.forCall tape i)))
    (contract:∀ (W:World) (base:Nat) (args:Array Value) (ds gs:List (DataW H)) (before:List MemPlace),
      (∀ (j:Nat) t v,fn.params[j]?=some t->args[j]?=some v->Value.okWide C.prog W .any base t v) ->
      DataW.Whole enc C.prog fn.params.toList s.vars apart W args.toList ds gs before ->
      conds.all (PathCond.test C.prog ⟨fn.params.toList,ds,s.plain.varTypes C.prog,gs⟩)=true->X W args->W.ShapedOpen C.prog ->
      (DataW.weightsEach C.prog (fn.params.toList++s.plain.varTypes C.prog) (ds++gs)).all (·<=reachBytes)=true ->
      Calls C.prog f args W λe W'=>∃ v,e = .returned v/\s.post enc C.prog fn apart fresh handsOn again W args v W') :
    ReturnsInHanded a C os f .any (λw args=>(s.pre enc C.prog fn conds apart w args/\X w args)/\sizedMet enc C.prog fn (OpenSpec.ofChange s) apart w args) (s.post enc C.prog fn apart fresh handsOn again):=by
  refine returnsInHanded_of_calls own started noInit witness ?_;intro w tape i _ hsh _ hok hpre hholds;obtain⟨_,_,_,fn',hfn',_,_,_,_,hval⟩:=hok;have e:fn'=fn:=Option.some.inj (hfn'.symm.trans hfn);subst e;obtain⟨⟨⟨ds,gs,before,hw,hc⟩,hx⟩,hz⟩:=hpre;have hw':=DataW.Whole.of_heap (w':=w.forCall tape i) (by rfl) hw;refine(contract (w.forCall tape i) w.heap.size i.args ds gs before hval hw' hc (hX _ _ _ (by rfl) hx) hsh (hz.weights hw)).mono λe W' ⟨v,he,hp⟩ => ?_
  subst he;exact ChangeSpec.post_blind hp
theorem tabs_ok:∀ t∈Ab.tabs,TablOK Tryd.prog Rows.schTypesRow.laid t:=by
  intro t ht;simp only[Ab.tabs,List.mem_cons,List.not_mem_nil,or_false] at ht
  rcases ht with rfl
  . have e:(Rows.laid_strings_asciiSpace:DataW Unit) = .agg (([0,0,0,0,0,0,0,0,0,1,1,1,1,1,0,0,0,0,0,0,0,0,0,0,0,0,0,0,0,0,0,0,1,0,0,0,0,0,0,0,0,0,0,0,0,0,0,0,0,0,0,0,0,0,0,0,0,0,0,0,0,0,0,0,0,0,0,0,0,0,0,0,0,0,0,0,0,0,0,0,0,0,0,0,0,0,0,0,0,0,0,0,0,0,0,0,0,0,0,0,0,0,0,0,0,0,0,0,0,0,0,0,0,0,0,0,0,0,0,0,0,0,0,0,0,0,0,0,0,0,0,0,0,0,0,0,0,0,0,0,0,0,0,0,0,0,0,0,0,0,0,0,0,0,0,0,0,0,0,0,0,0,0,0,0,0,0,0,0,0,0,0,0,0,0,0,0,0,0,0,0,0,0,0,0,0,0,0,0,0,0,0,0,0,0,0,0,0,0,0,0,0,0,0,0,0,0,0,0,0,0,0,0,0,0,0,0,0,0,0,0,0,0,0,0,0,0,0,0,0,0,0,0,0,0,0,0,0,0,0,0,0,0,0,0,0,0,0,0,0,0,0,0,0,0,0]:List Int).map λv => .lit (.int .u8 v)):=by kernel_rfl
    have m:(("strings.asciiSpace" : String),(Rows.laid_strings_asciiSpace:DataW Unit))∈Rows.schTypesRow.laid := .tail _ (.head _)
    exact⟨(congrArg (λd=>(("strings.asciiSpace" : String),d)∈Rows.schTypesRow.laid) e).mp m,by kernel_rfl,214,5,256,by kernel_rfl,Tryd.underlying214,Tryd.underlying5,by kernel_rfl⟩
theorem laidOut:laidOutB Tryd.prog=true:=by kernel_rfl
def tsT:List TypeId:=[3,4,9,22,23,25]
theorem plainT:plainB Tryd.prog tsT=true:=by kernel_rfl
theorem hasT25:∀ (n:Nat) (row:List PVal),HasT Tryd.prog n 25 row->∃ r:RW,row=r.row/\True:=qX6 Tryd.underlying25 rfl Tryd.underlying3 Tryd.underlying3 Tryd.underlying22 Tryd.underlying3 (by kernel_rfl) Tryd.underlying23 (by kernel_rfl)
noncomputable def low:Nat:=(World.settled Tryd.prog default).heap.size
noncomputable def cells0:Array Value:=#[.pointer (some ⟨low+1,0,none⟩)]
noncomputable def cells1:Array Value:=#[.int .u8 0,.int .u8 0,.int .u8 0,.int .u8 0,.int .u8 0,.int .u8 0,.int .u8 0,.int .u8 0,.int .u8 0,.int .u8 1,.int .u8 1,.int .u8 1,.int .u8 1,.int .u8 1,.int .u8 0,.int .u8 0,.int .u8 0,.int .u8 0,.int .u8 0,.int .u8 0,.int .u8 0,.int .u8 0,.int .u8 0,.int .u8 0,.int .u8 0,.int .u8 0,.int .u8 0,.int .u8 0,.int .u8 0,.int .u8 0,.int .u8 0,.int .u8 0,.int .u8 1,.int .u8 0,.int .u8 0,.int .u8 0,.int .u8 0,.int .u8 0,.int .u8 0,.int .u8 0,.int .u8 0,.int .u8 0,.int .u8 0,.int .u8 0,.int .u8 0,.int .u8 0,.int .u8 0,.int .u8 0,.int .u8 0,.int .u8 0,.int .u8 0,.int .u8 0,.int .u8 0,.int .u8 0,.int .u8 0,.int .u8 0,.int .u8 0,.int .u8 0,.int .u8 0,.int .u8 0,.int .u8 0,.int .u8 0,.int .u8 0,.int .u8 0,.int .u8 0,.int .u8 0,.int .u8 0,.int .u8 0,.int .u8 0,.int .u8 0,.int .u8 0,.int .u8 0,.int .u8 0,.int .u8 0,.int .u8 0,.int .u8 0,.int .u8 0,.int .u8 0,.int .u8 0,.int .u8 0,.int .u8 0,.int .u8 0,.int .u8 0,.int .u8 0,.int .u8 0,.int .u8 0,.int .u8 0,.int .u8 0,.int .u8 0,.int .u8 0,.int .u8 0,.int .u8 0,.int .u8 0,.int .u8 0,.int .u8 0,.int .u8 0,.int .u8 0,.int .u8 0,.int .u8 0,.int .u8 0,.int .u8 0,.int .u8 0,.int .u8 0,.int .u8 0,.int .u8 0,.int .u8 0,.int .u8 0,.int .u8 0,.int .u8 0,.int .u8 0,.int .u8 0,.int .u8 0,.int .u8 0,.int .u8 0,.int .u8 0,.int .u8 0,.int .u8 0,.int .u8 0,.int .u8 0,.int .u8 0,.int .u8 0,.int .u8 0,.int .u8 0,.int .u8 0,.int .u8 0,.int .u8 0,.int .u8 0,.int .u8 0,.int .u8 0,.int .u8 0,.int .u8 0,.int .u8 0,.int .u8 0,.int .u8 0,.int .u8 0,.int .u8 0,.int .u8 0,.int .u8 0,.int .u8 0,.int .u8 0,.int .u8 0,.int .u8 0,.int .u8 0,.int .u8 0,.int .u8 0,.int .u8 0,.int .u8 0,.int .u8 0,.int .u8 0,.int .u8 0,.int .u8 0,.int .u8 0,.int .u8 0,.int .u8 0,.int .u8 0,.int .u8 0,.int .u8 0,.int .u8 0,.int .u8 0,.int .u8 0,.int .u8 0,.int .u8 0,.int .u8 0,.int .u8 0,.int .u8 0,.int .u8 0,.int .u8 0,.int .u8 0,.int .u8 0,.int .u8 0,.int .u8 0,.int .u8 0,.int .u8 0,.int .u8 0,.int .u8 0,.int .u8 0,.int .u8 0,.int .u8 0,.int .u8 0,.int .u8 0,.int .u8 0,.int .u8 0,.int .u8 0,.int .u8 0,.int .u8 0,.int .u8 0,.int .u8 0,.int .u8 0,.int .u8 0,.int .u8 0,.int .u8 0,.int .u8 0,.int .u8 0,.int .u8 0,.int .u8 0,.int .u8 0,.int .u8 0,.int .u8 0,.int .u8 0,.int .u8 0,.int .u8 0,.int .u8 0,.int .u8 0,.int .u8 0,.int .u8 0,.int .u8 0,.int .u8 0,.int .u8 0,.int .u8 0,.int .u8 0,.int .u8 0,.int .u8 0,.int .u8 0,.int .u8 0,.int .u8 0,.int .u8 0,.int .u8 0,.int .u8 0,.int .u8 0,.int .u8 0,.int .u8 0,.int .u8 0,.int .u8 0,.int .u8 0,.int .u8 0,.int .u8 0,.int .u8 0,.int .u8 0,.int .u8 0,.int .u8 0,.int .u8 0,.int .u8 0,.int .u8 0,.int .u8 0,.int .u8 0,.int .u8 0,.int .u8 0,.int .u8 0,.int .u8 0,.int .u8 0,.int .u8 0,.int .u8 0,.int .u8 0,.int .u8 0,.int .u8 0,.int .u8 0,.int .u8 0,.int .u8 0,.int .u8 0,.int .u8 0,.int .u8 0,.int .u8 0,.int .u8 0,.int .u8 0,.int .u8 0,.int .u8 0]
noncomputable def laidWorld(os:Os):World:={ (World.holding Tryd.prog os ⟨#[.cells #[.int .u16 9,.int .u16 13,.int .u16 1,.int .u16 32,.int .u16 133,.int .u16 101,.int .u16 160,.int .u16 5760,.int .u16 5600,.int .u16 8192,.int .u16 8202,.int .u16 1,.int .u16 8232,.int .u16 8233,.int .u16 1,.int .u16 8239,.int .u16 8287,.int .u16 48,.int .u16 12288,.int .u16 12288,.int .u16 1] 232,.cells #[.slice (some ⟨low+0,0,none⟩) 7 7,.slice none 0 0,.int .i64 2] 229],#[],[]⟩) with heap:=(((World.holding Tryd.prog os ⟨#[.cells #[.int .u16 9,.int .u16 13,.int .u16 1,.int .u16 32,.int .u16 133,.int .u16 101,.int .u16 160,.int .u16 5760,.int .u16 5600,.int .u16 8192,.int .u16 8202,.int .u16 1,.int .u16 8232,.int .u16 8233,.int .u16 1,.int .u16 8239,.int .u16 8287,.int .u16 48,.int .u16 12288,.int .u16 12288,.int .u16 1] 232,.cells #[.slice (some ⟨low+0,0,none⟩) 7 7,.slice none 0 0,.int .i64 2] 229],#[],[]⟩).heap.modify 4 λ| .cells _ t frozen => .cells cells0 t frozen|o=>o).modify 1 λ| .cells _ t frozen => .cells cells1 t frozen|o=>o) }
theorem laid_met(os:Os)(args:Array Value):laidMet Tryd.prog Rows.schTypesRow.laid ((laidWorld os).forCall (λ_ _=>0) ⟨#[],args,[]⟩).memory:=laidMet_of_run' 10 (by kernel_rfl) (by kernel_rfl)
theorem lifted(os:Os)(started:os.Started)(H:Type)(enc:TypeId×Value->H) :
    ReturnsInHanded {} Tryd.checked os 5 .any (λw args=>(Rows.schTypesSpec.pre enc Tryd.prog Tryd.f5 [] false w args/\laidMet Tryd.prog Rows.schTypesRow.laid w)/\sizedMet enc Tryd.prog Tryd.f5 (OpenSpec.ofChange Rows.schTypesSpec) false w args) (Rows.schTypesSpec.post enc Tryd.prog Tryd.f5 false true false false):=by
  refine handed (C:=Tryd.checked) (X:=λw _=>laidMet Tryd.prog Rows.schTypesRow.laid w) (λ_ _ _ hh h=>h.of_heap hh) own started (by kernel_rfl) Tryd.func5
    (ChangeSpec.witness_shaped (enc:=enc) (C:=Tryd.checked) (os:=os) (X:=λw _=>laidMet Tryd.prog Rows.schTypesRow.laid w) false (laidWorld os) #[.string ByteArray.empty,.agg #[.int .i64 0,.int .i64 0,.slice none 0 0,.slice none 0 0],.int .i64 0,.slice none 0 0] 8 rfl (World.shaped_of_RefB (by kernel_rfl) (by kernel_rfl)) (by kernel_rfl) (by kernel_rfl) (by kernel_rfl) (laid_met os _)) ?_
  intro W base args ds gs before hval0 hW _ hL hsh hsz;have hval:∀ (j:Nat) t v,Tryd.f5.params[j]?=some t->args[j]?=some v->Value.okWide Tryd.prog W .any base t v:=hval0;have hW':=hW;obtain⟨p,q,hA0,hV,rfl,hfz,hnd⟩:=hW;have hA:DataW.TrodAll enc Tryd.prog W 0 (λ_=>true) true Tryd.f5.params.toList args.toList ds p:=hA0;rw[Tryd.params5] at hA hval hsz;obtain⟨m63,hm63⟩:=cell_of_shapedOpen_int (P:=Tryd.prog) (g:=0) (t:=3) (zero:=#[.int .i64 0]) hsh (of_decide_eq_true (by kernel_rfl)) (by kernel_rfl) rfl (by kernel_rfl) (by kernel_rfl) Tryd.underlying3
  letI:Sym:=⟨λi=>match i with|63=>m63|_=>0⟩
  obtain⟨v0,vs0,d0,ds0,p0,q0,hargs,rfl,rfl,h0,r0⟩:=trodAll_cons hA;obtain⟨v1,vs1,d1,ds1,p1,q1,rfl,rfl,rfl,h1,r1⟩:=trodAll_cons r0;obtain⟨v2,vs2,d2,ds2,p2,q2,rfl,rfl,rfl,h2,r2⟩:=trodAll_cons r1;obtain⟨v3,vs3,d3,ds3,p3,q3,rfl,rfl,rfl,h3,r3⟩:=trodAll_cons r2;obtain⟨rfl,rfl,rfl⟩:=trodAll_nil r3;obtain rfl:args=#[v0,v1,v2,v3]:=by cases args; simp_all
  obtain⟨rfl,rfl⟩:=trodVars_none hV;have hk0:=h0;obtain⟨a0,rfl,rfl,rfl,w0⟩:=open_string Tryd.underlying9 (hval 0 9 v0 rfl rfl) h0;have hk1:=h1;obtain⟨cs1,n1,row1,rfl,t1,hT1⟩:=qWL plainT Tryd.underlying25 (of_decide_eq_true (by kernel_rfl)) (of_decide_eq_true (by kernel_rfl)) h1;obtain⟨a1,rfl,g1⟩:=hasT25 n1 row1 hT1;have hk2:=h2;obtain⟨a2,rfl,rfl,rfl,w2⟩:=open_int Tryd.underlying3 (hval 2 3 v2 rfl rfl) h2;have g2:(-9223372036854775808)<=a2/\a2<=9223372036854775807:=by have h:(decide (IntKind.min .i64<=a2)&&decide (a2<=IntKind.max .i64))=true:=w2; simp only[Bool.and_eq_true,decide_eq_true_eq] at h; exact h
  have hk3:=h3;obtain⟨a3,t3,w3,m3,b3⟩:=qJ9 Tryd.underlying22 Tryd.underlying3 (by kernel_rfl) (hval 3 22 v3 rfl rfl) h3;have g3:∀ n∈intsL a3,(-9223372036854775808)<=n/\n<=9223372036854775807:=λn hn=>by have h:(decide (IntKind.min .i64<=n)&&decide (n<=IntKind.max .i64))=true:=w3 n hn; simp only[Bool.and_eq_true,decide_eq_true_eq] at h; exact h
  have b3:(intsL a3).length<=140737488351232:=by have h:=b3 (qL7 hsz 3 rfl rfl); have e:Tryd.prog.bytesOf 3=8:=(by kernel_rfl); rw[e] at h; unfold reachBytes at h; omega
  clear hA0 hval0;have hlt1:∀ x∈p1,x.block<W.heap.size:=λx hx=>by simpa using hW'.lt x (by simp[hx])
  have hlt3:∀ x∈p3,x.block<W.heap.size:=λx hx=>by simpa using hW'.lt x (by simp[hx])
  refine(qP1 (avs:=#[_,.agg cs1,_,v3]) mixed Ab.tab_ok (qOI (qPX (g:=0) (by kernel_rfl) ⟨Tryd.f98,Tryd.func98,by kernel_rfl,of_decide_eq_true (by kernel_rfl)⟩ λs sub m w h1 h2=>Tryd.stringslite_Index s sub m w h1 h2) (qPW ⟨Tryd.f53,Tryd.func53,by kernel_rfl,of_decide_eq_true (by kernel_rfl)⟩ (λa c sep w=>Tryd.strings_Join_none a c sep w) λbk o c xs sep w h1 h2 h3 h4 h5=>Tryd.strings_Join bk o c xs sep w h1 h2 h3 h4 h5)) (Ab.types_run _ a1 a2 a3) (allG hL tabs_ok (λg h=>by cases h; exact hm63)) ⟨CRel.p _ _ (.str _ a0 rfl),t1,qNM .i64 a2,t3,trivial⟩).mono λe W' ⟨he,hg⟩ => ?_
  subst he;exact⟨_,rfl,qJk hW' (pv:=[]) (λ_ _ _=>(trodAll_cons_mk (shut_bool Tryd.underlying4 _) trodAll_mk0)) (trodAll_cons_mk (shut_string Tryd.underlying9 w0) (trodAll_cons_mk (Below.trod laidOut (by kernel_rfl) (of_decide_eq_true (by kernel_rfl)) hk1 hg hlt1) (trodAll_cons_mk (shut_int Tryd.underlying3 w2) (trodAll_cons_mk (Below.trod laidOut (by kernel_rfl) (of_decide_eq_true (by kernel_rfl)) hk3 hg hlt3) trodAll_mk0)))) (λ_ _=>rfl) (by simp) hg⟩
theorem row_holds:Rows.SchTypesSaid :=
  OpenClaim.holds_of_wide 5 Tryd.f5 rfl rfl rfl rfl rfl rfl rfl ⟨rfl,rfl,rfl,rfl,rfl⟩ rfl rfl rfl rfl rfl (by kernel_rfl) Tryd.func5 (by kernel_rfl)
    (of_decide_eq_true (by kernel_rfl)) (by unfold Func.isWrapper; first|(rw[if_pos (by decide +kernel)]; kernel_rfl)|(rw[if_neg (by decide +kernel)]; exact⟨rfl,rfl⟩))
    (λos started H enc _=>lifted os started H enc)
theorem params_plain:(Tryd.f5.params.toList.all λt => !(Tryd.prog.wantsStandIn t))=true:=by kernel_rfl
theorem card_holds:Rows.SchTypesCardSaid :=
  Claim7.holds_tied_plain_at .later [] [.listed,.data] true (true, "7cf71506317cc80ca0afc5e623b5cbc0c4d6c6555da6d9f72daaf2acfc47f0e6") false
    row_holds (λ_ h=>by cases h) (by kernel_rfl) (λ_ h=>by cases h) schTypes_row_tie rfl ⟨rfl,rfl⟩ (by kernel_rfl) rfl
    (λf fn hf hfn=>by
      obtain rfl:f=5:=Option.some.inj ((show Tryd.prog.funcNamed Rows.schTypesRow.func=some 5 by kernel_rfl).symm.trans hf) |>.symm;obtain rfl:fn=Tryd.f5:=(Option.some.inj (Tryd.func5.symm.trans hfn)).symm;refine⟨by kernel_rfl,λj t ht => ?_⟩;have h:=List.all_eq_true.1 params_plain t (List.mem_of_getElem? (by simpa using ht))
      exact(by simpa using h:Tryd.prog.wantsStandIn t=false))
    (by kernel_rfl)
#print axioms card_holds
end Go.Proofs.YtnlmlcfipbnpgaaDoor.SchTypes
