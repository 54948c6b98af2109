/- THE STATEMENT 'DataBack': whatever the input,the law returns true,and the input reads as it did. Conditions: none but the row's own (the listed variables read as listed,which the card ties to the text). -/
import Derived.Test.YtiahgnkffnokfaaGreatDoorCards
import Derived.Test.YtiahgnkffnokfaaGreatDoorG2
import Derived.Test.YtiahgnkffnokfaaGreatDoorTie
import Derived.Test.YtiahgnkffnokfaaGreatDoorShelf
import Derived.ProofKit
import Derived.OpenShut
import Derived.LaidLaws
import Derived.Handed
import Derived.JoinedOf
import Derived.Carry
set_option linter.unusedVariables false
set_option maxRecDepth 100000
namespace Go.Proofs.YtiahgnkffnokfaaGreatDoor.DataBack
open Go Go.AI Go.ChangeShapes Go.WideShapes Go.ChangeAt Go.RowKit Go.ChangeMaps
theorem own:ownKnob Tryz.prog.godebug=none:=by kernel_rfl
theorem mixed:Tryz.prog.follows .mixedOrders=true:=by kernel_rfl
theorem handed{H:Type}{enc:TypeId×Value→H}{a:Assume}{C:Checked}{os:Os}{f:FuncId}{fn:Func}{s:ChangeSpec}{conds:List PathCond}{apart fresh handsOn again:Bool}{X:World→Array Value→Prop}
    (hX:∀ (w w':World) (args:Array Value),w.heap=w'.heap→X w args→X w' args)
    (own:ownKnob C.prog.godebug=none) (started:os.Started) (noInit:C.prog.inits.idxOf? f=none) (hfn:C.prog.funcs[f]?=some fn)
    (witness:∃ (w:World) (tape:Tape) (i:Input),w.os=os∧(w.forCall tape i).Shaped C.prog∧i.vars=[]∧Input.okWide C.prog (w.forCall tape i) .any w.heap.size f i ∧
      ((s.pre enc C.prog fn conds apart (w.forCall tape i).memory i.args∧X (w.forCall tape i).memory i.args)∧sizedMet enc C.prog fn (OpenSpec.ofChange s) apart (w.forCall tape i).memory i.args)∧a.holds C.prog (lone (Frame.enter C.prog f i.args .normal) [] (w.forCall tape i)))
    (contract:∀ (W:World) (base:Nat) (args:Array Value) (ds gs:List (DataW H)) (before:List MemPlace),
      (∀ (j:Nat) t v,fn.params[j]?=some t→args[j]?=some v→Value.okWide C.prog W .any base t v) →
      DataW.Whole enc C.prog fn.params.toList s.vars apart W args.toList ds gs before →
      conds.all (PathCond.test C.prog ⟨fn.params.toList,ds,s.plain.varTypes C.prog,gs⟩)=true→X W args→W.ShapedOpen C.prog →
      (DataW.weightsEach C.prog (fn.params.toList++s.plain.varTypes C.prog) (ds++gs)).all (·≤reachBytes)=true →
      Calls C.prog f args W fun e W'=>∃ v,e = .returned v∧s.post enc C.prog fn apart fresh handsOn again W args v W') :
    ReturnsInHanded a C os f .any (fun w args=>(s.pre enc C.prog fn conds apart w args∧X w args)∧sizedMet enc C.prog fn (OpenSpec.ofChange s) apart w args) (s.post enc C.prog fn apart fresh handsOn again):=by
  refine returnsInHanded_of_calls own started noInit witness ?_;intro w tape i _ hsh _ hok hpre hholds;obtain⟨_,_,_,fn',hfn',_,_,_,_,hval⟩:=hok;have e:fn'=fn:=Option.some.inj (hfn'.symm.trans hfn);subst e;obtain⟨⟨⟨ds,gs,before,hw,hc⟩,hx⟩,hz⟩:=hpre;have hw':=DataW.Whole.of_heap (w':=w.forCall tape i) (by rfl) hw;refine(contract (w.forCall tape i) w.heap.size i.args ds gs before hval hw' hc (hX _ _ _ (by rfl) hx) hsh (hz.weights hw)).mono fun e W' ⟨v,he,hp⟩ => ?_
  subst he;exact ChangeSpec.post_blind hp
theorem tabs_ok:∀ t∈Ab.tabs,TablOK Tryz.prog Rows.dataBackRow.laid t:=by
  intro t ht;simp only[Ab.tabs,List.mem_cons,List.not_mem_nil,or_false] at ht
  rcases ht with rfl|rfl|rfl
  · have e:(Rows.laid_math_bits_deBruijn32tab:DataW Unit) = .agg (([0,1,28,2,29,14,24,3,30,22,20,15,25,17,4,8,31,27,13,23,21,19,16,7,26,12,18,6,11,5,10,9]:List Int).map fun v => .lit (.int .u8 v)):=by kernel_rfl
    have m:(("math/bits.deBruijn32tab" : String),(Rows.laid_math_bits_deBruijn32tab:DataW Unit))∈Rows.dataBackRow.laid := .head _
    exact⟨(congrArg (fun d=>(("math/bits.deBruijn32tab" : String),d)∈Rows.dataBackRow.laid) e).mp m,by kernel_rfl,202,5,32,by kernel_rfl,Tryz.underlying202,Tryz.underlying5,by kernel_rfl⟩
  · have e:(Rows.laid_math_bits_deBruijn64tab:DataW Unit) = .agg (([0,1,56,2,57,49,28,3,61,58,42,50,38,29,17,4,62,47,59,36,45,43,51,22,53,39,33,30,24,18,12,5,63,55,48,27,60,41,37,16,46,35,44,21,52,32,23,11,54,26,40,15,34,20,31,10,25,14,19,9,13,8,7,6]:List Int).map fun v => .lit (.int .u8 v)):=by kernel_rfl
    have m:(("math/bits.deBruijn64tab" : String),(Rows.laid_math_bits_deBruijn64tab:DataW Unit))∈Rows.dataBackRow.laid := .tail _ (.head _)
    exact⟨(congrArg (fun d=>(("math/bits.deBruijn64tab" : String),d)∈Rows.dataBackRow.laid) e).mp m,by kernel_rfl,203,5,64,by kernel_rfl,Tryz.underlying203,Tryz.underlying5,by kernel_rfl⟩
  · have e:(Rows.laid_internal_strconv_uint64pow10:DataW Unit) = .agg (([1,10,100,1000,10000,100000,1000000,10000000,100000000,1000000000,10000000000,100000000000,1000000000000,10000000000000,100000000000000,1000000000000000,10000000000000000,100000000000000000,1000000000000000000,10000000000000000000]:List Int).map fun v => .lit (.int .u64 v)):=by kernel_rfl
    have m:(("internal/strconv.uint64pow10" : String),(Rows.laid_internal_strconv_uint64pow10:DataW Unit))∈Rows.dataBackRow.laid := .tail _ (.tail _ (.head _))
    exact⟨(congrArg (fun d=>(("internal/strconv.uint64pow10" : String),d)∈Rows.dataBackRow.laid) e).mp m,by kernel_rfl,165,121,20,by kernel_rfl,Tryz.underlying165,Tryz.underlying121,by kernel_rfl⟩
theorem laidOut:laidOutB Tryz.prog=true:=by kernel_rfl
def tsT:List TypeId:=[2,3,4,5,22,26,39,41]
theorem plainT:plainB Tryz.prog tsT=true:=by kernel_rfl
theorem hasT41:∀ (n:Nat) (row:List PVal),HasT Tryz.prog n 41 row→∃ r:RT,row=r.row∧r.inR:=qP5 Tryz.underlying41 rfl Tryz.underlying3 Tryz.underlying2 Tryz.underlying26 Tryz.underlying5 (by kernel_rfl) Tryz.underlying22 Tryz.underlying3 (by kernel_rfl) Tryz.underlying39 (by kernel_rfl)
noncomputable def cells0:Array Value:=#[.int .u8 0,.int .u8 1,.int .u8 28,.int .u8 2,.int .u8 29,.int .u8 14,.int .u8 24,.int .u8 3,.int .u8 30,.int .u8 22,.int .u8 20,.int .u8 15,.int .u8 25,.int .u8 17,.int .u8 4,.int .u8 8,.int .u8 31,.int .u8 27,.int .u8 13,.int .u8 23,.int .u8 21,.int .u8 19,.int .u8 16,.int .u8 7,.int .u8 26,.int .u8 12,.int .u8 18,.int .u8 6,.int .u8 11,.int .u8 5,.int .u8 10,.int .u8 9]
noncomputable def cells1:Array Value:=#[.int .u8 0,.int .u8 1,.int .u8 56,.int .u8 2,.int .u8 57,.int .u8 49,.int .u8 28,.int .u8 3,.int .u8 61,.int .u8 58,.int .u8 42,.int .u8 50,.int .u8 38,.int .u8 29,.int .u8 17,.int .u8 4,.int .u8 62,.int .u8 47,.int .u8 59,.int .u8 36,.int .u8 45,.int .u8 43,.int .u8 51,.int .u8 22,.int .u8 53,.int .u8 39,.int .u8 33,.int .u8 30,.int .u8 24,.int .u8 18,.int .u8 12,.int .u8 5,.int .u8 63,.int .u8 55,.int .u8 48,.int .u8 27,.int .u8 60,.int .u8 41,.int .u8 37,.int .u8 16,.int .u8 46,.int .u8 35,.int .u8 44,.int .u8 21,.int .u8 52,.int .u8 32,.int .u8 23,.int .u8 11,.int .u8 54,.int .u8 26,.int .u8 40,.int .u8 15,.int .u8 34,.int .u8 20,.int .u8 31,.int .u8 10,.int .u8 25,.int .u8 14,.int .u8 19,.int .u8 9,.int .u8 13,.int .u8 8,.int .u8 7,.int .u8 6]
noncomputable def qIk:Array Value:=#[.int .u64 1,.int .u64 10,.int .u64 100,.int .u64 1000,.int .u64 10000,.int .u64 100000,.int .u64 1000000,.int .u64 10000000,.int .u64 100000000,.int .u64 1000000000,.int .u64 10000000000,.int .u64 100000000000,.int .u64 1000000000000,.int .u64 10000000000000,.int .u64 100000000000000,.int .u64 1000000000000000,.int .u64 10000000000000000,.int .u64 100000000000000000,.int .u64 1000000000000000000,.int .u64 10000000000000000000]
noncomputable def cells3:Array Value:=#[.int .u8 128,.int .u8 191,.int .u8 160,.int .u8 191,.int .u8 128,.int .u8 159,.int .u8 144,.int .u8 191,.int .u8 128,.int .u8 143,.int .u8 0,.int .u8 0,.int .u8 0,.int .u8 0,.int .u8 0,.int .u8 0,.int .u8 0,.int .u8 0,.int .u8 0,.int .u8 0,.int .u8 0,.int .u8 0,.int .u8 0,.int .u8 0,.int .u8 0,.int .u8 0,.int .u8 0,.int .u8 0,.int .u8 0,.int .u8 0,.int .u8 0,.int .u8 0]
noncomputable def cells4:Array Value:=(Go.Pinned.utf8FirstZ.map fun n:Nat=>Value.int .u8 (Int.ofNat n)).toArray
noncomputable def laidWorld(os:Os):World:={ (World.holding Tryz.prog os ⟨#[],#[],[]⟩) with heap:=((((((World.holding Tryz.prog os ⟨#[],#[],[]⟩).heap.modify 4 fun | .cells _ t frozen => .cells cells0 t frozen|o=>o).modify 5 fun | .cells _ t frozen => .cells cells1 t frozen|o=>o).modify 0 fun | .cells _ t frozen => .cells qIk t frozen|o=>o).modify 3 fun | .cells _ t frozen => .cells cells3 t frozen|o=>o).modify 2 fun | .cells _ t frozen => .cells cells4 t frozen|o=>o) }
theorem laid_met(os:Os)(args:Array Value):laidMet Tryz.prog Rows.dataBackRow.laid ((laidWorld os).forCall (fun _ _=>0) ⟨#[],args,[]⟩).memory:=laidMet_of_run' 10 (by kernel_rfl) (by kernel_rfl)
theorem lifted(os:Os)(started:os.Started)(H:Type)(enc:TypeId×Value→H) :
    ReturnsInHanded {} Tryz.checked os 8 .any (fun w args=>(Rows.dataBackSpec.pre enc Tryz.prog Tryz.f8 [] false w args∧laidMet Tryz.prog Rows.dataBackRow.laid w)∧sizedMet enc Tryz.prog Tryz.f8 (OpenSpec.ofChange Rows.dataBackSpec) false w args) (Rows.dataBackSpec.post enc Tryz.prog Tryz.f8 false true false false):=by
  refine handed (C:=Tryz.checked) (X:=fun w _=>laidMet Tryz.prog Rows.dataBackRow.laid w) (fun _ _ _ hh h=>h.of_heap hh) own started (by kernel_rfl) Tryz.func8
    (ChangeSpec.witness_shaped (enc:=enc) (C:=Tryz.checked) (os:=os) (X:=fun w _=>laidMet Tryz.prog Rows.dataBackRow.laid w) false (laidWorld os) #[.agg #[.int .i64 0,.int .i64 0,.slice none 0 0,.slice none 0 0,.slice none 0 0],.agg #[.int .i64 0,.int .i64 0,.slice none 0 0,.slice none 0 0,.slice none 0 0]] 8 rfl (World.shaped_of_RefB (by kernel_rfl) (by kernel_rfl)) (by kernel_rfl) (by kernel_rfl) (by kernel_rfl) (laid_met os _)) ?_
  intro W base args ds gs before hval0 hW _ hL hsh hsz;have hval:∀ (j:Nat) t v,Tryz.f8.params[j]?=some t→args[j]?=some v→Value.okWide Tryz.prog W .any base t v:=hval0;have hW':=hW;obtain⟨p,q,hA0,hV,rfl,hfz,hnd⟩:=hW;have hA:DataW.TrodAll enc Tryz.prog W 0 (fun _=>true) true Tryz.f8.params.toList args.toList ds p:=hA0;rw[Tryz.params8] at hA hval hsz;obtain⟨m63,hm63⟩:=cell_of_shapedOpen_int (P:=Tryz.prog) (g:=1) (t:=3) (zero:=#[.int .i64 0]) hsh (of_decide_eq_true (by kernel_rfl)) (by kernel_rfl) rfl (by kernel_rfl) (by kernel_rfl) Tryz.underlying3
  letI:Sym:=⟨fun i=>match i with|63=>m63|_=>0⟩
  obtain⟨v0,vs0,d0,ds0,p0,q0,hargs,rfl,rfl,h0,r0⟩:=trodAll_cons hA;obtain⟨v1,vs1,d1,ds1,p1,q1,rfl,rfl,rfl,h1,r1⟩:=trodAll_cons r0;obtain⟨rfl,rfl,rfl⟩:=trodAll_nil r1;obtain rfl:args=#[v0,v1]:=by cases args; simp_all
  obtain⟨rfl,rfl⟩:=trodVars_none hV;have hk0:=h0;obtain⟨cs0,n0,row0,rfl,t0,hT0⟩:=qFw plainT Tryz.underlying41 (of_decide_eq_true (by kernel_rfl)) (of_decide_eq_true (by kernel_rfl)) h0;obtain⟨a0,rfl,g0⟩:=hasT41 n0 row0 hT0;have hk1:=h1;obtain⟨cs1,n1,row1,rfl,t1,hT1⟩:=qFw plainT Tryz.underlying41 (of_decide_eq_true (by kernel_rfl)) (of_decide_eq_true (by kernel_rfl)) h1;obtain⟨a1,rfl,g1⟩:=hasT41 n1 row1 hT1;clear hA0 hval0;have hlt0:∀ x∈p0,x.block<W.heap.size:=fun x hx=>by simpa using hW'.lt x (by simp[hx])
  have hlt1:∀ x∈p1,x.block<W.heap.size:=fun x hx=>by simpa using hW'.lt x (by simp[hx])
  refine(qO2 (avs:=#[.agg cs0,.agg cs1]) mixed Ab.tab_ok (qHM (qD3) (qHM (qN3 (g:=1) (by kernel_rfl) ⟨Tryz.f102,Tryz.func102,by kernel_rfl,of_decide_eq_true (by kernel_rfl)⟩ fun s sub m w h1 h2=>Tryz.stringslite_Index s sub m w h1 h2) (qPM ⟨Tryz.f32,Tryz.func32,by kernel_rfl,of_decide_eq_true (by kernel_rfl)⟩ (fun a c sep w=>Tryz.strings_Join_none a c sep w) fun bk o c xs sep w h1 h2 h3 h4 h5=>Tryz.strings_Join bk o c xs sep w h1 h2 h3 h4 h5))) (Ab.back_law a0 a1 g0 g1) (allG hL tabs_ok (fun g h=>by cases h; exact hm63)) ⟨t0,t1,trivial⟩).mono fun e W' ⟨he,hg⟩ => ?_
  subst he;exact⟨_,rfl,qI4 hW' (pv:=[]) (fun _ _ _=>(trodAll_cons_mk (shut_bool Tryz.underlying4 _) trodAll_mk0)) (trodAll_cons_mk (Below.trod laidOut (by kernel_rfl) (of_decide_eq_true (by kernel_rfl)) hk0 hg hlt0) (trodAll_cons_mk (Below.trod laidOut (by kernel_rfl) (of_decide_eq_true (by kernel_rfl)) hk1 hg hlt1) trodAll_mk0)) (fun _ _=>rfl) (by simp) hg⟩
theorem jf0:(Rows.dataBackRow.wf (OpenSpec.ofChange Rows.dataBackSpec))=true:=by kernel_rfl
theorem jf1:(laidOutB Tryz.prog)=true:=by kernel_rfl
theorem jf2:(mapsRowed Tryz.prog)=true:=by kernel_rfl
theorem jf3:(Tryz.f8.params.all (Tryz.prog.readableRec ·))=true:=by kernel_rfl
theorem jf4:(namedTie Tryz.prog Rows.dataBackRow.named Rows.dataBackSpec.vars)=true:=by kernel_rfl
theorem jf5:((Rows.dataBackRow.stops==[]))=true:=by kernel_rfl
theorem jf6:((Tryz.prog.stops==[]))=true:=by kernel_rfl
theorem jf7:((Rows.dataBackRow.knobs==[]))=true:=by kernel_rfl
theorem jf8:((Tryz.prog.stopKnobs==[]))=true:=by kernel_rfl
theorem jf9:((Rows.dataBackRow.inPlace==Tryz.prog.inPlace 8))=true:=by kernel_rfl
theorem jf10:((Rows.dataBackRow.unfollowed==Tryz.prog.unfollowed 8))=true:=by kernel_rfl
theorem jf11:((Rows.dataBackRow.recurses==Tryz.prog.recurses 8))=true:=by kernel_rfl
theorem jf12:((Rows.dataBackRow.named==Tryz.prog.varsNamed 8))=true:=by kernel_rfl
theorem jf13:((Rows.dataBackRow.maps==(Tryz.f8.params.toList++Rows.dataBackSpec.plain.varTypes Tryz.prog).any (Tryz.prog.mapsRec ·)))=true:=by kernel_rfl
theorem jf14:((Rows.dataBackRow.ifaces==(Tryz.f8.params.toList++Rows.dataBackSpec.plain.varTypes Tryz.prog).any (Tryz.prog.ifacesRec ·)))=true:=by kernel_rfl
theorem jf15:((Rows.dataBackRow.mapsOut==Tryz.prog.mapsAmong Tryz.f8.resultTypes.toList))=true:=by kernel_rfl
theorem jf16:((Rows.dataBackRow.loops==(Tryz.f8.params.toList++Rows.dataBackSpec.plain.varTypes Tryz.prog).any (Tryz.prog.loopsFrom ·)))=true:=by kernel_rfl
theorem jf17:((Rows.dataBackRow.wideKeys==(Tryz.f8.params.toList++Rows.dataBackSpec.plain.varTypes Tryz.prog++Tryz.f8.resultTypes.toList).any (Tryz.prog.wideKeysFrom ·)))=true:=by kernel_rfl
theorem jf18:(Rows.dataBackSpec.vars.all (Tryz.prog.varReadable ·))=true:=by kernel_rfl
theorem jf19:(Tryz.f8.resultTypes.all (fun t=>Tryz.prog.readableRec t&&decide (t<Tryz.prog.types.size)))=true:=by kernel_rfl
theorem jf20:((Rows.dataBackRow.ifacesOut==Tryz.f8.resultTypes.toList.any (Tryz.prog.ifacesRec ·)))=true:=by kernel_rfl
theorem jf21:((Rows.dataBackRow.loopsOut==Tryz.f8.resultTypes.toList.any (Tryz.prog.loopsFrom ·)))=true:=by kernel_rfl
theorem jf22:((Rows.dataBackRow.plainKeys==Tryz.prog.plainKeys))=true:=by kernel_rfl
theorem jf23:(Rows.dataBackRow.shortTexts.isNone)=true:=by kernel_rfl
theorem jf24:(Tryz.prog.stopsHeard)=true:=by kernel_rfl
theorem jf25:(Tryz.prog.mayEnter)=true:=by kernel_rfl
theorem jf26:((Rows.dataBackRow.lifted==Tryz.prog.liftsFinal))=true:=by kernel_rfl
theorem jf27:((Tryz.prog.make==some Rows.dataBackRow.make))=true:=by kernel_rfl
theorem jf28:((Rows.dataBackRow.kinds==(if Rows.dataBackRow.domain.isEmpty then [] else Tryz.f8.params.toList.map fun t=>match Tryz.prog.underlying t with|some (.int k)=>some k|_=>none)))=true:=by kernel_rfl
theorem jf29:((Rows.dataBackRow.pinned==Rows.dataBackRow.pinnedBy))=true:=by kernel_rfl
theorem jf30:((Rows.dataBackRow.veiled==(Tryz.f8.params.toList++Rows.dataBackSpec.plain.varTypes Tryz.prog++Tryz.f8.resultTypes.toList).any (Tryz.prog.veiledRec ·)))=true:=by kernel_rfl
theorem jf31:(Rows.dataBackRow.veiledFits Tryz.prog Tryz.f8.params.toList (Tryz.f8.params.toList++Rows.dataBackSpec.plain.varTypes Tryz.prog++Tryz.f8.resultTypes.toList))=true:=by kernel_rfl
theorem and_t{a b:Bool}(h:a=true)(k:b=true):(a&&b)=true:=by rw[h,k]; rfl
theorem joined:joinedFacts Tryz.prog 8 Tryz.f8 Rows.dataBackSpec Rows.dataBackRow=true:=and_t (and_t (and_t (and_t (and_t (and_t (and_t (and_t (and_t (and_t (and_t (and_t (and_t (and_t (and_t (and_t (and_t (and_t (and_t (and_t (and_t (and_t (and_t (and_t (and_t (and_t (and_t (and_t (and_t (and_t (and_t jf0 jf1) jf2) jf3) jf4) jf5) jf6) jf7) jf8) jf9) jf10) jf11) jf12) jf13) jf14) jf15) jf16) jf17) jf18) jf19) jf20) jf21) jf22) jf23) jf24) jf25) jf26) jf27) jf28) jf29) jf30) jf31
theorem row_holds:Rows.DataBackSaid :=
  OpenClaim.holds_of_wide 8 Tryz.f8 rfl rfl rfl rfl rfl rfl rfl ⟨rfl,rfl,rfl,rfl,rfl⟩ rfl rfl rfl rfl rfl (by kernel_rfl) Tryz.func8 joined
    (of_decide_eq_true (by kernel_rfl)) (by unfold Func.isWrapper; first|(rw[if_pos (by decide +kernel)]; kernel_rfl)|(rw[if_neg (by decide +kernel)]; exact⟨rfl,rfl⟩))
    (fun os started H enc _=>lifted os started H enc)
theorem params_plain:(Tryz.f8.params.toList.all fun t => !(Tryz.prog.wantsStandIn t))=true:=by kernel_rfl
theorem card_holds:Rows.DataBackCardSaid :=
  Claim7.holds_tied_plain_at .later [] [.data,.data,.data,.data,.pinned] true (true, "c508fb49d925d526c5a74bcd4fb6de99c0df9188966d9ca02f57b6b9a79ccf0a") true
    row_holds (fun _ h=>by cases h) (by kernel_rfl) (fun _ h=>by cases h) dataBack_row_tie rfl ⟨rfl,rfl⟩ (by kernel_rfl) rfl
    (fun f fn hf hfn=>by
      obtain rfl:f=8:=Option.some.inj ((show Tryz.prog.funcNamed Rows.dataBackRow.func=some 8 by kernel_rfl).symm.trans hf) |>.symm;obtain rfl:fn=Tryz.f8:=(Option.some.inj (Tryz.func8.symm.trans hfn)).symm;refine⟨by kernel_rfl,fun j t ht => ?_⟩;have h:=List.all_eq_true.1 params_plain t (List.mem_of_getElem? (by simpa using ht))
      exact(by simpa using h:Tryz.prog.wantsStandIn t=false))
    (by kernel_rfl)
#print axioms card_holds
end Go.Proofs.YtiahgnkffnokfaaGreatDoor.DataBack
