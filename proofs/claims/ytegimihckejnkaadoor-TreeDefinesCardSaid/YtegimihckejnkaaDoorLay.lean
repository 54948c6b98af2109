/- The one function of the given program in which the model leaves a choice of order open: run both ways. Own work; no condition. -/
import Derived.Test.YtegimihckejnkaaDoorTabT
import Derived.Test.YtegimihckejnkaaDoorAd
namespace Go.Proofs.YtegimihckejnkaaDoor.Ab
open Go Go.AI
set_option linter.all false
set_option linter.unusedVariables false
set_option maxRecDepth 100000
noncomputable def layPre : ACode := (.seq (.reg [⟨(some 3), (.box (.t 1) true), none⟩] []) (.seq (.reg [⟨(some 6), (.mv (.t 0)), none⟩, ⟨(some 7), (.call (.k (.v (.c (.func 28 [])))) [(.t 6)]), none⟩, ⟨(some 4), (.mv (.t 7)), none⟩] []) (.seq (.seq (.reg [⟨(some 8), (.mv (.t 4)), none⟩, ⟨(some 9), (.bin .eql 1 (.t 8) (.k (.v (.c (.p .nilptr))))), none⟩] []) (.cond (.t 9) (.seq (.reg [⟨(some 10), (.mv (.t 0)), none⟩, ⟨(some 11), (.nilck (.t 10)), none⟩, ⟨(some 12), (.faddr 0 (.t 11)), none⟩, ⟨(some 13), (.load false 1 (.t 12)), none⟩, ⟨(some 14), (.load true 9 (.t 3)), none⟩, ⟨(some 15), (.len 2 (.t 13)), none⟩, ⟨(some 16), (.bslice 9 1 [(.p (.int .i64 0)), (.p (.int .i64 0)), (.p (.str [])), (.p (.str [])), (.p .nilslice), (.p .nilslice), (.p .nilslice), (.p (.bool false)), (.p .nilslice)] [(0, (.k (.v (.agg [(.p (.int .i64 0)), (.p (.int .i64 0)), (.p (.str [])), (.p (.str [])), (.p .nilslice), (.p .nilslice), (.p .nilslice), (.p (.bool false)), (.p .nilslice)]))))] true), none⟩, ⟨(some 17), (.append 9 152 true (.t 13) (.t 16)), none⟩, ⟨(some 18), (.iaddr 9 (.t 17) (.t 15)), none⟩, ⟨none, (.store 9 (.t 18) (.t 14)), none⟩, ⟨(some 19), (.nilck (.t 10)), none⟩, ⟨(some 20), (.faddr 0 (.t 19)), none⟩, ⟨none, (.store 1 (.t 20) (.t 17)), none⟩] [(3, 6), (4, 6), (5, 6), (9, 12)]) .ret) .skip)) (.seq (.reg [⟨(some 21), (.mv (.t 4)), none⟩, ⟨(some 22), (.nilck (.t 21)), none⟩, ⟨(some 23), (.faddr 10 (.t 22)), none⟩, ⟨(some 24), (.load false 1 (.t 23)), none⟩, ⟨(some 25), (.len 2 (.t 24)), none⟩, ⟨(some 26), (.bin .sub 0 (.t 25) (.k (.v (.c (.p (.int .i64 1)))))), none⟩, ⟨(some 5), (.mv (.t 26)), none⟩] []) .skip))))
noncomputable def layC0 : AOper := ⟨(some 27), (.alloc [(.p (.bool false))] true), none⟩
noncomputable def layC1 : AOper := ⟨none, (.store 1 (.t 27) (.k (.v (.c (.p (.bool true)))))), none⟩
noncomputable def layC2 : AOper := ⟨none, (.store 1 (.t 27) (.k (.v (.c (.p (.bool false)))))), none⟩
noncomputable def layC3 : AOper := ⟨(some 28), (.load false 1 (.t 27)), none⟩
noncomputable def layPost : ACode := (.cond (.t 28) (.seq (.reg [⟨(some 29), (.mv (.t 4)), none⟩, ⟨(some 30), (.nilck (.t 29)), none⟩, ⟨(some 31), (.faddr 10 (.t 30)), none⟩, ⟨(some 32), (.load false 1 (.t 31)), none⟩, ⟨(some 33), (.mv (.t 5)), none⟩, ⟨(some 34), (.iaddr 1 (.t 32) (.t 33)), none⟩, ⟨(some 35), (.load false 1 (.t 34)), none⟩, ⟨(some 36), (.load true 9 (.t 3)), none⟩, ⟨(some 37), (.len 2 (.t 35)), none⟩, ⟨(some 38), (.bslice 9 1 [(.p (.int .i64 0)), (.p (.int .i64 0)), (.p (.str [])), (.p (.str [])), (.p .nilslice), (.p .nilslice), (.p .nilslice), (.p (.bool false)), (.p .nilslice)] [(0, (.k (.v (.agg [(.p (.int .i64 0)), (.p (.int .i64 0)), (.p (.str [])), (.p (.str [])), (.p .nilslice), (.p .nilslice), (.p .nilslice), (.p (.bool false)), (.p .nilslice)]))))] true), none⟩, ⟨(some 39), (.append 9 152 true (.t 35) (.t 38)), none⟩, ⟨(some 40), (.iaddr 1 (.t 32) (.t 33)), none⟩, ⟨none, (.store 1 (.t 40) (.t 39)), none⟩] [(3, 9), (6, 9), (7, 9), (8, 9)]) (.reg [⟨(some 41), (.iaddr 9 (.t 39) (.t 37)), none⟩, ⟨none, (.store 9 (.t 41) (.t 36)), none⟩] [])) (.reg [⟨(some 42), (.mv (.t 4)), none⟩, ⟨(some 43), (.nilck (.t 42)), none⟩, ⟨(some 44), (.faddr 10 (.t 43)), none⟩, ⟨(some 45), (.load false 1 (.t 44)), none⟩, ⟨(some 46), (.mv (.t 5)), none⟩, ⟨(some 47), (.mv (.t 4)), none⟩, ⟨(some 48), (.nilck (.t 47)), none⟩, ⟨(some 49), (.faddr 10 (.t 48)), none⟩, ⟨(some 50), (.load false 1 (.t 49)), none⟩, ⟨(some 51), (.mv (.t 5)), none⟩, ⟨(some 52), (.iaddr 1 (.t 50) (.t 51)), none⟩, ⟨(some 53), (.load false 1 (.t 52)), none⟩, ⟨(some 54), (.load true 9 (.t 3)), none⟩, ⟨(some 55), (.bslice 9 1 [(.p (.int .i64 0)), (.p (.int .i64 0)), (.p (.str [])), (.p (.str [])), (.p .nilslice), (.p .nilslice), (.p .nilslice), (.p (.bool false)), (.p .nilslice)] [(0, (.t 54))] true), none⟩, ⟨(some 56), (.append 9 152 true (.t 53) (.t 55)), none⟩, ⟨(some 57), (.iaddr 1 (.t 45) (.t 46)), none⟩, ⟨none, (.store 1 (.t 57) (.t 56)), none⟩] [(3, 13), (8, 13), (11, 13), (3, 14)]))
noncomputable def layF : AFunc := { np := c55.np, res := c55.res, frz := c55.frz, body := c55.body.erase }
noncomputable def layBase : Oracle := orc (fun _ _ _ => none) (machU blks.get (fun _ _ _ => none) 60)
noncomputable def SLay : Oracle := fun f args objs => bif Nat.beq f 55 then callC layBase 20 layPre layC0 layC1 layC2 layC3 layPost layF args objs else none
noncomputable def layCode : Code := (Tryd.f55.body).getD .skip
noncomputable def layOps : Array Oper := match sufC 4 layCode with | .seq (.region _ ops _) _ => ops | _ => #[]
noncomputable def layId : Nat := match sufC 4 layCode with | .seq (.region id _ _) _ => id | _ => 0
noncomputable def layTail : Code := match sufC 4 layCode with | .seq _ b => b | _ => .skip
theorem lay_base [Sym] (hm : Tryd.prog.follows .mixedOrders = true) : FSound Tryd.prog (globs2 tabs opq) layBase := by
  intro f args objs v objs' e
  refine lim_sound (S := fun _ _ _ => none) hm tab_ok none_sound f args objs v objs' ?_
  exact machU_le blks_ok 60 f _ 0 args _ _ e
theorem SLay_sound [Sym] (hm : Tryd.prog.follows .mixedOrders = true) : FSound Tryd.prog (globs2 tabs opq) SLay := by
  intro f args objs v objs' e
  unfold SLay at e
  rw [beq_dec] at e
  by_cases hf : f = 55
  · subst hf
    rw [decide_eq_true rfl, cond_true] at e
    exact callC_ok (heap := true) (c := layCode) (post' := layTail) (id := layId) (ops := layOps) (k := 4) hm (lay_base hm) Tryd.func55 t55 (by kernel_rfl) (by kernel_rfl) (by kernel_rfl) (by kernel_rfl) (by kernel_rfl) (by kernel_rfl)
      ⟨layOps.getD 0 default, by kernel_rfl, by kernel_rfl⟩ ⟨layOps.getD 1 default, by kernel_rfl, by kernel_rfl⟩ ⟨layOps.getD 2 default, by kernel_rfl, by kernel_rfl⟩ ⟨layOps.getD 3 default, by kernel_rfl, by kernel_rfl⟩ (by kernel_rfl) (by kernel_rfl) (by kernel_rfl) (by kernel_rfl) (by kernel_rfl) (by kernel_rfl) e
  · rw [decide_eq_false hf] at e; cases e
end Go.Proofs.YtegimihckejnkaaDoor.Ab
