/- The rules,the contracts,the plain laws that lead to the statement. Own work. Condition: what each theorem names. -/
import Derived.Test.YtiahgnkffnokfaaGreatDoorG1
set_option linter.all false
set_option linter.unusedVariables false
set_option linter.unusedSimpArgs false
set_option linter.unusedSectionVars false
set_option maxRecDepth 100000
open Nat (reduceAdd reduceMul reduceLT reduceLeDiff reduceEqDiff)
set_option maxHeartbeats 4000000
namespace Go.Proofs.YtiahgnkffnokfaaGreatDoor.Ab
open Go Go.AI
theorem bk11{β:Type}{k:TVal→Heap→Option β}{h:Heap}{d:Nat}:vcall Om (.v (.c (.func 11 []))) [] h d k=k (kB true) h:=qAG 11 _ _ rfl qNI rfl
theorem bk14{β:Type}{k:TVal→Heap→Option β}{h:Heap}{d:Nat}(v:VT)(G:Gd 12 v)(hc:cntV v≤100):vcall Om (.v (.c (.func 14 []))) [kA v.row] h d k=k (kS (txV v)) h:=qAG 14 _ _ (by simp only[exP]) (qST v G (by omega)) rfl
theorem bk13{β:Type}{k:TVal→Heap→Option β}{h:Heap}{d:Nat}(t:List UInt8)(v:VT)(H:Om 13 [kS t] []=some (.tup [.agg (pcells v.row),.c (.p (.int .i64 0))],[])):vcall Om (.v (.c (.func 13 []))) [kS t] h d k=k (.tup [.agg (pcells v.row),.c (.p (.int .i64 0))]) h:=qAG 13 _ _ rfl H (by simp only[exP])
def argN(o:Option (List Int)):Sl Int:=match o with
 |none => .nil
 |some l => .mk false l
theorem qTd(o:Option (List Int)):intsP .i64 o=slP 1 iRow (argN o):=by cases o <;> rfl
theorem qT2(v:VT)(G:Gd 12 v)(hc:cntV v≤40)(ns:List Int)(h:Heap):lim tab.get S 6 0 5 [kS (txV v),kS (decoM (txV v) false ns)] h=some (kB true,[]):=by
 have hp:=qRx v G (by omega);have hb:=qRE v G (by omega) ns [10] [32] (qQd rfl) (qQd rfl) (by decide) (by decide);obtain⟨R',_,_,hl⟩:=qRT v G ns [] [] Bl.nil Bl.nil (by simp; omega);generalize decoM (txV v) false ns=s at *;have rn:=VT.row_len (norm v);have c17:=fun{β:Type} {k:TVal→Heap→Option β} {h:Heap} {d:Nat}=>u17 (β:=β) (k:=k) (h:=h) (d:=d) (norm v) (norm v) (qQ5 12 v G).2
 rw[qT7] at c17;have c13:=fun{β:Type} {k:TVal→Heap→Option β} {h:Heap} {d:Nat}=>bk13 (β:=β) (k:=k) (h:=h) (d:=d) (txV v) (norm v) hp
 have c13b:=fun{β:Type} {k:TVal→Heap→Option β} {h:Heap} {d:Nat}=>bk13 (β:=β) (k:=k) (h:=h) (d:=d) ([10]++s++[32]) (norm v) hb
 have A1:∀ {β:Type}{h:Heap}{k:TVal→Heap→Option β},vbin .add 0 (kS [10]) (kS s) h k=k (kS ([10]++s)) h:=fun{β h k}=>qAQ 0 _ _ (by simp; omega)
 have A2:∀ {β:Type}{h:Heap}{k:TVal→Heap→Option β},vbin .add 0 (kS ([10]++s)) (kS [32]) h k=k (kS ([10]++s++[32])) h:=fun{β h k}=>qAQ 0 _ _ (by simp; omega)
 rw[w6_5,b6_5];simp (maxSteps:=9999999) +contextual only[A1,A2,exa,ne_eq,not_false_eq_true,reduceAdd,reduceMul,reduceLT,reduceLeDiff,reduceEqDiff,Int.reduceLT,Int.reduceLE,Int.reduceEq,Int.reduceToNat,exW,exY,c13,c13b,c17,qTm _ rn,rn,oneOf]
theorem blanks_law(r:RT)(o:Option (List Int))(ir:r.inR):orc S (lim tab.get S) 6 [kA r.row,.v (.c (.p (intsP .i64 o)))] []=some (kB true,[]):=by
 refine(qAC rfl).trans ?_;rw[qTd];show lim tab.get S 6 0 0 [kA r.row,nP (argN o)] h0=_;generalize argN o=ns;rw[w6_0,b6_0];have rl:=RT.row_len r;by_cases hf:fewR r 40=0
 ·simp (maxSteps:=9999999) +contextual only[exa,ne_eq,not_false_eq_true,reduceAdd,reduceMul,reduceLT,reduceLeDiff,reduceEqDiff,Int.reduceLT,Int.reduceLE,Int.reduceEq,Int.reduceToNat,exW,exY,bk11,u29,hf,rl,oneOf]
 have sm:=qRR (by decide) hf;obtain⟨G,hc⟩:=qTJ r 40 5 (by decide) (by decide) ir hf;rw[show((5+1:Nat):Int)=6 from rfl] at G hc;have G12:Gd 12 (goodR r 6):=Gd.up 11 _ (Gd.up 10 _ (Gd.up 9 _ (Gd.up 8 _ (Gd.up 7 _ (Gd.up 6 _ G)))));have c16:=fun{β:Type} {k:TVal→Heap→Option β} {h:Heap} {d:Nat}=>u31 (β:=β) (k:=k) (h:=h) (d:=d) r sm 6
 generalize goodR r 6=v at *;have hl:=qSl 12 v G12;have c14:=fun{β:Type} {k:TVal→Heap→Option β} {h:Heap} {d:Nat}=>bk14 (β:=β) (k:=k) (h:=h) (d:=d) v G12 (by omega)
 have lp:=fun h=>(qTb ns (txV v) (by omega) h (txV v).length 0 (by omega) [] false 0 (Nat.zero_le _) (Nat.le_refl _) (Nat.zero_le _))
 simp only[List.drop_zero,List.nil_append] at lp;rw[show((0:Nat):Int)=0 from rfl] at lp;simp (maxSteps:=9999999) +contextual only[exa,ne_eq,not_false_eq_true,reduceAdd,reduceMul,reduceLT,reduceLeDiff,reduceEqDiff,Int.reduceLT,Int.reduceLE,Int.reduceEq,Int.reduceToNat,exW,exY,bk11,u29,hf,rl,c16,c14];exact(lp _).trans (qT2 v G12 (by omega) ns.list _)
end Go.Proofs.YtiahgnkffnokfaaGreatDoor.Ab
