/- The rules,the contracts,the plain laws that lead to the statement. Own work. Condition: what each theorem names. -/
import Derived.Test.YtnlmlcfipbnpgaaGreatDoorAd
set_option linter.all false
set_option linter.unusedVariables false
set_option linter.unusedSimpArgs false
set_option linter.unusedSectionVars false
set_option maxRecDepth 100000
open Nat renaming reduceAdd->rA,reduceMul->rB,reduceLT->rC,reduceLeDiff->rD,reduceEqDiff->rE
open Int renaming reduceLT->rF,reduceLE->rG,reduceEq->rH,reduceToNat->rI
open Option renaming some.injEq->rJ,bind_eq_some_iff->rK,bind_eq_bind->rL
namespace Go.AI
open Go.RowKit Go.ChangeShapes Go.WideShapes
section
variable [Sym] {H:Type} {enc:TypeId×Value->H} {P:Program} {w:World} {spare:Nat->Bool} {held:Bool} {b0:Nat}
end
section
variable {β:Type} {O:Oracle} {h:Heap} {d:Nat} {k:TVal->Heap->Option β}
def Heap.push(h:Heap)(o:AObj):Heap:={ h with ims:=h.ims++[o] }
theorem Heap.get_push_eq(h:Heap){o:AObj}(ho:o ≠ .dead):(h.push o).get (.im h.ims.length)=some o:=by
 show(match (h.ims++[o])[h.ims.length]? with|some .dead=>none|o=>o)=some o;rw[List.getElem?_append_right (Nat.le_refl _),Nat.sub_self];show(match some o with|some .dead=>none|o=>o)=some o;split
 ·rename_i e; cases e; exact absurd rfl ho
 ·rfl
theorem Heap.get_lt{h:Heap}{i:Nat}{o:AObj}(hh:h.get (.im i)=some o):i<h.ims.length:=by
 rcases Nat.lt_or_ge i h.ims.length with q|q
 ·exact q
 ·have:h.ims[i]?=none:=by simp; exact q
  have e:(match h.ims[i]? with|some .dead=>none|o=>o)=some o:=hh;rw[this] at e; cases e
theorem Heap.get_put_eq(h:Heap){i:Nat}{o:AObj}(hi:i<h.ims.length)(ho:o ≠ .dead):(h.put (.im i) o).get (.im i)=some o:=by
 show(match (h.ims.set i o)[i]? with|some .dead=>none|o=>o)=some o;rw[List.getElem?_set_self hi];split
 ·rename_i e; cases e; exact absurd rfl ho
 ·rfl
def HG(b sz:Nat)(v:Cell)(rows:List (List PVal))(h:Heap):Prop :=
 b<=h.ims.length/\((rows=[]/\v = .p .nilslice)\/(rows≠[]/\∃ n,b<=n/\v = .sref (.im n) 0 rows.length none sz/\h.get (.im n)=some (.cells (pcells rows.flatten) 0)))
theorem HG.nil(b sz:Nat)(h:Heap)(hb:b<=h.ims.length):HG b sz (.p .nilslice) [] h:=⟨hb,.inl ⟨rfl,rfl⟩⟩
theorem qEg{sz:Nat}:∀ {rows:List (List PVal)},(∀ r∈rows,r.length=sz)->(pcells rows.flatten).length=rows.length*sz:=by
 intro rows;unfold pcells;rw[List.length_map]
 induction rows with
 |nil=>intro _; simp
 |cons a r ih=>intro hr; rw[List.flatten_cons,List.length_append,ih (λx hx=>hr x (by simp[hx])),hr a (by simp),List.length_cons,Nat.succ_mul,Nat.add_comm]
end
section
variable {β:Type} {O:Oracle} {h:Heap} {d:Nat} {k:TVal->Heap->Touch->Option β}
theorem qER(op:AOp)(v:TVal)(hb:plan .nil op=some (.pure v)):vtouch O op h d k=k v h noTouch:=by
 show bnd (plan2 op .nil) (λp=>bnd (p.exec O d h) λx=>k x.1 x.2.1 x.2.2)=_;rw[qAZ,hb]; rfl
theorem qHy(g:FuncId)(az:List TVal)(v:TVal)(ha:allB pT az=true)(ho:O g az []=some (v,[]))(hv:pT v=true):vtouch O (.call (.k (.v (.c (.func g [])))) (az.map .k)) h d k=k v h noTouch:=by
 obtain⟨a1,a2,a3⟩:=qFZ ha;obtain⟨_,_,q3,_⟩:=qAU hv;have hb:plan .nil (.call (.k (.v (.c (.func g [])))) (az.map .k))=some (.call g az):=by
  have hm:(az.map X.k).mapM (λx=>X.ev .nil x)=some az:=by
   clear ha ho a1 a2 a3
   induction az with
   |nil=>rfl
   |cons a az ih=>rw[List.map_cons,List.mapM_cons,ih]; rfl
  show((az.map X.k).mapM (λx=>X.ev .nil x)).bind (λvs=>some (Plan.call g (vs++[])))=_;rw[hm]; simp
 have hc:callOp O g az d h=some (v,h,noTouch):=by
  unfold callOp;simp[a1,a2,reach,fuelReach,a3,ho,q3,putAll,noTouch];rfl
 show bnd (plan2 (.call (.k (.v (.c (.func g [])))) (az.map .k)) .nil) (λp=>bnd (p.exec O d h) λx=>k x.1 x.2.1 x.2.2)=_;rw[qAZ,hb];show bnd (callOp O g az d h) _=_;rw[hc]
end
section
variable {β:Type} {O:Oracle} {h:Heap} {d:Nat} {k:TVal->Heap->Option β} {kt:TVal->Heap->Touch->Option β}
theorem qBN(op:BinOp)(kd:Nat)(x y c:Cell)(hb:binV op kd x y=some c):vbin op kd (.v (.c x)) (.v (.c y)) h k=k (.v (.c c)) h:=by
 show bnd (binF op kd x y) (λc=>k (.v (.c c)) h)=_;rw[qIX,hb,bnd_some]
theorem qCn(op:AOp)(needs:List Ref)(pk:List AObj->Option Res)(v:TVal)(h':Heap)(t:Touch)(hb:plan .nil op=some (.go needs pk))(hg:goOp needs pk d h=some (v,h',t)):vtouch O op h d kt=kt v h' t:=by
 show bnd (plan2 op .nil) (λp=>bnd (p.exec O d h) λx=>kt x.1 x.2.1 x.2.2)=_;rw[qAZ,hb];show bnd (goOp needs pk d h) _=_;rw[hg,bnd_some]
theorem qHQ(z:List Cell):vtouch O (.alloc z false) h d kt=kt (.v (.c (.ptr (.own d (h.gen d+1)) 0))) (h.own d (h.gen d+1) (.cells z 0)) ⟨[],[.own d],false⟩:=qCn _ _ _ _ _ _ rfl rfl
end
theorem qOp{T:FuncId->Option MFunc}{S S2:Oracle}(h1:∀ f a o r,S2 f a o=some r->orc S (lim T S) f a o=some r)(h2:∀ f a o,S2 f a o=none->S f a o=none):WLe (lim T S2) (lim T S):=by
 have key:∀ n,WLe (mach T S2 n) (lim T S):=by
  intro n
  induction n with
  |zero=>intro f q l vs h r e; cases e
  |succ n ih =>
   intro f q l vs h r e;have e':bnd (T f) (λF=>stepF F (orc S2 (mach T S2 n)) (mach T S2 n f q) q l vs h)=some r:=e;cases hT:T f with
   |none=>rw[hT] at e'; cases e'
   |some F =>
    rw[hT] at e';have hO:OSup (λ_=>orc S (lim T S)) (orc S2 (mach T S2 n)):=by
     intro g a o r' hr;refine Ev.all λ_ => ?_
     cases hs:S2 g a o with
     |some x =>
      have:orc S2 (mach T S2 n) g a o=some x:=by show Option.rec (motive:=λ_=>Res1) _ some (S2 g a o)=_; rw[hs]
      rw[this] at hr;cases hr;exact h1 g a o _ hs
     |none =>
      have ha:orc S2 (mach T S2 n) g a o=mach T S2 n g (lenF o) 0 a { ims:=o,owns := .nil }:=by show Option.rec (motive:=λ_=>Res1) _ some (S2 g a o)=_; rw[hs]
      have hb:orc S (lim T S) g a o=lim T S g (lenF o) 0 a { ims:=o,owns := .nil }:=by show Option.rec (motive:=λ_=>Res1) _ some (S g a o)=_; rw[h2 g a o hs]
      rw[ha] at hr;show orc S (lim T S) g a o=some r';rw[hb];exact ih _ _ _ _ _ _ hr
    have hR:RSup (λ_=>lim T S f q) (mach T S2 n f q):=λl vs h r hr=>Ev.all λ_=>ih _ _ _ _ _ _ hr
    obtain⟨N,hN⟩:=qBn hO hR e';rw[qAA hT];exact hN N (Nat.le_refl _)
 intro f q l vs h r e;obtain⟨n,hn⟩:=qHS e;exact key n f q l vs h r hn
theorem qIl{T:FuncId->Option MFunc}{S S2:Oracle}(h1:∀ f a o r,S2 f a o=some r->orc S (lim T S) f a o=some r)(h2:∀ f a o,S2 f a o=none->S f a o=none){f:FuncId}{a:List TVal}{o:List AObj}{r:TVal×List AObj}(e:orc S2 (lim T S2) f a o=some r):orc S (lim T S) f a o=some r:=by
 cases hs:S2 f a o with
 |some x =>
  have:orc S2 (lim T S2) f a o=some x:=by show Option.rec (motive:=λ_=>Res1) _ some (S2 f a o)=_; rw[hs]
  rw[this] at e;cases e;exact h1 f a o _ hs
 |none =>
  have ha:orc S2 (lim T S2) f a o=lim T S2 f (lenF o) 0 a { ims:=o,owns := .nil }:=by show Option.rec (motive:=λ_=>Res1) _ some (S2 f a o)=_; rw[hs]
  have hb:orc S (lim T S) f a o=lim T S f (lenF o) 0 a { ims:=o,owns := .nil }:=by show Option.rec (motive:=λ_=>Res1) _ some (S f a o)=_; rw[h2 f a o hs]
  rw[ha] at e;rw[hb];exact qOp h1 h2 f _ _ _ _ _ e
noncomputable def addF(g:FuncId)(F:List TVal->Option TVal)(S:Oracle):Oracle:=λf args objs=>bif Nat.beq f g then (match objs with
 |[]=>match F args with
  |some v=>some (v,[])
  |none=>S f args []
 |_=>S f args objs) else S f args objs
def Known(T:FuncId->Option MFunc)(S S2:Oracle):Prop:=(∀ f a o r,S2 f a o=some r->orc S (lim T S) f a o=some r)/\∀ f a o,S2 f a o=none->S f a o=none
theorem Known.refl(T:FuncId->Option MFunc)(S:Oracle):Known T S S:=⟨λf a o r e=>by show Option.rec (motive:=λ_=>Res1) _ some (S f a o)=_; rw[e],λ_ _ _ e=>e⟩
theorem Known.add{T:FuncId->Option MFunc}{S S2:Oracle}(K:Known T S S2)(g:FuncId)(F:List TVal->Option TVal)(hF:∀ args v,F args=some v->orc S (lim T S) g args []=some (v,[])):Known T S (addF g F S2):=by
 constructor
 ·intro f a o r e;unfold addF at e;rw[qAH] at e;by_cases hf:f=g
  ·subst hf;rw[decide_eq_true rfl,cond_true] at e;split at e
   ·split at e
    ·rename_i v hv;cases e;exact hF a v hv
    ·exact K.1 _ _ _ _ e
   ·exact K.1 _ _ _ _ e
  ·rw[decide_eq_false hf,cond_false] at e;exact K.1 _ _ _ _ e
 ·intro f a o e;unfold addF at e;rw[qAH] at e;by_cases hf:f=g
  ·subst hf;rw[decide_eq_true rfl,cond_true] at e;split at e
   ·split at e
    ·cases e
    ·exact K.2 _ _ _ e
   ·exact K.2 _ _ _ e
  ·rw[decide_eq_false hf,cond_false] at e;exact K.2 _ _ _ e
theorem Known.run{T:FuncId->Option MFunc}{D:FuncId->Option BlkF}{S S2:Oracle}(K:Known T S S2)(hD:BOK T D){N:Nat}{f:FuncId}{args:List TVal}{r:TVal×List AObj}(hs:S2 f args []=none)(e:machU D S2 N f 0 0 args h0=some r):orc S (lim T S) f args []=some r:=by
 refine qIl K.1 K.2 ?_;have ha:orc S2 (lim T S2) f args []=lim T S2 f 0 0 args h0:=by show Option.rec (motive:=λ_=>Res1) _ some (S2 f args [])=_; rw[hs]; rfl
 rw[ha];exact qBC hD N f 0 0 _ _ _ e
def obnd{α β:Type}(o:Option α)(k:α->Option β):Option β:=o.bind k
def objK{β:Type}(o:Option AObj)(k:List Cell->Nat->Option β):Option β:=match o with
 |some (.cells cs imm)=>k cs imm
 |_=>none
def chk{β:Type}(c:Bool)(x:Option β):Option β:=bif c then x else none
@[congr] theorem obnd_congr {α β:Type} {o o':Option α} {k:α->Option β} (e:o=o'):obnd o k=obnd o' k:=by rw[e]
@[congr] theorem objK_congr {β:Type} {o o':Option AObj} {k:List Cell->Nat->Option β} (e:o=o'):objK o k=objK o' k:=by rw[e]
@[congr] theorem chk_congr {β:Type} {c c':Bool} {x:Option β} (e:c=c'):chk c x=chk c' x:=by rw[e]
section
variable {β:Type} {O:Oracle} {h:Heap} {d:Nat} {k:TVal->Heap->Option β}
@[congr] theorem vop_congr {op op':AOp} (e:op=op'):vop O op h d k=vop O op' h d k:=by rw[e]
@[congr] theorem vbin_congr {op:BinOp} {kd:Nat} {a a' b b':TVal} (e:a=a') (f:b=b'):vbin op kd a b h k=vbin op kd a' b' h k:=by rw[e,f]
@[congr] theorem vtoInt_congr {K:IntKind} {a a':TVal} (e:a=a'):vtoInt K a h k=vtoInt K a' h k:=by rw[e]
@[congr] theorem vload_congr {g:Bool} {n:Nat} {a a':TVal} (e:a=a'):vload g n a h k=vload g n a' h k:=by rw[e]
@[congr] theorem vstore_congr {n:Nat} {a a' v v':TVal} (e:a=a') (f:v=v'):vstore n a v h k=vstore n a' v' h k:=by rw[e,f]
@[congr] theorem vfield_congr {o n:Nat} {g:Bool} {a a':TVal} (e:a=a'):vfield o n g a h k=vfield o n g a' h k:=by rw[e]
@[congr] theorem vfaddr_congr {o:Nat} {a a':TVal} (e:a=a'):vfaddr o a h k=vfaddr o a' h k:=by rw[e]
@[congr] theorem viaddr_congr {sz:Nat} {a a' i i':TVal} (e:a=a') (f:i=i'):viaddr sz a i h k=viaddr sz a' i' h k:=by rw[e,f]
@[congr] theorem vindex_congr {a a' i i':TVal} (e:a=a') (f:i=i'):vindex a i h k=vindex a' i' h k:=by rw[e,f]
@[congr] theorem vext_congr {a a':TVal} {i:Nat} (e:a=a'):vext a i h k=vext a' i h k:=by rw[e]
@[congr] theorem vcall_congr {g:TVal} {az as':List TVal} (e:az=as'):vcall O g az h d k=vcall O g as' h d k:=by rw[e]
@[congr] theorem vlen_congr {kd:Nat} {a a':TVal} (e:a=a'):vlen O kd a h d k=vlen O kd a' h d k:=by rw[e]
@[congr] theorem vif_congr {c c':TVal} {x y:Option β} (e:c=c'):vif c x y=vif c' x y:=by rw[e]
@[congr 100] theorem vguard_congr {c c':TVal} {w:Bool} {doit:(TVal->Heap->Option β)->Option β} (e:c=c'):vguard c w doit h k=vguard c' w doit h k:=by rw[e]
@[congr] theorem vcell_congr {g:Bool} {n:Nat} {a a':TVal} {k:Comp->Res1} (e:a=a'):vcell g n a h k=vcell g n a' h k:=by rw[e]
@[congr] theorem tcomp_congr {a a':TVal} {k:Comp->Option β} (e:a=a'):tcomp a k=tcomp a' k:=by rw[e]
theorem qIt(sz:Nat)(t:Bool)(rows:List (List PVal))(i:Int):viaddr sz (kSl sz t rows) (kI i) h k=chk (decide (0<=i)) (obnd rows[i.toNat]? λrow=>k (.v (.c (.p (.pptr row 0)))) h):=by
 by_cases hi:0<=i
 ·obtain⟨n,rfl⟩:∃ n:Nat,i=n:=⟨i.toNat,by omega⟩;rw[decide_eq_true hi];show(bif Nat.beq sz sz then bnd (nthF rows n) _ else _)=obnd rows[(n:Int).toNat]? _;rw[qAH,decide_eq_true rfl,qAc,Int.toNat_natCast];unfold obnd;cases rows[n]? <;> rfl
 ·rw[decide_eq_false hi];obtain⟨n,rfl⟩:∃ n:Nat,i=Int.negSucc n:=⟨(-i-1).toNat,by omega⟩;rfl
theorem qEJ(sz:Nat)(r:Ref)(rows:List (List PVal))(i:Int):viaddr sz (.v (.c (.tsl sz rows r))) (kI i) h k=chk (decide (0<=i)) (obnd rows[i.toNat]? λrow=>k (.v (.c (.p (.pptr row 0)))) h):=by
 by_cases hi:0<=i
 ·obtain⟨n,rfl⟩:∃ n:Nat,i=n:=⟨i.toNat,by omega⟩;rw[decide_eq_true hi];show(bif Nat.beq sz sz then bnd (nthF rows n) _ else _)=obnd rows[(n:Int).toNat]? _;rw[qAH,decide_eq_true rfl,qAc,Int.toNat_natCast];unfold obnd;cases rows[n]? <;> rfl
 ·rw[decide_eq_false hi];obtain⟨n,rfl⟩:∃ n:Nat,i=Int.negSucc n:=⟨(-i-1).toNat,by omega⟩;rfl
theorem qHU(sz:Nat)(r:Ref)(off len:Nat)(cap:Option Nat)(i:Int):viaddr sz (.v (.c (.sref r off len cap sz))) (kI i) h k=chk (decide (0<=i)&&decide (i.toNat<len)) (k (.v (.c (.ptr r (off+i.toNat*sz)))) h):=by
 by_cases hi:0<=i
 ·obtain⟨n,rfl⟩:∃ n:Nat,i=n:=⟨i.toNat,by omega⟩;rw[decide_eq_true hi];show(bif Nat.beq sz sz&&Nat.blt n len then _ else _)=chk (true&&decide ((n:Int).toNat<len)) _;rw[qAH,decide_eq_true rfl,Int.toNat_natCast];have:Nat.blt n len=decide (n<len):=by
   by_cases h:n<len
   ·rw[decide_eq_true h]; exact Nat.ble_eq_true_of_le h
   ·rw[decide_eq_false h]; exact Bool.eq_false_iff.2 λe=>h (Nat.le_of_ble_eq_true e)
  rw[this]; rfl
 ·rw[decide_eq_false hi];obtain⟨n,rfl⟩:∃ n:Nat,i=Int.negSucc n:=⟨(-i-1).toNat,by omega⟩;rfl
theorem qNz(s:List UInt8)(i:Int):vindex (kS s) (kI i) h k=chk (decide (0<=i)) (obnd s[i.toNat]? λb=>k (kU b) h):=by
 by_cases hi:0<=i
 ·obtain⟨n,rfl⟩:∃ n:Nat,i=n:=⟨i.toNat,by omega⟩;rw[decide_eq_true hi];show bnd (nthF s n) _=obnd s[(n:Int).toNat]? _;rw[qAc,Int.toNat_natCast];unfold obnd;cases s[n]? <;> rfl
 ·rw[decide_eq_false hi];obtain⟨n,rfl⟩:∃ n:Nat,i=Int.negSucc n:=⟨(-i-1).toNat,by omega⟩;rfl
theorem qB9(n off:Nat)(row:List PVal):vload false n (.v (.c (.p (.pptr row off)))) h k=obnd row[off]? λv=>k (.v (.c (.p v))) h:=by
 show bnd (nthF (pcells row) off) _=_;rw[qAc];show bnd ((row.map Cell.p)[off]?) _=_;rw[List.getElem?_map];cases row[off]? <;> rfl
theorem qAm(n:Nat)(row:List PVal)(hn:row.length=n):vload true n (.v (.c (.p (.pptr row 0)))) h k=k (.v (.agg (pcells row))) h:=by
 show(bif Nat.beq (lenF (takeF (dropF (pcells row) 0) n)) n then _ else _)=_;rw[qAI,qBR,qBT,List.drop_zero];have:(pcells row).take n=pcells row:=List.take_of_length_le (by simp[pcells,hn]);rw[this,show(pcells row).length=n by simp[pcells,hn],qAH,decide_eq_true rfl]; rfl
theorem qEQ(n off:Nat)(row:List PVal):vload true n (.v (.c (.p (.pptr row off)))) h k=chk (decide (((row.drop off).take n).length=n)) (k (.v (.agg (pcells ((row.drop off).take n)))) h):=by
 show(bif Nat.beq (lenF (takeF (dropF (pcells row) off) n)) n then _ else _)=_;rw[qAI,qBR,qBT];have:((pcells row).drop off).take n=pcells ((row.drop off).take n):=by simp[pcells]
 rw[this,qAH];have:(pcells ((row.drop off).take n)).length=((row.drop off).take n).length:=by unfold pcells; rw[List.length_map]
 rw[this];rfl
theorem qJs(n off:Nat)(r:Ref):vload false n (.v (.c (.ptr r off))) h k=objK (h.get r) λcs _=>obnd cs[off]? λc=>k (.v (.c c)) h:=by
 show bnd (getF h r) (λo=>cellsOf o λcs _=>partF false n cs off λv=>k v h)=_;rw[qA6];cases h.get r with
 |none=>rfl
 |some o=>cases o with
  |cells cs imm =>
   show bnd (nthF cs off) _=obnd cs[off]? _;rw[qAc];cases cs[off]? <;> rfl
  |_=>rfl
theorem qHo(n off:Nat)(r:Ref):vload true n (.v (.c (.ptr r off))) h k=objK (h.get r) λcs _=>chk (decide (((cs.drop off).take n).length=n)) (k (.v (.agg ((cs.drop off).take n))) h):=by
 show bnd (getF h r) (λo=>cellsOf o λcs _=>partF true n cs off λv=>k v h)=_;rw[qA6];cases h.get r with
 |none=>rfl
 |some o=>cases o with
  |cells cs imm =>
   show(bif Nat.beq (lenF (takeF (dropF cs off) n)) n then _ else _)=_;rw[qAI,qBR,qBT,qAH]; rfl
  |_=>rfl
theorem qOE(n off:Nat)(r:Ref){k:Comp->Res1}:vcell false n (.v (.c (.ptr r off))) h k=objK (h.get r) λcs _=>obnd cs[off]? λc=>k (.c c):=by
 show bnd (getF h r) (λo=>cellsOf o λcs _=>partF false n cs off λv=>tcomp v k)=_;rw[qA6];cases h.get r with
 |none=>rfl
 |some o=>cases o with
  |cells cs imm =>
   show bnd (nthF cs off) _=obnd cs[off]? _;rw[qAc];cases cs[off]? <;> rfl
  |_=>rfl
theorem qNL(n off:Nat)(r:Ref){k:Comp->Res1}:vcell true n (.v (.c (.ptr r off))) h k=objK (h.get r) λcs _=>chk (decide (((cs.drop off).take n).length=n)) (k (.agg ((cs.drop off).take n))):=by
 show bnd (getF h r) (λo=>cellsOf o λcs _=>partF true n cs off λv=>tcomp v k)=_;rw[qA6];cases h.get r with
 |none=>rfl
 |some o=>cases o with
  |cells cs imm =>
   show(bif Nat.beq (lenF (takeF (dropF cs off) n)) n then _ else _)=_;rw[qAI,qBR,qBT,qAH]; rfl
  |_=>rfl
def put1(cs:List Cell)(off:Nat)(x:List Cell):List Cell:=splice cs off x
theorem qDT(cs x:List Cell)(e:x.length=cs.length):put1 cs 0 x=x:=by
 unfold put1 splice; simp[e]
theorem qOe(n off:Nat)(r:Ref)(x:Comp):vstore n (.v (.c (.ptr r off))) (.v x) h k=objK (h.get r) λcs imm=>chk (decide (imm<=off)&&(decide (x.cells.length=n)&&decide (off+n<=cs.length))) (k .undef (h.put r (.cells (put1 cs off x.cells) imm))):=by
 show bnd (getF h r) (λo=>cellsOf o λcs imm=>bif Nat.ble imm off&&(Nat.beq (lenF x.cells) n&&Nat.ble (Nat.add off n) (lenF cs)) then _ else _)=_;rw[qA6];cases h.get r with
 |none=>rfl
 |some o=>cases o with
  |cells cs imm =>
   show(bif Nat.ble imm off&&(Nat.beq (lenF x.cells) n&&Nat.ble (off+n) (lenF cs)) then _ else _)=_;rw[qAI,qAI,qB4,qB4,qAH]; rfl
  |_=>rfl
theorem qOT(off n:Nat)(cs:List Cell):vfield off n false (.v (.agg cs)) h k=obnd cs[off]? λc=>k (.v (.c c)) h:=by
 show bnd (nthF cs off) _=_;rw[qAc];cases cs[off]? <;> rfl
theorem qNR(off n:Nat)(cs:List Cell):vfield off n true (.v (.agg cs)) h k=chk (decide (((cs.drop off).take n).length=n)) (k (.v (.agg ((cs.drop off).take n))) h):=by
 show(bif Nat.beq (lenF (takeF (dropF cs off) n)) n then _ else _)=_;rw[qAI,qBR,qBT,qAH]; rfl
theorem qQg(vs:List Comp)(i:Nat):vext (.tup vs) i h k=obnd vs[i]? λv=>k (.v v) h:=by
 show bnd (nthF vs i) _=_;rw[qAc];cases vs[i]? <;> rfl
theorem qPn(kd:Nat)(a b:List UInt8):vbin .add kd (kS a) (kS b) h k=chk (decide (a.length+b.length<=4611686018427387904)) (k (kS (a++b)) h):=by
 show bnd (bif Nat.ble (Nat.add (lenF a) (lenF b)) 4611686018427387904 then _ else _) _=_;rw[qAI,qAI,qB4];show bnd (bif decide (a.length+b.length<=4611686018427387904) then _ else _) _=_;cases decide (a.length+b.length<=4611686018427387904) <;> rfl
theorem qPX(kd:Nat)(a b:List UInt8):vbin .lss kd (kS a) (kS b) h k=k (kB (bless a b)) h:=qBN _ _ _ _ _ (by rfl)
theorem qPP(kd:Nat)(a b:List UInt8):vbin .leq kd (kS a) (kS b) h k=k (kB (bless a b||a==b)) h:=qBN _ _ _ _ _ (by rfl)
theorem qPU(kd:Nat)(a b:List UInt8):vbin .gtr kd (kS a) (kS b) h k=k (kB (!(bless a b||a==b))) h:=qBN _ _ _ _ _ (by rfl)
theorem qP7(kd:Nat)(a b:List UInt8):vbin .geq kd (kS a) (kS b) h k=k (kB (!(bless a b))) h:=qBN _ _ _ _ _ (by rfl)
theorem x_mv(v:TVal):vop O (.mv (.k v)) h d k=k v h:=by
 show opK O (.mv (.k v)) .nil h d k=_;rw[qAn]; rfl
theorem qQS(a b:Int):vop O (.minmax false [.k (kI a),.k (kI b)]) h d k=k (kI (if b<a then b else a)) h:=by
 refine(qAe _ _ ?_);have e:minmaxV false [some (kI a),some (kI b)]=some (.int .i64 (if b<a then b else a)):=by simp[minmaxV,tInt,foldMM]
 show Option.map (λv=>Plan.pure (.pv v)) (minmaxV false [some (kI a),some (kI b)])=_;rw[e]; rfl
theorem qQH(a b:Int):vop O (.minmax true [.k (kI a),.k (kI b)]) h d k=k (kI (if a<b then b else a)) h:=by
 refine(qAe _ _ ?_);have e:minmaxV true [some (kI a),some (kI b)]=some (.int .i64 (if a<b then b else a)):=by simp[minmaxV,tInt,foldMM]
 show Option.map (λv=>Plan.pure (.pv v)) (minmaxV true [some (kI a),some (kI b)])=_;rw[e]; rfl
theorem qC1(z:List Cell)(ps:List (Nat×Nat×X))(qs:List (Nat×Nat×Comp))(hq:(ps.mapM λ(p:Nat×Nat×X)=>match p.2.2.ev .nil with|some (.v v)=>some (p.1,p.2.1,v)|_=>none)=some qs):vop O (.build z ps) h d k=obnd (fillA z qs) λcs=>k (.v (.agg cs)) h:=by
 cases hf:fillA z qs with
 |none =>
  show opK O _ .nil h d k=_;rw[qAn];have:plan .nil (.build z ps)=none:=by
   show(do let ps' <- ps.mapM (λ(p:Nat×Nat×X)=>match p.2.2.ev .nil with|some (.v v)=>some (p.1,p.2.1,v)|_=>none); let cs <- fillA z ps'; pure (Plan.pure (.v (.agg cs))))=none;rw[hq]; simp[hf]
  unfold slow; rw[this]; rfl
 |some cs =>
  refine qPy z ps cs ?_;show(do let ps' <- ps.mapM (λ(p:Nat×Nat×X)=>match p.2.2.ev .nil with|some (.v v)=>some (p.1,p.2.1,v)|_=>none); let cs <- fillA z ps'; pure (Plan.pure (.v (.agg cs))))=_;rw[hq]; simp[hf]
theorem qME(z:List Cell):vop O (.build z []) h d k=k (.v (.agg z)) h:=qC1 z [] [] rfl
theorem qL6(z:List Cell)(o n:Nat)(v:Comp):vop O (.build z [(o,n,.k (.v v))]) h d k=obnd (fillA z [(o,n,v)]) λcs=>k (.v (.agg cs)) h:=qC1 _ _ _ rfl
theorem qNG(z:List Cell)(o n o2 n2:Nat)(v v2:Comp):vop O (.build z [(o,n,.k (.v v)),(o2,n2,.k (.v v2))]) h d k=obnd (fillA z [(o,n,v),(o2,n2,v2)]) λcs=>k (.v (.agg cs)) h:=qC1 _ _ _ rfl
theorem qMO(z:List Cell)(o n o2 n2 o3 n3:Nat)(v v2 v3:Comp):vop O (.build z [(o,n,.k (.v v)),(o2,n2,.k (.v v2)),(o3,n3,.k (.v v3))]) h d k=obnd (fillA z [(o,n,v),(o2,n2,v2),(o3,n3,v3)]) λcs=>k (.v (.agg cs)) h:=qC1 _ _ _ rfl
theorem qMN(z:List Cell)(o n o2 n2 o3 n3 o4 n4:Nat)(v v2 v3 v4:Comp):vop O (.build z [(o,n,.k (.v v)),(o2,n2,.k (.v v2)),(o3,n3,.k (.v v3)),(o4,n4,.k (.v v4))]) h d k=obnd (fillA z [(o,n,v),(o2,n2,v2),(o3,n3,v3),(o4,n4,v4)]) λcs=>k (.v (.agg cs)) h:=qC1 _ _ _ rfl
theorem qFJ(l:List PVal):unps (pcells l)=some l:=by
 unfold unps pcells
 induction l with
 |nil=>rfl
 |cons a r ih=>rw[List.map_cons,List.mapM_cons,ih]; rfl
theorem qKj(sz:Nat)(z:List Cell):vop O (.bslice sz 0 z [] false) h d k=k (kSl sz true []) h:=qAe _ _ rfl
theorem qLS(z:List Cell)(x:PVal)(hz:z.length=1):vop O (.bslice 1 1 z [(0,.k (.v (.c (.p x))))] false) h d k=k (kSl 1 true [[x]]) h:=by
 match z,hz with
 |[z0],_=>exact qAe _ _ rfl
theorem qJx(sz:Nat)(z:List Cell)(r:List PVal)(hz:z.length=sz)(hr:r.length=sz):vop O (.bslice sz 1 z [(0,.k (.v (.agg (pcells r))))] false) h d k=k (kSl sz true [r]) h:=by
 refine qAe _ _ ?_;subst hz;have e1:fillA (rep 1 z) [(0*z.length,z.length,Comp.agg (pcells r))]=some (pcells r):=by
  have l1:(Comp.agg (pcells r)).cells.length=z.length:=by show(pcells r).length=_; unfold pcells; rw[List.length_map,hr]
  have l2:(rep 1 z).length=z.length:=by simp[rep]
  simp only[fillA,l1,l2,Nat.zero_mul,Nat.zero_add,Nat.le_refl,and_self,if_true];show some (splice (rep 1 z) 0 (pcells r))=_;have l3:(pcells r).length=z.length:=l1;simp[splice,l2,l3,rep]
 have e2:chunk z.length 1 (pcells r)=some [r]:=by
  show(do let row <- unps ((pcells r).take z.length); if row.length=z.length then pure (row::(<- chunk z.length 0 ((pcells r).drop z.length))) else none)=_;have:(pcells r).take z.length=pcells r:=List.take_of_length_le (by simp[pcells,hr]);rw[this,qFJ];simp[hr,chunk]
 simp only[plan,List.mapM_cons,List.mapM_nil,X.ev,Option.pure_def,rL,Option.bind_some,e1,e2,Bool.false_eq_true,if_false]
theorem qJE(sz:Nat)(z:List Cell)(r s:List PVal)(hz:z.length=sz)(hr:r.length=sz)(hs:s.length=sz):vop O (.bslice sz 2 z [(0,.k (.v (.agg (pcells r)))),(1,.k (.v (.agg (pcells s))))] false) h d k=k (kSl sz true [r,s]) h:=by
 refine qAe _ _ ?_;subst hz;have l1:(Comp.agg (pcells r)).cells.length=z.length:=by show(pcells r).length=_; unfold pcells; rw[List.length_map,hr]
 have l1':(Comp.agg (pcells s)).cells.length=z.length:=by show(pcells s).length=_; unfold pcells; rw[List.length_map,hs]
 have l3:(pcells r).length=z.length:=l1;have l3':(pcells s).length=z.length:=l1';have e1:fillA (rep 2 z) [(0*z.length,z.length,Comp.agg (pcells r)),(1*z.length,z.length,Comp.agg (pcells s))]=some (pcells r++pcells s):=by
  have l2:(rep 2 z).length=z.length+z.length:=by simp[rep]
  have q1:splice (rep 2 z) 0 (pcells r)=pcells r++z:=by simp[splice,l3,rep]
  simp only[fillA,l1,l1',l2,Nat.zero_mul,Nat.zero_add,Nat.le_refl,true_and,if_true];rw[if_pos (by omega)];show(if 1*z.length+z.length<=(splice (rep 2 z) 0 (pcells r)).length then some (splice (splice (rep 2 z) 0 (pcells r)) (1*z.length) (pcells s)) else none)=_;rw[q1,if_pos (by simp[l3])];rw[Nat.one_mul];unfold splice;rw[l3'];have u1:(pcells r++z).take z.length=pcells r:=by rw[<- l3]; simp
  have u2:(pcells r++z).drop (z.length+z.length)=[]:=List.drop_eq_nil_of_le (by simp[l3]);rw[u1,u2,List.append_nil]
 have e2:chunk z.length 2 (pcells r++pcells s)=some [r,s]:=by
  have t1:(pcells r++pcells s).take z.length=pcells r:=by rw[<- l3]; simp
  have t2:(pcells r++pcells s).drop z.length=pcells s:=by rw[<- l3]; simp
  have t3:(pcells s).take z.length=pcells s:=List.take_of_length_le (by omega);show(do let row <- unps ((pcells r++pcells s).take z.length); if row.length=z.length then pure (row::(<- chunk z.length 1 ((pcells r++pcells s).drop z.length))) else none)=_;rw[t1,t2,qFJ];have:chunk z.length 1 (pcells s)=some [s]:=by
   show(do let row <- unps ((pcells s).take z.length); if row.length=z.length then pure (row::(<- chunk z.length 0 ((pcells s).drop z.length))) else none)=_;rw[t3,qFJ];simp[hs,chunk]
  rw[this];simp[hr]
 simp only[plan,List.mapM_cons,List.mapM_nil,X.ev,Option.pure_def,rL,Option.bind_some,e1,e2,Bool.false_eq_true,if_false]
theorem qBc(l:List PVal):allB isP (pcells l)=true:=by
 unfold pcells
 induction l with
 |nil=>rfl
 |cons a r ih=>exact ih
theorem qPV(frz:Bool)(x:PVal):vfin frz 0 [.c (.p x)] h=some (.v (.c (.p x)),[]):=qAM _ _ rfl
theorem qPY(frz:Bool)(r:List PVal):vfin frz 0 [.agg (pcells r)] h=some (.v (.agg (pcells r)),[]):=qAM _ _ (by show(bif allB isP (pcells r) then true else false)=true; rw[qBc]; rfl)
theorem qQA(frz:Bool)(x y:PVal):vfin frz 0 [.c (.p x),.c (.p y)] h=some (.tup [.c (.p x),.c (.p y)],[]):=qAM _ _ rfl
theorem qO5(frz:Bool)(r:List PVal)(y:PVal):vfin frz 0 [.agg (pcells r),.c (.p y)] h=some (.tup [.agg (pcells r),.c (.p y)],[]):=qAM _ _ (by show(bif allB isP (pcells r) then true else false)=true; rw[qBc]; rfl)
theorem qPG(frz:Bool)(r:List PVal)(y:PVal):vfin frz 0 [.c (.p y),.agg (pcells r)] h=some (.tup [.c (.p y),.agg (pcells r)],[]):=qAM _ _ (by show(bif allB isP (pcells r) then true else false)=true; rw[qBc]; rfl)
theorem qP4(frz:Bool)(x y z:PVal):vfin frz 0 [.c (.p x),.c (.p y),.c (.p z)] h=some (.tup [.c (.p x),.c (.p y),.c (.p z)],[]):=qAM _ _ rfl
theorem qN8(frz:Bool)(r:List PVal)(y z:PVal):vfin frz 0 [.agg (pcells r),.c (.p y),.c (.p z)] h=some (.tup [.agg (pcells r),.c (.p y),.c (.p z)],[]):=qAM _ _ (by show(bif allB isP (pcells r) then true else false)=true; rw[qBc]; rfl)
theorem qNe(frz:Bool):vfin frz 0 [] h=some (.tup [],[]):=qAM _ _ rfl
end
theorem qK0{α β:Type}(a:α)(k:α->Option β):obnd (some a) k=k a:=rfl
theorem qNj{α γ β:Type}(f:α->γ)(o:Option α)(k:γ->Option β):obnd (o.map f) k=obnd o λa=>k (f a):=by cases o <;> rfl
theorem qI1{β:Type}(cs:List Cell)(imm:Nat)(k:List Cell->Nat->Option β):objK (some (.cells cs imm)) k=k cs imm:=rfl
theorem qM9{β:Type}(x:Option β):chk true x=x:=rfl
theorem qJM(row:List PVal)(i:Nat):(pcells row)[i]?=(row[i]?).map .p:=by unfold pcells; rw[List.getElem?_map]
theorem qCP(row:List PVal):(pcells row).length=row.length:=by unfold pcells; rw[List.length_map]
theorem dec0(n:Nat):decide ((0:Int)<=(n:Int))=true:=decide_eq_true (by omega)
theorem qCc(h:Heap)(d g:Nat)(cs:List Cell)(imm:Nat)(hd:d+1<1048576):(h.own d g (.cells cs imm)).get (.own d g)=some (.cells cs imm):=Heap.own_get h d g _ hd (λe=>by cases e)
theorem ex :
  (∀ {β:Type}{h:Heap}{k:TVal->Heap->Option β}(kd:Nat)(K:IntKind)(a b:Int),vbin .add kd (kN K a) (kN K b) h k=k (kN K (K.wrap (a+b))) h) /\
  (∀ {β:Type}{h:Heap}{k:TVal->Heap->Option β}(kd:Nat)(K:IntKind)(a b:Int),vbin .sub kd (kN K a) (kN K b) h k=k (kN K (K.wrap (a - b))) h) /\
  (∀ {β:Type}{h:Heap}{k:TVal->Heap->Option β}(kd:Nat)(K:IntKind)(a b:Int),vbin .mul kd (kN K a) (kN K b) h k=k (kN K (K.wrap (a*b))) h) /\
  (∀ {β:Type}{h:Heap}{k:TVal->Heap->Option β}(kd:Nat)(K:IntKind)(a b:Int),vbin .eql kd (kN K a) (kN K b) h k=k (kB (decide (a=b))) h) /\
  (∀ {β:Type}{h:Heap}{k:TVal->Heap->Option β}(kd:Nat)(K:IntKind)(a b:Int),vbin .neq kd (kN K a) (kN K b) h k=k (kB (!decide (a=b))) h) /\
  (∀ {β:Type}{h:Heap}{k:TVal->Heap->Option β}(kd:Nat)(K:IntKind)(a b:Int),vbin .lss kd (kN K a) (kN K b) h k=k (kB (decide (a<b))) h) /\
  (∀ {β:Type}{h:Heap}{k:TVal->Heap->Option β}(kd:Nat)(K:IntKind)(a b:Int),vbin .gtr kd (kN K a) (kN K b) h k=k (kB (decide (b<a))) h) /\
  (∀ {β:Type}{h:Heap}{k:TVal->Heap->Option β}(kd:Nat)(K:IntKind)(a b:Int),vbin .leq kd (kN K a) (kN K b) h k=k (kB (!decide (b<a))) h) /\
  (∀ {β:Type}{h:Heap}{k:TVal->Heap->Option β}(kd:Nat)(K:IntKind)(a b:Int),vbin .geq kd (kN K a) (kN K b) h k=k (kB (!decide (a<b))) h) /\
  (∀ {β:Type}{h:Heap}{k:TVal->Heap->Option β}(kd:Nat)(a b:List UInt8),vbin .eql kd (kS a) (kS b) h k=k (kB (decide (a=b))) h) /\
  (∀ {β:Type}{h:Heap}{k:TVal->Heap->Option β}(kd:Nat)(a b:List UInt8),vbin .neq kd (kS a) (kS b) h k=k (kB (!decide (a=b))) h) /\
  (∀ {β:Type}{h:Heap}{k:TVal->Heap->Option β}(a b:Bool),vbin .eql 5 (kB a) (kB b) h k=k (kB (a==b)) h) /\
  (∀ {β:Type}{h:Heap}{k:TVal->Heap->Option β}(a b:Bool),vbin .neq 5 (kB a) (kB b) h k=k (kB (!(a==b))) h) /\
  (∀ {β:Type}{h:Heap}{k:TVal->Heap->Option β}(kd:Nat)(a b:List UInt8),vbin .add kd (kS a) (kS b) h k=chk (decide (a.length+b.length<=4611686018427387904)) (k (kS (a++b)) h)) /\
  (∀ {β:Type}{h:Heap}{k:TVal->Heap->Option β}(kd:Nat)(a b:List UInt8),vbin .lss kd (kS a) (kS b) h k=k (kB (bless a b)) h) /\
  (∀ {β:Type}{h:Heap}{k:TVal->Heap->Option β}(kd:Nat)(a b:List UInt8),vbin .leq kd (kS a) (kS b) h k=k (kB (bless a b||a==b)) h) /\
  (∀ {β:Type}{h:Heap}{k:TVal->Heap->Option β}(kd:Nat)(a b:List UInt8),vbin .gtr kd (kS a) (kS b) h k=k (kB (!(bless a b||a==b))) h) /\
  (∀ {β:Type}{h:Heap}{k:TVal->Heap->Option β}(kd:Nat)(a b:List UInt8),vbin .geq kd (kS a) (kS b) h k=k (kB (!(bless a b))) h) /\
  (∀ {β:Type}(x y:Option β),vif (kB true) x y=x)/\(∀ {β:Type}(x y:Option β),vif (kB false) x y=y) /\
  (∀ {β:Type}{h:Heap}{k:TVal->Heap->Option β}(doit:(TVal->Heap->Option β)->Option β),vguard (kB true) true doit h k=doit k) /\
  (∀ {β:Type}{h:Heap}{k:TVal->Heap->Option β}(doit:(TVal->Heap->Option β)->Option β),vguard (kB false) false doit h k=doit k) /\
  (∀ {β:Type}{h:Heap}{k:TVal->Heap->Option β}(doit:(TVal->Heap->Option β)->Option β),vguard (kB true) false doit h k=k .undef h) /\
  (∀ {β:Type}{h:Heap}{k:TVal->Heap->Option β}(doit:(TVal->Heap->Option β)->Option β),vguard (kB false) true doit h k=k .undef h) /\
  (∀ {β:Type}{h:Heap}{k:TVal->Heap->Option β}(w:Bool)(doit:(TVal->Heap->Option β)->Option β),vguard .undef w doit h k=k .undef h) /\
  (∀ {β:Type}{O:Oracle}{h:Heap}{d:Nat}{k:TVal->Heap->Option β}(b:Bool),vop O (.un .not (.k (kB b))) h d k=k (kB (!b)) h) /\
  (∀ {β:Type}{O:Oracle}{h:Heap}{d:Nat}{k:TVal->Heap->Option β}(K:IntKind)(a:Int),vop O (.un .neg (.k (kN K a))) h d k=k (kN K (K.wrap (0 - a))) h) /\
  (∀ {β:Type}{O:Oracle}{h:Heap}{d:Nat}{k:TVal->Heap->Option β}(a b:TVal),vop O (.pick (.k (kB true)) (.k a) (.k b)) h d k=k a h) /\
  (∀ {β:Type}{O:Oracle}{h:Heap}{d:Nat}{k:TVal->Heap->Option β}(a b:TVal),vop O (.pick (.k (kB false)) (.k a) (.k b)) h d k=k b h) /\
  (∀ {β:Type}{O:Oracle}{h:Heap}{d:Nat}{k:TVal->Heap->Option β}(v:TVal),vop O (.mv (.k v)) h d k=k v h) /\
  (∀ {β:Type}{O:Oracle}{h:Heap}{d:Nat}{k:TVal->Heap->Option β}(a b:Int),vop O (.minmax false [.k (kI a),.k (kI b)]) h d k=k (kI (if b<a then b else a)) h) /\
  (∀ {β:Type}{O:Oracle}{h:Heap}{d:Nat}{k:TVal->Heap->Option β}(a b:Int),vop O (.minmax true [.k (kI a),.k (kI b)]) h d k=k (kI (if a<b then b else a)) h) /\
  (∀ {β:Type}{O:Oracle}{h:Heap}{d:Nat}{k:TVal->Heap->Option β}(s:List UInt8),vlen O 0 (kS s) h d k=k (kI (s.length:Int)) h) /\
  (∀ {β:Type}{O:Oracle}{h:Heap}{d:Nat}{k:TVal->Heap->Option β},vlen O 2 kNil h d k=k (kI 0) h) /\
  (∀ {β:Type}{O:Oracle}{h:Heap}{d:Nat}{k:TVal->Heap->Option β}(sz:Nat)(t:Bool)(rows:List (List PVal)),vlen O 2 (kSl sz t rows) h d k=k (kI (rows.length:Int)) h) /\
  (∀ {β:Type}{O:Oracle}{h:Heap}{d:Nat}{k:TVal->Heap->Option β}(sz:Nat)(rows:List (List PVal))(r:Ref),vlen O 2 (.v (.c (.tsl sz rows r))) h d k=k (kI (rows.length:Int)) h) /\
  (∀ {β:Type}{h:Heap}{k:TVal->Heap->Option β}(K K':IntKind)(a:Int),vtoInt K (kN K' a) h k=k (kN K (K.wrap a)) h) /\
  (∀ {β:Type}(c:Comp)(k:Comp->Option β),tcomp (.v c) k=k c) :=
 ⟨qAK,qEp,qHP,qAw,qEf,qAV,qBF,qHF,qG0,qDq,qLn,qK6,qLI,qPn,qPX,qPP,qPU,qP7,qAR,qAQ,qBs,qCk,qCv,qBr,qAg,vnot,vneg,qBW,qBX,x_mv,qQS,qQH,
 qAh,qMh,qIR,qEq,qDO,qAJ⟩
theorem exM :
  (∀ {β:Type}{h:Heap}{k:TVal->Heap->Option β}(sz:Nat)(t:Bool)(rows:List (List PVal))(i:Int),viaddr sz (kSl sz t rows) (kI i) h k=chk (decide (0<=i)) (obnd rows[i.toNat]? λrow=>k (.v (.c (.p (.pptr row 0)))) h)) /\
  (∀ {β:Type}{h:Heap}{k:TVal->Heap->Option β}(sz:Nat)(r:Ref)(rows:List (List PVal))(i:Int),viaddr sz (.v (.c (.tsl sz rows r))) (kI i) h k=chk (decide (0<=i)) (obnd rows[i.toNat]? λrow=>k (.v (.c (.p (.pptr row 0)))) h)) /\
  (∀ {β:Type}{h:Heap}{k:TVal->Heap->Option β}(sz:Nat)(r:Ref)(off len:Nat)(cap:Option Nat)(i:Int),viaddr sz (.v (.c (.sref r off len cap sz))) (kI i) h k=chk (decide (0<=i)&&decide (i.toNat<len)) (k (.v (.c (.ptr r (off+i.toNat*sz)))) h)) /\
  (∀ {β:Type}{h:Heap}{k:TVal->Heap->Option β}(s:List UInt8)(i:Int),vindex (kS s) (kI i) h k=chk (decide (0<=i)) (obnd s[i.toNat]? λb=>k (kU b) h)) /\
  (∀ {β:Type}{h:Heap}{k:TVal->Heap->Option β}(n off:Nat)(row:List PVal),vload false n (.v (.c (.p (.pptr row off)))) h k=obnd row[off]? λv=>k (.v (.c (.p v))) h) /\
  (∀ {β:Type}{h:Heap}{k:TVal->Heap->Option β}(n off:Nat)(r:Ref),vload false n (.v (.c (.ptr r off))) h k=objK (h.get r) λcs _=>obnd cs[off]? λc=>k (.v (.c c)) h) /\
  (∀ {β:Type}{h:Heap}{k:TVal->Heap->Option β}(n off:Nat)(r:Ref),vload true n (.v (.c (.ptr r off))) h k=objK (h.get r) λcs _=>chk (decide (((cs.drop off).take n).length=n)) (k (.v (.agg ((cs.drop off).take n))) h)) /\
  (∀ {h:Heap}(n off:Nat)(r:Ref){k:Comp->Res1},vcell false n (.v (.c (.ptr r off))) h k=objK (h.get r) λcs _=>obnd cs[off]? λc=>k (.c c)) /\
  (∀ {h:Heap}(n off:Nat)(r:Ref){k:Comp->Res1},vcell true n (.v (.c (.ptr r off))) h k=objK (h.get r) λcs _=>chk (decide (((cs.drop off).take n).length=n)) (k (.agg ((cs.drop off).take n)))) /\
  (∀ {β:Type}{h:Heap}{k:TVal->Heap->Option β}(n off:Nat)(r:Ref)(x:Comp),vstore n (.v (.c (.ptr r off))) (.v x) h k=objK (h.get r) λcs imm=>chk (decide (imm<=off)&&(decide (x.cells.length=n)&&decide (off+n<=cs.length))) (k .undef (h.put r (.cells (put1 cs off x.cells) imm)))) /\
  (∀ {β:Type}{h:Heap}{k:TVal->Heap->Option β}(off n:Nat)(cs:List Cell),vfield off n false (.v (.agg cs)) h k=obnd cs[off]? λc=>k (.v (.c c)) h) /\
  (∀ {β:Type}{h:Heap}{k:TVal->Heap->Option β}(off n:Nat)(cs:List Cell),vfield off n true (.v (.agg cs)) h k=chk (decide (((cs.drop off).take n).length=n)) (k (.v (.agg ((cs.drop off).take n))) h)) /\
  (∀ {β:Type}{h:Heap}{k:TVal->Heap->Option β}(off o:Nat)(r:Ref),vfaddr off (.v (.c (.ptr r o))) h k=k (.v (.c (.ptr r (o+off)))) h) /\
  (∀ {β:Type}{h:Heap}{k:TVal->Heap->Option β}(off o:Nat)(row:List PVal),vfaddr off (.v (.c (.p (.pptr row o)))) h k=k (.v (.c (.p (.pptr row (o+off))))) h) /\
  (∀ {β:Type}{h:Heap}{k:TVal->Heap->Option β}(vs:List Comp)(i:Nat),vext (.tup vs) i h k=obnd vs[i]? λv=>k (.v v) h) /\
  (∀ {β:Type}{O:Oracle}{h:Heap}{d:Nat}{k:TVal->Heap->Option β}(z:List Cell),vop O (.alloc z false) h d k=k (.v (.c (.ptr (.own d (h.gen d+1)) 0))) (h.own d (h.gen d+1) (.cells z 0))) /\
  (∀ {α β:Type}(a:α)(k:α->Option β),obnd (some a) k=k a) /\
  (∀ {β:Type}(cs:List Cell)(imm:Nat)(k:List Cell->Nat->Option β),objK (some (.cells cs imm)) k=k cs imm) /\
  (∀ {β:Type}(x:Option β),chk true x=x) /\
  (∀ (row:List PVal) (i:Nat),(pcells row)[i]?=(row[i]?).map .p)/\(∀ (row:List PVal),(pcells row).length=row.length) /\
  (∀ n:Nat,decide ((0:Int)<=(n:Int))=true) /\
  (∀ (h:Heap) (d g:Nat) (o:AObj),h.put (.own d g) o=h.own d g o) /\
  (∀ (h:Heap) (d g:Nat) (cs:List Cell) (imm:Nat),d+1<1048576->(h.own d g (.cells cs imm)).get (.own d g)=some (.cells cs imm)) /\
  (∀ (h:Heap) (d g:Nat) (o:AObj) (e g':Nat),d≠e->(h.own d g o).get (.own e g')=h.get (.own e g')) /\
  (∀ (h:Heap) (d g:Nat) (o:AObj) (i:Nat),(h.own d g o).get (.im i)=h.get (.im i)) :=
 ⟨qIt,qEJ,qHU,qNz,qB9,qJs,qHo,qOE,qNL,qOe,qOT,qNR,qIy,qIE,qQg,qHR,qK0,qI1,qM9,qJM,qCP,dec0,Heap.put_own,qCc,Heap.own_get_ne,Heap.own_get_im⟩
theorem exF :
  (∀ {h:Heap}(frz:Bool)(x:PVal),vfin frz 0 [.c (.p x)] h=some (.v (.c (.p x)),[])) /\
  (∀ {h:Heap}(frz:Bool)(r:List PVal),vfin frz 0 [.agg (pcells r)] h=some (.v (.agg (pcells r)),[])) /\
  (∀ {h:Heap}(frz:Bool)(x y:PVal),vfin frz 0 [.c (.p x),.c (.p y)] h=some (.tup [.c (.p x),.c (.p y)],[])) /\
  (∀ {h:Heap}(frz:Bool)(r:List PVal)(y:PVal),vfin frz 0 [.agg (pcells r),.c (.p y)] h=some (.tup [.agg (pcells r),.c (.p y)],[])) /\
  (∀ {h:Heap}(frz:Bool)(r:List PVal)(y:PVal),vfin frz 0 [.c (.p y),.agg (pcells r)] h=some (.tup [.c (.p y),.agg (pcells r)],[])) /\
  (∀ {h:Heap}(frz:Bool)(x y z:PVal),vfin frz 0 [.c (.p x),.c (.p y),.c (.p z)] h=some (.tup [.c (.p x),.c (.p y),.c (.p z)],[])) /\
  (∀ {h:Heap}(frz:Bool)(r:List PVal)(y z:PVal),vfin frz 0 [.agg (pcells r),.c (.p y),.c (.p z)] h=some (.tup [.agg (pcells r),.c (.p y),.c (.p z)],[])) /\
  (∀ {h:Heap}(frz:Bool),vfin frz 0 [] h=some (.tup [],[])) /\
  (∀ (cs x:List Cell),x.length=cs.length->put1 cs 0 x=x) :=
 ⟨qPV,qPY,qQA,qO5,qPG,qP4,qN8,qNe,qDT⟩
noncomputable def gv(p:Bool)(v:TVal):TVal:=bif p then v else .undef
theorem gv_t(v:TVal):gv true v=v:=rfl
theorem gv_f(v:TVal):gv false v = .undef:=rfl
theorem qQC(p q:Bool)(v:TVal):gv p (gv q v)=gv (p&&q) v:=by cases p <;> rfl
section
variable {β:Type} {O:Oracle} {h:Heap} {d:Nat} {k:TVal->Heap->Option β}
theorem g_t(c:Bool)(v:TVal):vguard (kB c) true (λkk=>kk v h) h k=k (gv c v) h:=by cases c <;> rfl
theorem g_f(c:Bool)(v:TVal):vguard (kB c) false (λkk=>kk v h) h k=k (gv (!c) v) h:=by cases c <;> rfl
theorem g_gt(p c:Bool)(v:TVal):vguard (gv p (kB c)) true (λkk=>kk v h) h k=k (gv (p&&c) v) h:=by cases p <;> cases c <;> rfl
theorem g_gf(p c:Bool)(v:TVal):vguard (gv p (kB c)) false (λkk=>kk v h) h k=k (gv (p && !c) v) h:=by cases p <;> cases c <;> rfl
@[congr] theorem g_congT {c c':Bool} {doit doit':(TVal->Heap->Option β)->Option β} (e:c=c') (f:c'=true->∀ kk,doit kk=doit' kk):vguard (kB c) true doit h k=vguard (kB c') true doit' h k:=by
 subst e; cases c
 ·rfl
 ·rw[show doit=doit' from funext (f rfl)]
@[congr] theorem g_congF {c c':Bool} {doit doit':(TVal->Heap->Option β)->Option β} (e:c=c') (f:c'=false->∀ kk,doit kk=doit' kk):vguard (kB c) false doit h k=vguard (kB c') false doit' h k:=by
 subst e; cases c
 ·rw[show doit=doit' from funext (f rfl)]
 ·rfl
@[congr] theorem g_congGT {p p' c c':Bool} {doit doit':(TVal->Heap->Option β)->Option β} (e0:p=p') (e:c=c') (f:p'=true->c'=true->∀ kk,doit kk=doit' kk):vguard (gv p (kB c)) true doit h k=vguard (gv p' (kB c')) true doit' h k:=by
 subst e0; subst e; cases p <;> cases c
 ·rfl
 ·rfl
 ·rfl
 ·rw[show doit=doit' from funext (f rfl rfl)]
@[congr] theorem g_congGF {p p' c c':Bool} {doit doit':(TVal->Heap->Option β)->Option β} (e0:p=p') (e:c=c') (f:p'=true->c'=false->∀ kk,doit kk=doit' kk):vguard (gv p (kB c)) false doit h k=vguard (gv p' (kB c')) false doit' h k:=by
 subst e0; subst e; cases p <;> cases c
 ·rfl
 ·rfl
 ·rw[show doit=doit' from funext (f rfl rfl)]
 ·rfl
@[congr 2000] theorem g_congTn {c c':Bool} {doit doit':(TVal->Heap->Option β)->Option β} (e:c=c') (f:c'=false->∀ kk,doit kk=doit' kk):vguard (kB (!c)) true doit h k=vguard (kB (!c')) true doit' h k:=by
 subst e; cases c
 all_goals first|rfl|rw[show doit=doit' from funext (f rfl)]
@[congr 2000] theorem g_congFn {c c':Bool} {doit doit':(TVal->Heap->Option β)->Option β} (e:c=c') (f:c'=true->∀ kk,doit kk=doit' kk):vguard (kB (!c)) false doit h k=vguard (kB (!c')) false doit' h k:=by
 subst e; cases c
 all_goals first|rfl|rw[show doit=doit' from funext (f rfl)]
@[congr 2000] theorem g_congGTn {p p' c c':Bool} {doit doit':(TVal->Heap->Option β)->Option β} (e0:p=p') (e:c=c') (f:p'=true->c'=false->∀ kk,doit kk=doit' kk):vguard (gv p (kB (!c))) true doit h k=vguard (gv p' (kB (!c'))) true doit' h k:=by
 subst e0; subst e; cases p <;> cases c
 all_goals first|rfl|rw[show doit=doit' from funext (f rfl rfl)]
@[congr 2000] theorem g_congGFn {p p' c c':Bool} {doit doit':(TVal->Heap->Option β)->Option β} (e0:p=p') (e:c=c') (f:p'=true->c'=true->∀ kk,doit kk=doit' kk):vguard (gv p (kB (!c))) false doit h k=vguard (gv p' (kB (!c'))) false doit' h k:=by
 subst e0; subst e; cases p <;> cases c
 all_goals first|rfl|rw[show doit=doit' from funext (f rfl rfl)]
@[congr 1500] theorem g_congAT {a a' b b' c c':Bool} {doit doit':(TVal->Heap->Option β)->Option β} (e0:a=a') (e1:b=b') (e:c=c') (f:a'=true->b'=true->c'=true->∀ kk,doit kk=doit' kk):vguard (gv (a&&b) (kB c)) true doit h k=vguard (gv (a'&&b') (kB c')) true doit' h k:=by
 subst e0; subst e1; subst e; cases a <;> cases b <;> cases c
 all_goals first|rfl|rw[show doit=doit' from funext (f rfl rfl rfl)]
@[congr 1500] theorem g_congAF {a a' b b' c c':Bool} {doit doit':(TVal->Heap->Option β)->Option β} (e0:a=a') (e1:b=b') (e:c=c') (f:a'=true->b'=true->c'=false->∀ kk,doit kk=doit' kk):vguard (gv (a&&b) (kB c)) false doit h k=vguard (gv (a'&&b') (kB c')) false doit' h k:=by
 subst e0; subst e1; subst e; cases a <;> cases b <;> cases c
 all_goals first|rfl|rw[show doit=doit' from funext (f rfl rfl rfl)]
@[congr 3000] theorem g_congATn {a a' b b' c c':Bool} {doit doit':(TVal->Heap->Option β)->Option β} (e0:a=a') (e1:b=b') (e:c=c') (f:a'=true->b'=true->c'=false->∀ kk,doit kk=doit' kk):vguard (gv (a&&b) (kB (!c))) true doit h k=vguard (gv (a'&&b') (kB (!c'))) true doit' h k:=by
 subst e0; subst e1; subst e; cases a <;> cases b <;> cases c
 all_goals first|rfl|rw[show doit=doit' from funext (f rfl rfl rfl)]
@[congr 3000] theorem g_congAFn {a a' b b' c c':Bool} {doit doit':(TVal->Heap->Option β)->Option β} (e0:a=a') (e1:b=b') (e:c=c') (f:a'=true->b'=true->c'=true->∀ kk,doit kk=doit' kk):vguard (gv (a&&b) (kB (!c))) false doit h k=vguard (gv (a'&&b') (kB (!c'))) false doit' h k:=by
 subst e0; subst e1; subst e; cases a <;> cases b <;> cases c
 all_goals first|rfl|rw[show doit=doit' from funext (f rfl rfl rfl)]
theorem qPS(b c:Bool):vop O (.pick (.k (kB b)) (.k (gv b (kB c))) (.k (kB false))) h d k=k (kB (b&&c)) h:=by cases b <;> rfl
theorem qQV(b c:Bool):vop O (.pick (.k (kB b)) (.k (kB true)) (.k (gv (!b) (kB c)))) h d k=k (kB (b||c)) h:=by cases b <;> rfl
theorem qP3(b c:Bool):vop O (.pick (.k (kB (!b))) (.k (kB true)) (.k (gv b (kB c)))) h d k=k (kB (!b||c)) h:=by cases b <;> rfl
theorem qQR(v:Comp):vop O (.box (.k (.v v)) false) h d k=k (.v (.c (.ptr (.own d (h.gen d+1)) 0))) (h.own d (h.gen d+1) (.cells v.cells 0)):=rfl
theorem qH0(r:Ref)(o:Nat):vop O (.nilck (.k (.v (.c (.ptr r o))))) h d k=k (.v (.c (.ptr r o))) h:=qAe _ _ rfl
theorem qGg(r:List PVal)(o:Nat):vop O (.nilck (.k (.v (.c (.p (.pptr r o)))))) h d k=k (.v (.c (.p (.pptr r o)))) h:=qAe _ _ rfl
def plainO(o:AObj):Prop:=o.refs=[]/\∀ σ,o.ren σ=o
theorem qBy(r:List PVal)(imm:Nat):plainO (.cells (pcells r) imm):=by
 constructor
 ·show(pcells r).flatMap Cell.refs=[]
  induction r with
  |nil=>rfl
  |cons a r ih=>exact ih
 ·intro σ;show AObj.cells ((pcells r).map (Cell.ren σ)) imm=_
  congr 1
  induction r with
  |nil=>rfl
  |cons a r ih=>show Cell.p a::(pcells r).map (Cell.ren σ)=_; rw[ih]; rfl
theorem qDn{ps:List TVal}(hp:allB pT ps=true):ps.map TVal.strip=ps/\ps.flatMap TVal.refs=[]/\∀ σ,ps.map (TVal.ren σ)=ps:=by
 letI:Sym:=⟨λ_=>0⟩
 induction ps with
 |nil=>exact⟨rfl,rfl,λ_=>rfl⟩
 |cons a ps ih =>
  have e:(bif pT a then allB pT ps else false)=true:=hp;cases ha:pT a with
  |false=>rw[ha] at e; cases e
  |true =>
   rw[ha] at e;obtain⟨i1,i2,i3⟩:=ih e;obtain⟨q1,q2,q3,_⟩:=qAU ha;refine⟨?_,?_,λσ => ?_⟩
   ·rw[List.map_cons,i1,q2]
   ·rw[List.flatMap_cons,i2,q1]; rfl
   ·rw[List.map_cons,i3,q3]
theorem qKR(frz:Bool)(vs:List Comp)(o:AObj)(hv:allB pComp vs=true)(hg:h.get (.im 0)=some o)(ho:plainO o):vfin frz 1 vs h=some (oneOf vs,[o]):=by
 letI:Sym:=⟨λ_=>0⟩
 show finV frz vs h 1=_;obtain⟨q1,q2,q3,q4⟩:=qAU (qBk hv);unfold finV;have e1:(if frz then freezeT h (oneOf vs) else some (oneOf vs,[]))=some (oneOf vs,[]):=by cases frz <;> simp[q4]
 rw[show ims 1=[Ref.im 0] from rfl];simp[e1,settle,hg,ho.1,q1,q3,reach,fuelReach,ho.2]
end
theorem qAS(h:Heap)(i:Nat)(cs:List Cell)(imm:Nat)(hs:(h.get (.im i)).isSome=true):(h.put (.im i) (.cells cs imm)).get (.im i)=some (.cells cs imm):=by
 obtain⟨o,ho⟩:=Option.isSome_iff_exists.1 hs;exact Heap.get_put_eq h (Heap.get_lt ho) (λe=>by cases e)
theorem qFY(h:Heap)(i:Nat)(o:AObj)(d g:Nat):(h.put (.im i) o).get (.own d g)=h.get (.own d g):=rfl
theorem qJe(h:Heap)(i:Nat)(o:AObj)(d:Nat):(h.put (.im i) o).gen d=h.gen d:=rfl
theorem qOk(l:List AObj)(d:Nat):(Heap.mk l .nil).gen d=0:=rfl
noncomputable def plainG(o:Option AObj):Bool:=match o with
 |some (.cells cs _)=>allB isP cs
 |_=>false
theorem qMq(r:List PVal)(imm:Nat):plainG (some (.cells (pcells r) imm))=true:=qBc r
theorem qIx(imm:Nat):plainG (some (.cells [] imm))=true:=rfl
theorem qHs(x:PVal)(l:List Cell)(imm:Nat):plainG (some (.cells (.p x::l) imm))=plainG (some (.cells l imm)):=rfl
theorem qGz:∀ {cs:List Cell},allB isP cs=true->∃ r,cs=pcells r
 |[],_=>⟨[],rfl⟩
 |.p x::cs,h=>by
  obtain⟨r,e⟩:=qGz (cs:=cs) h;exact⟨x::r,by rw[e]; rfl⟩
 |.ptr .. :: _,h=>by cases h
 |.sref .. :: _,h=>by cases h
 |.mref .. :: _,h=>by cases h
 |.func .. :: _,h=>by cases h
 |.tsl .. :: _,h=>by cases h
 |.junk::_,h=>by cases h
theorem qC8{h:Heap}(frz:Bool)(vs:List Comp)(hv:allB pComp vs=true)(hp:plainG (h.get (.im 0))=true):vfin frz 1 vs h=some (oneOf vs,[(h.get (.im 0)).getD .dead]):=by
 cases ho:h.get (.im 0) with
 |none=>rw[ho] at hp; cases hp
 |some o=>cases o with
  |cells cs imm =>
   rw[ho] at hp;obtain⟨r,rfl⟩:=qGz (show allB isP cs=true from hp);exact qKR frz vs _ hv ho (qBy r imm)
  |_=>rw[ho] at hp; cases hp
theorem exQ :
  (∀ {h:Heap}(frz:Bool)(x:PVal),plainG (h.get (.im 0))=true->vfin frz 1 [.c (.p x)] h=some (.v (.c (.p x)),[(h.get (.im 0)).getD .dead])) /\
  (∀ {h:Heap}(frz:Bool)(x y:PVal),plainG (h.get (.im 0))=true->vfin frz 1 [.c (.p x),.c (.p y)] h=some (.tup [.c (.p x),.c (.p y)],[(h.get (.im 0)).getD .dead])) /\
  (∀ {h:Heap}(frz:Bool)(r:List PVal),plainG (h.get (.im 0))=true->vfin frz 1 [.agg (pcells r)] h=some (.v (.agg (pcells r)),[(h.get (.im 0)).getD .dead])) /\
  (∀ {h:Heap}(frz:Bool)(r:List PVal)(y:PVal),plainG (h.get (.im 0))=true->vfin frz 1 [.agg (pcells r),.c (.p y)] h=some (.tup [.agg (pcells r),.c (.p y)],[(h.get (.im 0)).getD .dead])) /\
  (∀ {h:Heap}(frz:Bool),plainG (h.get (.im 0))=true->vfin frz 1 [] h=some (.tup [],[(h.get (.im 0)).getD .dead])) /\
  (∀ (r:List PVal) (imm:Nat),plainG (some (.cells (pcells r) imm))=true)/\(∀ imm:Nat,plainG (some (.cells [] imm))=true)/\(∀ (x:PVal) (l:List Cell) (imm:Nat),plainG (some (.cells (.p x::l) imm))=plainG (some (.cells l imm))) /\
  (∀ o d:AObj,(some o).getD d=o) :=
 ⟨λfrz x hp=>qC8 frz _ rfl hp,λfrz x y hp=>qC8 frz _ rfl hp,λfrz r hp=>qC8 frz _ (by show(bif allB isP (pcells r) then true else false)=true; rw[qBc]; rfl) hp,
 λfrz r y hp=>qC8 frz _ (by show(bif allB isP (pcells r) then true else false)=true; rw[qBc]; rfl) hp,λfrz hp=>qC8 frz _ rfl hp,qMq,qIx,qHs,λ_ _=>rfl⟩
theorem qKa{α:Type}(p:α->Bool):allB p []=true:=rfl
theorem qFO{α:Type}(p:α->Bool)(a:α)(l:List α):allB p (a::l)=(p a&&allB p l):=by show(bif p a then allB p l else false)=_; cases p a <;> rfl
theorem qKn(r:List PVal):pT (.v (.agg (pcells r)))=true:=qBc r
theorem qQI(x:PVal):pT (.v (.c (.p x)))=true:=rfl
theorem qQB(l:List Comp):pT (.tup l)=allB pComp l:=rfl
theorem qOm(x:PVal):pComp (.c (.p x))=true:=rfl
theorem qLy(r:List PVal):pComp (.agg (pcells r))=true:=qBc r
theorem exP:(∀ {α:Type}(p:α->Bool),allB p []=true)/\(∀ {α:Type}(p:α->Bool)(a:α)(l:List α),allB p (a::l)=(p a&&allB p l))/\(∀ r:List PVal,pT (.v (.agg (pcells r)))=true)/\(∀ x:PVal,pT (.v (.c (.p x)))=true) /\
  (∀ l:List Comp,pT (.tup l)=allB pComp l)/\(∀ x:PVal,pComp (.c (.p x))=true)/\(∀ r:List PVal,pComp (.agg (pcells r))=true)/\(true&&true)=true :=
 ⟨qKa,qFO,qKn,qQI,qQB,qOm,qLy,rfl⟩
theorem qEj(n:Nat)(r:List PVal)(e:r.length=n):(pcells r).take n=pcells r:=List.take_of_length_le (by simp[pcells,e])
theorem qD1(n:Nat)(r:List PVal)(e:r.length=n):r.take n=r:=List.take_of_length_le (by omega)
theorem qK8(cs:List Cell):fillA cs []=some cs:=rfl
theorem qJg(cs:List Cell)(o n:Nat)(v:Comp)(r:List (Nat×Nat×Comp)):fillA cs ((o,n,v)::r)=chk (decide (v.cells.length=n)&&decide (o+n<=cs.length)) (fillA (put1 cs o v.cells) r):=by
 show(if v.cells.length=n/\o+n<=cs.length then _ else _)=_;by_cases h:v.cells.length=n/\o+n<=cs.length
 ·rw[if_pos h,decide_eq_true h.1,decide_eq_true h.2]; rfl
 ·rw[if_neg h];have:(decide (v.cells.length=n)&&decide (o+n<=cs.length))=false:=by
   cases h1:decide (v.cells.length=n) with
   |false=>rfl
   |true=>cases h2:decide (o+n<=cs.length) with
    |false=>rfl
    |true=>exact absurd ⟨of_decide_eq_true h1,of_decide_eq_true h2⟩ h
  rw[this]; rfl
theorem qLQ(c:Cell)(cs x:List Cell)(n:Nat):put1 (c::cs) (n+1) x=c::put1 cs n x:=by
 unfold put1 splice;rw[show n+1+x.length=(n+x.length)+1 by omega]; rfl
theorem qMl(c x:Cell)(cs:List Cell):put1 (c::cs) 0 [x]=x::cs:=rfl
theorem qL9(cs:List Cell)(r:List PVal):put1 cs 0 (pcells r)=pcells r++cs.drop r.length:=by
 unfold put1 splice;rw[List.take_zero,List.nil_append,Nat.zero_add,qCP]
theorem qL1{β:Type}{O:Oracle}{h:Heap}{d:Nat}{k:TVal->Heap->Option β}(z:List Cell)(x y:PVal)(hz:z.length=1):vop O (.bslice 1 2 z [(0,.k (.v (.c (.p x)))),(1,.k (.v (.c (.p y))))] false) h d k=k (kSl 1 true [[x],[y]]) h:=by
 match z,hz with
 |[z0],_=>exact qAe _ _ rfl
theorem qL0{β:Type}{O:Oracle}{h:Heap}{d:Nat}{k:TVal->Heap->Option β}(z:List Cell)(x y w:PVal)(hz:z.length=1):vop O (.bslice 1 3 z [(0,.k (.v (.c (.p x)))),(1,.k (.v (.c (.p y)))),(2,.k (.v (.c (.p w))))] false) h d k=k (kSl 1 true [[x],[y],[w]]) h:=by
 match z,hz with
 |[z0],_=>exact qAe _ _ rfl
theorem exB :
  (∀ {β:Type}{O:Oracle}{h:Heap}{d:Nat}{k:TVal->Heap->Option β}(z:List Cell)(x y:PVal),z.length=1->vop O (.bslice 1 2 z [(0,.k (.v (.c (.p x)))),(1,.k (.v (.c (.p y))))] false) h d k=k (kSl 1 true [[x],[y]]) h) /\
  (∀ {β:Type}{O:Oracle}{h:Heap}{d:Nat}{k:TVal->Heap->Option β}(z:List Cell)(x y w:PVal),z.length=1->vop O (.bslice 1 3 z [(0,.k (.v (.c (.p x)))),(1,.k (.v (.c (.p y)))),(2,.k (.v (.c (.p w))))] false) h d k=k (kSl 1 true [[x],[y],[w]]) h) /\
  (∀ {β:Type}{O:Oracle}{h:Heap}{d:Nat}{k:TVal->Heap->Option β}(z:List Cell),vop O (.build z []) h d k=k (.v (.agg z)) h) /\
  (∀ {β:Type}{O:Oracle}{h:Heap}{d:Nat}{k:TVal->Heap->Option β}(z:List Cell)(o n:Nat)(v:Comp),vop O (.build z [(o,n,.k (.v v))]) h d k=obnd (fillA z [(o,n,v)]) λcs=>k (.v (.agg cs)) h) /\
  (∀ {β:Type}{O:Oracle}{h:Heap}{d:Nat}{k:TVal->Heap->Option β}(z:List Cell)(o n o2 n2:Nat)(v v2:Comp),vop O (.build z [(o,n,.k (.v v)),(o2,n2,.k (.v v2))]) h d k=obnd (fillA z [(o,n,v),(o2,n2,v2)]) λcs=>k (.v (.agg cs)) h) /\
  (∀ {β:Type}{O:Oracle}{h:Heap}{d:Nat}{k:TVal->Heap->Option β}(z:List Cell)(o n o2 n2 o3 n3:Nat)(v v2 v3:Comp),vop O (.build z [(o,n,.k (.v v)),(o2,n2,.k (.v v2)),(o3,n3,.k (.v v3))]) h d k=obnd (fillA z [(o,n,v),(o2,n2,v2),(o3,n3,v3)]) λcs=>k (.v (.agg cs)) h) /\
  (∀ {β:Type}{O:Oracle}{h:Heap}{d:Nat}{k:TVal->Heap->Option β}(z:List Cell)(o n o2 n2 o3 n3 o4 n4:Nat)(v v2 v3 v4:Comp),vop O (.build z [(o,n,.k (.v v)),(o2,n2,.k (.v v2)),(o3,n3,.k (.v v3)),(o4,n4,.k (.v v4))]) h d k=obnd (fillA z [(o,n,v),(o2,n2,v2),(o3,n3,v3),(o4,n4,v4)]) λcs=>k (.v (.agg cs)) h) /\
  (∀ {β:Type}{O:Oracle}{h:Heap}{d:Nat}{k:TVal->Heap->Option β}(sz:Nat)(z:List Cell),vop O (.bslice sz 0 z [] false) h d k=k (kSl sz true []) h) /\
  (∀ {β:Type}{O:Oracle}{h:Heap}{d:Nat}{k:TVal->Heap->Option β}(z:List Cell)(x:PVal),z.length=1->vop O (.bslice 1 1 z [(0,.k (.v (.c (.p x))))] false) h d k=k (kSl 1 true [[x]]) h) /\
  (∀ {β:Type}{O:Oracle}{h:Heap}{d:Nat}{k:TVal->Heap->Option β}(sz:Nat)(z:List Cell)(r:List PVal),z.length=sz->r.length=sz->vop O (.bslice sz 1 z [(0,.k (.v (.agg (pcells r))))] false) h d k=k (kSl sz true [r]) h) /\
  (∀ {β:Type}{O:Oracle}{h:Heap}{d:Nat}{k:TVal->Heap->Option β}(sz:Nat)(z:List Cell)(r s:List PVal),z.length=sz->r.length=sz->s.length=sz->vop O (.bslice sz 2 z [(0,.k (.v (.agg (pcells r)))),(1,.k (.v (.agg (pcells s))))] false) h d k=k (kSl sz true [r,s]) h) /\
  (∀ cs:List Cell,fillA cs []=some cs)/\(∀ (cs:List Cell) (o n:Nat) (v:Comp) (r:List (Nat×Nat×Comp)),fillA cs ((o,n,v)::r)=chk (decide (v.cells.length=n)&&decide (o+n<=cs.length)) (fillA (put1 cs o v.cells) r)) /\
  (∀ (c:Cell) (cs x:List Cell) (n:Nat),put1 (c::cs) (n+1) x=c::put1 cs n x)/\(∀ (c x:Cell) (cs:List Cell),put1 (c::cs) 0 [x]=x::cs) :=
 ⟨qL1,qL0,qME,qL6,qNG,qMO,qMN,qKj,qLS,qJx,qJE,qK8,qJg,qLQ,qMl⟩
theorem exG :
  (∀ d:Nat,h0.gen d=0)/\(∀ (l:List AObj) (d:Nat),(Heap.mk l .nil).gen d=0)/\(∀ (h:Heap) (d g:Nat) (o:AObj),d+1<1048576->(h.own d g o).gen d=g)/\(∀ (h:Heap) (d g:Nat) (o:AObj) (e:Nat),d≠e->(h.own d g o).gen e=h.gen e)/\(∀ (h:Heap) (i:Nat) (o:AObj) (d:Nat),(h.put (.im i) o).gen d=h.gen d) /\
  (∀ (n:Nat) (r:List PVal),r.length=n->(pcells r).take n=pcells r)/\(∀ (n:Nat) (r:List PVal),r.length=n->r.take n=r) /\
  (∀ {β:Type}{h:Heap}{k:TVal->Heap->Option β}(c:Bool)(v:TVal),vguard (kB c) true (λkk=>kk v h) h k=k (gv c v) h) /\
  (∀ {β:Type}{h:Heap}{k:TVal->Heap->Option β}(c:Bool)(v:TVal),vguard (kB c) false (λkk=>kk v h) h k=k (gv (!c) v) h) /\
  (∀ {β:Type}{h:Heap}{k:TVal->Heap->Option β}(p c:Bool)(v:TVal),vguard (gv p (kB c)) true (λkk=>kk v h) h k=k (gv (p&&c) v) h) /\
  (∀ {β:Type}{h:Heap}{k:TVal->Heap->Option β}(p c:Bool)(v:TVal),vguard (gv p (kB c)) false (λkk=>kk v h) h k=k (gv (p && !c) v) h) /\
  (∀ {β:Type}{O:Oracle}{h:Heap}{d:Nat}{k:TVal->Heap->Option β}(b c:Bool),vop O (.pick (.k (kB b)) (.k (gv b (kB c))) (.k (kB false))) h d k=k (kB (b&&c)) h) /\
  (∀ {β:Type}{O:Oracle}{h:Heap}{d:Nat}{k:TVal->Heap->Option β}(b c:Bool),vop O (.pick (.k (kB b)) (.k (kB true)) (.k (gv (!b) (kB c)))) h d k=k (kB (b||c)) h) /\
  (∀ {β:Type}{O:Oracle}{h:Heap}{d:Nat}{k:TVal->Heap->Option β}(b c:Bool),vop O (.pick (.k (kB (!b))) (.k (kB true)) (.k (gv b (kB c)))) h d k=k (kB (!b||c)) h) /\
  (∀ v:TVal,gv true v=v)/\(∀ v:TVal,gv false v = .undef)/\(∀ (p q:Bool) (v:TVal),gv p (gv q v)=gv (p&&q) v) /\
  (∀ {β:Type}{O:Oracle}{h:Heap}{d:Nat}{k:TVal->Heap->Option β}(v:Comp),vop O (.box (.k (.v v)) false) h d k=k (.v (.c (.ptr (.own d (h.gen d+1)) 0))) (h.own d (h.gen d+1) (.cells v.cells 0))) /\
  (∀ {β:Type}{O:Oracle}{h:Heap}{d:Nat}{k:TVal->Heap->Option β}(r:Ref)(o:Nat),vop O (.nilck (.k (.v (.c (.ptr r o))))) h d k=k (.v (.c (.ptr r o))) h) /\
  (∀ {β:Type}{O:Oracle}{h:Heap}{d:Nat}{k:TVal->Heap->Option β}(r:List PVal)(o:Nat),vop O (.nilck (.k (.v (.c (.p (.pptr r o)))))) h d k=k (.v (.c (.p (.pptr r o)))) h) /\
  (∀ (h:Heap) (i:Nat) (cs:List Cell) (imm:Nat),(h.get (.im i)).isSome=true->(h.put (.im i) (.cells cs imm)).get (.im i)=some (.cells cs imm)) /\
  (∀ (h:Heap) (i:Nat) (o:AObj) (d g:Nat),(h.put (.im i) o).get (.own d g)=h.get (.own d g)) /\
  (∀ (l:List AObj) (cs:List Cell) (imm:Nat),(Heap.mk (.cells cs imm::l) .nil).get (.im 0)=some (.cells cs imm)) /\
  (∀ {α:Type}(a:α),(some a).isSome=true)/\(∀ x:Cell,(Comp.c x).cells=[x])/\(∀ l:List Cell,(Comp.agg l).cells=l) :=
 ⟨qK7,qOk,Heap.own_gen,Heap.own_gen_ne,qJe,qEj,qD1,g_t,g_f,g_gt,g_gf,qPS,qQV,qP3,gv_t,gv_f,qQC,qQR,qH0,qGg,qAS,qFY,λl cs imm=>rfl,λ_=>rfl,λ_=>rfl,λ_=>rfl⟩
section
variable {β:Type} {O:Oracle} {h:Heap} {d:Nat} {k:TVal->Heap->Option β}
def isPT:Cell->Bool
 |.p _ | .tsl .. => true
 |_=>false
def compPT:Comp->Bool
 |.c c=>isPT c
 |.agg cs=>cs.all isPT
theorem qGE(hp:Heap)(n:Nat)(c:Cell)(hc:isPT c=true):∃ x,c.strip = .p x/\freeze hp (n+1) c=some (x,[]):=by
 cases c with
 |p v=>exact⟨v,rfl,rfl⟩
 |tsl sz rows r=>exact⟨_,rfl,rfl⟩
 |_=>cases hc
theorem qJt(hp:Heap)(n:Nat):∀ cs:List Cell,cs.all isPT=true->∃ xs:List PVal,cs.map Cell.strip=pcells xs/\cs.mapM (freeze hp (n+1))=some (xs.map λx=>(x,[])):=by
 intro cs
 induction cs with
 |nil=>intro _; exact⟨[],rfl,rfl⟩
 |cons c cs ih =>
  intro hc;rw[List.all_cons,Bool.and_eq_true] at hc;obtain⟨x,e1,e2⟩:=qGE hp n c hc.1;obtain⟨xs,e3,e4⟩:=ih hc.2;refine⟨x::xs,?_,?_⟩
  ·rw[List.map_cons,e1,e3]; rfl
  ·rw[List.mapM_cons,e2,e4]; rfl
theorem qE1(hp:Heap)(x:Comp)(hx:compPT x=true):freezeC hp x=some (x.strip,[])/\pComp x.strip=true:=by
 cases x with
 |c c =>
  obtain⟨v,e1,e2⟩:=qGE hp 29 c hx;constructor
  ·show(freeze hp 30 c).map _=_;rw[e2]; show _=some (Comp.c c.strip,[]); rw[e1]; rfl
  ·show isP c.strip=true; rw[e1]; rfl
 |agg cs =>
  obtain⟨xs,e1,e2⟩:=qJt hp 29 cs hx;constructor
  ·show(cs.mapM (freeze hp 30)).map _=_;rw[e2]; show _=some (Comp.agg (cs.map Cell.strip),[]); rw[e1];show some (Comp.agg ((xs.map λx=>(x,([]:List Ref))).map λy => .p y.1),(xs.map λx=>(x,([]:List Ref))).flatMap (·.2))=_
   congr 2
   ·rw[List.map_map]; rfl
   ·clear e1 e2
    induction xs with
    |nil=>rfl
    |cons a l ih=>rw[List.map_cons,List.flatMap_cons,ih]; rfl
  ·show allB isP (cs.map Cell.strip)=true; rw[e1]; exact qBc xs
theorem qHn(hp:Heap):∀ vs:List Comp,vs.all compPT=true->vs.mapM (freezeC hp)=some (vs.map λx=>(x.strip,[]))/\allB pComp (vs.map Comp.strip)=true:=by
 intro vs
 induction vs with
 |nil=>intro _; exact⟨rfl,rfl⟩
 |cons x vs ih =>
  intro hv;rw[List.all_cons,Bool.and_eq_true] at hv;obtain⟨e1,e2⟩:=qE1 hp x hv.1;obtain⟨e3,e4⟩:=ih hv.2;constructor
  ·rw[List.mapM_cons,e1,e3]; rfl
  ·rw[List.map_cons,qFO,e2,e4]; rfl
theorem qLq(vs:List Comp)(hv:vs.all compPT=true):vfin true 0 vs h=some (oneOf (vs.map Comp.strip),[]):=by
 letI:Sym:=⟨λ_=>0⟩
 rw[qBl];obtain⟨e1,e2⟩:=qHn h vs hv;have ef:freezeT h (oneOf vs)=some (oneOf (vs.map Comp.strip),[]):=by
  match vs,hv,e1,e2 with
  |[],_,_,_=>rfl
  |[x],hv,_,_ =>
   rw[List.all_cons,Bool.and_eq_true] at hv;show(freezeC h x).map _=_;rw[(qE1 h x hv.1).1]; rfl
  |x::y::vs,_,e1,_ =>
   show((x::y::vs).mapM (freezeC h)).map _=_;rw[e1];show some (TVal.tup (((x::y::vs).map λx=>(x.strip,([]:List Ref))).map (·.1)),((x::y::vs).map λx=>(x.strip,([]:List Ref))).flatMap (·.2))=_
   congr 2
   ·rw[List.map_map]; rfl
   ·generalize (x::y::vs)=l
    induction l with
    |nil=>rfl
    |cons a l ih=>rw[List.map_cons,List.flatMap_cons,ih]; rfl
 obtain⟨q1,q2,q3,q4⟩:=qAU (qBk e2);unfold finV;rw[show ims 0=([]:List Ref) from rfl];simp[ef,settle,q1,q3,reach,fuelReach]
def Bears(sz:Nat)(v:Cell)(rows:List (List PVal)):Prop:=(rows=[]/\v = .p .nilslice)\/(rows≠[]/\∃ r,v = .tsl sz rows r)
theorem Grow.bears{D:List Nat}{sz:Nat}{v:Cell}{rows:List (List PVal)}{h:Heap}(G:Grow D sz v rows h):Bears sz v rows:=by
 rcases G with ⟨a,b⟩|⟨a,e,g,_,b,_⟩
 ·exact .inl ⟨a,b⟩
 ·exact .inr ⟨a,_,b⟩
theorem Bears.strip{sz:Nat}{v:Cell}{rows:List (List PVal)}(G:Bears sz v rows):v.strip = .p (growP sz rows):=by
 rcases G with ⟨rfl,rfl⟩|⟨hne,r,rfl⟩
 ·rfl
 ·cases rows with
  |nil=>exact absurd rfl hne
  |cons _ _=>rfl
theorem Bears.len{sz:Nat}{v:Cell}{rows:List (List PVal)}(G:Bears sz v rows):vlen O 2 (.v (.c v)) h d k=k (kI (rows.length:Int)) h:=by
 rcases G with ⟨rfl,rfl⟩|⟨_,r,rfl⟩
 ·rfl
 ·exact qEq _ _ _
theorem Bears.at{sz:Nat}{v:Cell}{rows:List (List PVal)}(G:Bears sz v rows)(i:Int):viaddr sz (.v (.c v)) (kI i) h k=chk (decide (0<=i)) (obnd rows[i.toNat]? λrow=>k (.v (.c (.p (.pptr row 0)))) h):=by
 rcases G with ⟨rfl,rfl⟩|⟨_,r,rfl⟩
 ·by_cases hi:0<=i
  ·obtain⟨n,rfl⟩:∃ n:Nat,i=n:=⟨i.toNat,by omega⟩;rw[decide_eq_true hi]; simp[chk,obnd]; rfl
  ·obtain⟨n,rfl⟩:∃ n:Nat,i=Int.negSucc n:=⟨(-i-1).toNat,by omega⟩;rw[decide_eq_false hi]; rfl
 ·exact qEJ _ _ _ _
theorem Grow.app{D:List Nat}{sz by':Nat}{v:Cell}{rows new:List (List PVal)}(t:Bool)(G:Grow D sz v rows h)(hD:d∈D)(hn:new≠[])(hsz:∀ r∈new,r.length=sz)(hb:(rows.length+new.length)*by'<=1099511627776)(hd:d+1<1048576) :
  ∃ v' h',Grow D sz v' (rows++new) h'/\(∀ (β:Type) (O:Oracle) (k:TVal->Heap->Option β),vop O (.append sz by' false (.k (.v (.c v))) (.k (kSl sz t new))) h d k=k (.v (.c v')) h') /\
   (∀ e g o,e≠d->h.get (.own e g)=some o->o ≠ .cells [] 0->h'.get (.own e g)=some o)/\∀ i,h'.get (.im i)=h.get (.im i):=by
 have hnl:new.length≠0:=by simpa using hn
 have slowEq:∀ (O:Oracle) (v':TVal) (h':Heap),(plan .nil (.append sz by' false (.k (.v (.c v))) (.k (kSl sz t new)))).bind (λp=>(p.exec O d h).map λx=>(x.1,x.2.1))=some (v',h') ->
   ∀ (β:Type) (k:TVal->Heap->Option β),vop O (.append sz by' false (.k (.v (.c v))) (.k (kSl sz t new))) h d k=k v' h':=by
  intro O v' h' e β k;show opK O _ .nil h d k=_;rw[qAn];show(Option.bind (Option.bind _ _) _)=_;rw[e]; rfl
 have gr:∀ ups,growRow sz by' rows (pcells new.flatten) new.length ups=some ⟨λr => .v (.c (.tsl sz (rows++new) r)),ups,some (.cells [] 0),false⟩:=by
  intro ups;unfold growRow;rw[qBa sz new hsz];dsimp only;rw[if_pos (by omega)]
 rcases G with ⟨rfl,rfl⟩|⟨hne,e,g,_,rfl,hh⟩
 ·refine⟨.tsl sz new (.own d (h.gen d+1)),h.own d (h.gen d+1) (.cells [] 0),.inr ⟨hn,d,_,hD,rfl,Heap.own_get h d _ _ hd (λe=>by cases e)⟩,λβ O k=>slowEq O _ _ ?_ β k,λe g o he ho _=>(Heap.own_get_ne h d _ _ e g (Ne.symm he)).trans ho,λi=>rfl⟩;have ea:appendTo sz by' false kNil none (pcells new.flatten) new.length=some ⟨λr => .v (.c (.tsl sz ([]++new) r)),[],some (.cells [] 0),false⟩:=by
   unfold appendTo;rw[if_neg hnl];exact gr []
  show((Plan.go [] _).exec O d h).map _=_;simp only[Plan.exec,goOp,List.mapM_nil,Option.pure_def,zipNeeds,splitNeeds,srcCells,dstRef,srcRef];simp only[if_true,rL,Option.bind_some,ea];rfl
 ·have hgen:(h.put (.own e g) .dead).gen d=(if e=d then g else h.gen d):=by
   show(h.own e g .dead).gen d=_;split
   ·rename_i hh; subst hh; exact Heap.own_gen h e g _ hd
   ·rename_i hh; exact Heap.own_gen_ne h e g _ d hh
  refine⟨.tsl sz (rows++new) (.own d (h.gen d+1)),(h.put (.own e g) .dead).own d (h.gen d+1) (.cells [] 0),.inr ⟨by simp[hne],d,_,hD,rfl,Heap.own_get _ d _ _ hd (λe=>by cases e)⟩,λβ O k=>slowEq O _ _ ?_ β k,λe' g' o he ho hx => ?_,λi=>rfl⟩
  ·have ea:appendTo sz by' false (.v (.c (.tsl sz rows (.own e g)))) (some (.cells [] 0)) (pcells new.flatten) new.length=some ⟨λr => .v (.c (.tsl sz (rows++new) r)),[(.own e g,.dead)],some (.cells [] 0),false⟩:=by
    unfold appendTo;rw[if_neg hnl];show(if sz=sz then growRow sz by' rows (pcells new.flatten) new.length [(.own e g,.dead)] else none)=_;rw[if_pos rfl];exact gr _
   show((Plan.go [.own e g] _).exec O d h).map _=_;simp only[Plan.exec,goOp,qBd,hh,Option.map_some,zipNeeds,splitNeeds,srcCells,dstRef,srcRef];simp only[if_true,rL,Option.bind_some,ea];simp;rfl
  ·refine(Heap.own_get_ne _ d _ _ e' g' (Ne.symm he)).trans ?_;show(h.own e g .dead).get (.own e' g')=some o;by_cases e1:e=e'
   ·subst e1;exfalso
    letI:Sym:=⟨λ_=>0⟩
    have h1:=(Heap.get_own_gen hh);have h2:=(Heap.get_own_gen ho);obtain⟨a1,b1⟩:=h1;obtain⟨a2,b2⟩:=h2;rw[b1] at b2;simp only[rJ,Prod.mk.injEq] at b2;exact hx b2.2.symm
   ·exact(Heap.own_get_ne h e g _ e' g' e1).trans ho
end
section
variable {β:Type} {O:Oracle} {h:Heap} {d:Nat} {kt:TVal->Heap->Touch->Option β}
@[congr] theorem vtouch_congr {op op':AOp} (e:op=op'):vtouch O op h d kt=vtouch O op' h d kt:=by rw[e]
theorem qFa(op:AOp)(hp:∀ p,plan .nil op=some p->∃ v,p = .pure v):vtouch O op h d kt=(slow O op .nil h d).bind λx=>kt x.1 x.2 noTouch:=by
 show bnd (plan2 op .nil) (λp=>bnd (p.exec O d h) λx=>kt x.1 x.2.1 x.2.2)=_;rw[qAZ];unfold slow;cases hq:plan .nil op with
 |none=>rfl
 |some p =>
  obtain⟨v,rfl⟩:=hp p hq;rfl
theorem qMK{α:Type}{o:Option α}{f:α->TVal}{p:Plan}(e:(o.map λc=>Plan.pure (f c))=some p):∃ v,p = .pure v:=by
 cases o with
 |none=>cases e
 |some c=>exact⟨f c,(Option.some.inj e).symm⟩
theorem qQY(op:BinOp)(kd:Nat)(a b:Cell):vtouch O (.bin op kd (.k (.v (.c a))) (.k (.v (.c b)))) h d kt=vbin op kd (.v (.c a)) (.v (.c b)) h λv h=>kt v h noTouch:=by
 rw[qFa (.bin op kd (.k (.v (.c a))) (.k (.v (.c b)))) (λp e=>qMK (o:=binV op kd a b) (f:=λc => .v (.c c)) e)];exact(qEd O op kd (.k (.v (.c a))) (.k (.v (.c b))) .nil h d (λv h=>kt v h noTouch)).symm
theorem t_mv(v:TVal):vtouch O (.mv (.k v)) h d kt=kt v h noTouch:=by
 exact qER _ _ rfl
theorem qQh(vs:List Comp)(i:Nat):vtouch O (.extract (.k (.tup vs)) i) h d kt=obnd vs[i]? λv=>kt (.v v) h noTouch:=by
 cases hv:vs[i]? with
 |none =>
  have:plan .nil (.extract (.k (.tup vs)) i)=none:=by
   show(match vs[i]? with|some v=>some (Plan.pure (.v v))|none=>none)=none;rw[hv]
  show bnd (plan2 _ .nil) _=_;rw[qAZ,this]; rfl
 |some v =>
  have:plan .nil (.extract (.k (.tup vs)) i)=some (.pure (.v v)):=by
   show(match vs[i]? with|some v=>some (Plan.pure (.v v))|none=>none)=_;rw[hv]
  show bnd (plan2 _ .nil) _=_;rw[qAZ,this]; rfl
theorem qBb(op:AOp)(v:TVal)(hb:plan .nil op=some (.pure v)):vtouch O op h d kt=kt v h noTouch:=qER op v hb
theorem qPA(o off:Nat)(r:Ref):vtouch O (.faddr off (.k (.v (.c (.ptr r o))))) h d kt=kt (.v (.c (.ptr r (o+off)))) h noTouch:=qBb _ _ rfl
theorem qMb(o off:Nat)(r:List PVal):vtouch O (.faddr off (.k (.v (.c (.p (.pptr r o)))))) h d kt=kt (.v (.c (.p (.pptr r (o+off))))) h noTouch:=qBb _ _ rfl
theorem qPC(s:List UInt8):vtouch O (.len 0 (.k (kS s))) h d kt=kt (kI (s.length:Int)) h noTouch:=qBb _ _ rfl
theorem qLT:vtouch O (.len 2 (.k kNil)) h d kt=kt (kI 0) h noTouch:=qBb _ _ rfl
theorem qNH(sz:Nat)(t:Bool)(rows:List (List PVal)):vtouch O (.len 2 (.k (kSl sz t rows))) h d kt=kt (kI (rows.length:Int)) h noTouch:=qBb _ _ rfl
theorem qLw(sz:Nat)(rows:List (List PVal))(r:Ref):vtouch O (.len 2 (.k (.v (.c (.tsl sz rows r))))) h d kt=kt (kI (rows.length:Int)) h noTouch:=qBb _ _ rfl
theorem qQK(b:Bool):vtouch O (.un .not (.k (kB b))) h d kt=kt (kB (!b)) h noTouch:=qBb _ _ rfl
theorem qG7(op:AOp)(r:Ref)(pk:List AObj->Option Res)(hb:plan .nil op=some (.go [r] pk)):vtouch O op h d kt=((h.get r).bind λo=>goOp [r] pk d h).bind λx=>kt x.1 x.2.1 x.2.2:=by
 show bnd (plan2 op .nil) (λp=>bnd (p.exec O d h) λx=>kt x.1 x.2.1 x.2.2)=_;rw[qAZ,hb];show bnd (goOp [r] pk d h) _=_;cases hg:h.get r with
 |none =>
  have:goOp [r] pk d h=none:=by unfold goOp; rw[qBd,hg]; rfl
  rw[this]; rfl
 |some o =>
  show bnd (goOp [r] pk d h) _=(goOp [r] pk d h).bind _;cases goOp [r] pk d h <;> rfl
theorem qP0(n off:Nat)(r:Ref):vtouch O (.load false n (.k (.v (.c (.ptr r off))))) h d kt=objK (h.get r) λcs _=>obnd cs[off]? λc=>kt (.v (.c c)) h ⟨[r.site],[],false⟩:=by
 rw[qG7 _ r _ rfl];cases hg:h.get r with
 |none=>rfl
 |some o =>
  show(goOp [r] _ d h).bind _=_;unfold goOp;rw[qBd,hg];cases o with
  |cells cs imm =>
   cases hc:cs[off]? with
   |none =>
    have h1:partOf false n cs off=none:=by simp[partOf,hc]
    simp only[Option.map_some,h1,objK,Option.map_none,hc]; rfl
   |some c =>
    have h1:partOf false n cs off=some (.v (.c c)):=by simp[partOf,hc]
    simp only[Option.map_some,h1,objK,hc]; rfl
  |_=>rfl
theorem qN0(n off:Nat)(r:Ref):vtouch O (.load true n (.k (.v (.c (.ptr r off))))) h d kt=objK (h.get r) λcs _=>chk (decide (((cs.drop off).take n).length=n)) (kt (.v (.agg ((cs.drop off).take n))) h ⟨[r.site],[],false⟩):=by
 rw[qG7 _ r _ rfl];cases hg:h.get r with
 |none=>rfl
 |some o =>
  show(goOp [r] _ d h).bind _=_;unfold goOp;rw[qBd,hg];cases o with
  |cells cs imm =>
   by_cases hc:((cs.drop off).take n).length=n
   ·have h1:partOf true n cs off=some (.v (.agg ((cs.drop off).take n))):=by unfold partOf; rw[if_pos rfl]; dsimp only; rw[if_pos hc]
    simp only[Option.map_some,h1,objK,chk];rw[decide_eq_true hc]; rfl
   ·have h1:partOf true n cs off=none:=by unfold partOf; rw[if_pos rfl]; dsimp only; rw[if_neg hc]
    simp only[Option.map_some,h1,objK,chk,Option.map_none];rw[decide_eq_false hc]; rfl
  |_=>rfl
theorem qCU(g:FuncId)(az:List TVal)(v:TVal)(ha:allB pT az=true)(ho:O g az []=some (v,[]))(hv:pT v=true):vtouch O (.call (.k (.v (.c (.func g [])))) (az.map .k)) h d kt=kt v h noTouch:=qHy g az v ha ho hv
theorem qHH(t:Touch):Touch.apart noTouch t=true:=by unfold Touch.apart noTouch disj; simp
theorem qG5(t:Touch):Touch.apart t noTouch=true:=by unfold Touch.apart noTouch disj; simp
theorem qJ5(a b:List Site):Touch.apart ⟨a,[],false⟩ ⟨b,[],false⟩=true:=by unfold Touch.apart disj; simp
theorem qGd(ts:List Touch):apartAll ts []=true:=rfl
theorem qGT(ts:List Touch)(i j:Nat)(ps:List (Nat×Nat)):apartAll ts ((i,j)::ps)=((match ts[i]?,ts[j]? with|some a,some b=>a.apart b|_,_=>false)&&apartAll ts ps):=rfl
theorem qQb(x y:Option β):(bif true then x else y)=x:=rfl
theorem exT :
  (∀ {β:Type}{O:Oracle}{h:Heap}{d:Nat}{kt:TVal->Heap->Touch->Option β}(op:BinOp)(kd:Nat)(a b:Cell),vtouch O (.bin op kd (.k (.v (.c a))) (.k (.v (.c b)))) h d kt=vbin op kd (.v (.c a)) (.v (.c b)) h λv h=>kt v h noTouch) /\
  (∀ {β:Type}{O:Oracle}{h:Heap}{d:Nat}{kt:TVal->Heap->Touch->Option β}(v:TVal),vtouch O (.mv (.k v)) h d kt=kt v h noTouch) /\
  (∀ {β:Type}{O:Oracle}{h:Heap}{d:Nat}{kt:TVal->Heap->Touch->Option β}(vs:List Comp)(i:Nat),vtouch O (.extract (.k (.tup vs)) i) h d kt=obnd vs[i]? λv=>kt (.v v) h noTouch) /\
  (∀ {β:Type}{O:Oracle}{h:Heap}{d:Nat}{kt:TVal->Heap->Touch->Option β}(o off:Nat)(r:Ref),vtouch O (.faddr off (.k (.v (.c (.ptr r o))))) h d kt=kt (.v (.c (.ptr r (o+off)))) h noTouch) /\
  (∀ {β:Type}{O:Oracle}{h:Heap}{d:Nat}{kt:TVal->Heap->Touch->Option β}(o off:Nat)(r:List PVal),vtouch O (.faddr off (.k (.v (.c (.p (.pptr r o)))))) h d kt=kt (.v (.c (.p (.pptr r (o+off))))) h noTouch) /\
  (∀ {β:Type}{O:Oracle}{h:Heap}{d:Nat}{kt:TVal->Heap->Touch->Option β}(s:List UInt8),vtouch O (.len 0 (.k (kS s))) h d kt=kt (kI (s.length:Int)) h noTouch) /\
  (∀ {β:Type}{O:Oracle}{h:Heap}{d:Nat}{kt:TVal->Heap->Touch->Option β},vtouch O (.len 2 (.k kNil)) h d kt=kt (kI 0) h noTouch) /\
  (∀ {β:Type}{O:Oracle}{h:Heap}{d:Nat}{kt:TVal->Heap->Touch->Option β}(sz:Nat)(t:Bool)(rows:List (List PVal)),vtouch O (.len 2 (.k (kSl sz t rows))) h d kt=kt (kI (rows.length:Int)) h noTouch) /\
  (∀ {β:Type}{O:Oracle}{h:Heap}{d:Nat}{kt:TVal->Heap->Touch->Option β}(sz:Nat)(rows:List (List PVal))(r:Ref),vtouch O (.len 2 (.k (.v (.c (.tsl sz rows r))))) h d kt=kt (kI (rows.length:Int)) h noTouch) /\
  (∀ {β:Type}{O:Oracle}{h:Heap}{d:Nat}{kt:TVal->Heap->Touch->Option β}(b:Bool),vtouch O (.un .not (.k (kB b))) h d kt=kt (kB (!b)) h noTouch) /\
  (∀ {β:Type}{O:Oracle}{h:Heap}{d:Nat}{kt:TVal->Heap->Touch->Option β}(n off:Nat)(r:Ref),vtouch O (.load false n (.k (.v (.c (.ptr r off))))) h d kt=objK (h.get r) λcs _=>obnd cs[off]? λc=>kt (.v (.c c)) h ⟨[r.site],[],false⟩) /\
  (∀ {β:Type}{O:Oracle}{h:Heap}{d:Nat}{kt:TVal->Heap->Touch->Option β}(n off:Nat)(r:Ref),vtouch O (.load true n (.k (.v (.c (.ptr r off))))) h d kt=objK (h.get r) λcs _=>chk (decide (((cs.drop off).take n).length=n)) (kt (.v (.agg ((cs.drop off).take n))) h ⟨[r.site],[],false⟩)) /\
  (∀ t:Touch,Touch.apart noTouch t=true)/\(∀ t:Touch,Touch.apart t noTouch=true)/\(∀ a b:List Site,Touch.apart ⟨a,[],false⟩ ⟨b,[],false⟩=true)/\(∀ ts:List Touch,apartAll ts []=true) /\
  (∀ (ts:List Touch) (i j:Nat) (ps:List (Nat×Nat)),apartAll ts ((i,j)::ps)=((match ts[i]?,ts[j]? with|some a,some b=>a.apart b|_,_=>false)&&apartAll ts ps))/\(∀ {β:Type}(x y:Option β),(bif true then x else y)=x) :=
 ⟨qQY,t_mv,qQh,qPA,qMb,qPC,qLT,qNH,qLw,qQK,qP0,qN0,qHH,qG5,qJ5,qGd,qGT,qQb⟩
end
section
variable {β:Type} {O:Oracle} {h:Heap} {d:Nat} {k:TVal->Heap->Option β}
theorem qPs(f:FuncId)(r:Ref):vop O (.mkfn f [.k (.v (.c (.ptr r 0)))]) h d k=k (.v (.c (.func f [r]))) h:=qAe _ _ rfl
theorem qOx(f:FuncId):vop O (.mkfn f []) h d k=k (.v (.c (.func f []))) h:=qAe _ _ rfl
theorem qQd(g:FuncId)(c:Ref)(az:List TVal):vcall O (.v (.c (.func g [c]))) az h d k=vcall O (.v (.c (.func g []))) (az++[.v (.c (.ptr c 0))]) h d k:=rfl
theorem qMi(g:FuncId)(r:Ref)(a a':TVal)(p1 p2:List TVal)(o o':AObj)(v:TVal)(ha:a.strip=a)(ha2:a.refs=[r])(ha3:a.ren (inn [r])=a')(h1:allB pT p1=true)(h2:allB pT p2=true)(hg:h.get r=some o)(ho:plainO o)(ho':plainO o')(hv:pT v=true)
  (hc:O g (p1++a'::p2) [o]=some (v,[o'])):vcall O (.v (.c (.func g []))) (p1++a::p2) h d k=k v (h.put r o'):=by
 letI:Sym:=⟨λ_=>0⟩
 show callF O g (p1++a::p2) d h k=_;rw[qBG];obtain⟨a1,a2,a3⟩:=qDn h1;obtain⟨b1,b2,b3⟩:=qDn h2;obtain⟨_,_,q3,_⟩:=qAU hv;have e1:(p1++a::p2).map TVal.strip=p1++a::p2:=by
  rw[List.map_append,List.map_cons,a1,b1,ha]
 have e2:(p1++a::p2).flatMap TVal.refs=[r]:=by
  rw[List.flatMap_append,List.flatMap_cons,a2,b2,ha2]; rfl
 have e3:reach h fuelReach [r] []=[r]:=by
  show reach h 400 [r] []=[r];unfold reach;rw[show([]:List Ref).contains r=false from rfl,cond_false,hg];dsimp only;rw[ho.1];simp[reach]
 have e4:(p1++a::p2).map (TVal.ren (inn [r]))=p1++a'::p2:=by
  rw[List.map_append,List.map_cons,a3,b3,ha3]
 have:callOp O g (p1++a::p2) d h=some (v,h.put r o',{ rd:=(([r]:List Ref)++([o]:List AObj).flatMap AObj.refs++[r]).map Ref.site,wr:=([r]:List Ref).map Ref.site++(List.range ([]:List AObj).length).map (λj=>Site.im (h.ims.length+j)),wild:=Nat.blt 0 ([]:List AObj).length }):=by
  unfold callOp;simp only[e1,e2,e3,qBd,hg,Option.map_some,e4,List.map_cons,List.map_nil,ho.2,hc,ho'.2,q3,List.length_cons,List.length_nil,Nat.lt_irrefl,if_false,List.take,List.drop,putAll]
 rw[this]; rfl
theorem qO7:vop O .mkmap h d k=k (.v (.c (.mref (.own d (h.gen d+1))))) (h.own d (h.gen d+1) (.map [] 0)):=rfl
theorem qMT(es:List (PVal×Bool×List PVal)):vlen O 3 (.v (.c (.p (.pmap es)))) h d k=k (kI (es.length:Int)) h:=by
 show opK O (.len 3 (.k _)) .nil h d k=_;rw[qAn]; rfl
def smP(m:List (List UInt8×List PVal)):PVal := .pmap (m.map λe=>(.str e.1,true,e.2))
def lookR{α:Type}(s:List UInt8):List (List UInt8×α)->Option α
 |[]=>none
 |e::m=>if s=e.1 then some e.2 else lookR s m
theorem qFv{α:Type}(s:List UInt8)(f:List UInt8×α->PVal×Comp)(hf:∀ e,(f e).1 = .str e.1):∀ (m:List (List UInt8×α)) (i:Nat),∃ o:Option (Nat×Comp),findE 2 (.str s) (m.map f) i=some o/\(o.map (·.2))=(m.find? λe=>decide (s=e.1)).map λe=>(f e).2
 |[],i=>⟨none,rfl,rfl⟩
 |e::m,i=>by
  have hk:keyEq 2 (.str s) (f e).1=some (s==e.1):=by rw[hf]; rfl
  obtain⟨o,h1,h2⟩:=qFv s f hf m (i+1);rw[List.map_cons];unfold findE;rw[hk];by_cases hs:s=e.1
  ·rw[show(s==e.1)=true by simp[hs]];exact⟨some (i,(f e).2),rfl,by simp[hs]⟩
  ·rw[show(s==e.1)=false by simp[hs]];exact⟨o,h1,by rw[h2]; simp[hs]⟩
theorem qFF{α:Type}(s:List UInt8):∀ m:List (List UInt8×α),lookR s m=(m.find? λe=>decide (s=e.1)).map (·.2)
 |[]=>rfl
 |e::m=>by
  unfold lookR;by_cases hs:s=e.1
  ·simp[hs]
  ·simp[hs,qFF s m]
theorem qNM(zs:List Cell)(m:List (List UInt8×List PVal))(s:List UInt8):vop O (.lookup 2 (.agg zs) (.k (.v (.c (.p (smP m))))) (.k (kS s)) false) h d k=k (match lookR s m with|some r => .v (.agg (pcells r))|none => .v (.agg zs)) h:=by
 refine qAe _ _ ?_;obtain⟨o,h1,h2⟩:=qFv s (λe:List UInt8×List PVal=>((.str e.1,.agg (pcells e.2)):PVal×Comp)) (λ_=>rfl) m 0;show Option.map (λe=>Plan.pure (found (.agg zs) false e)) (findE 2 (.str s) ((m.map λe=>((.str e.1,true,e.2):PVal×Bool×List PVal)).map pmComp) 0)=_;have e1:(m.map λe=>((.str e.1,true,e.2):PVal×Bool×List PVal)).map pmComp=m.map λe:List UInt8×List PVal=>((.str e.1,.agg (pcells e.2)):PVal×Comp):=by
  rw[List.map_map]; rfl
 rw[e1,h1,qFF];cases hf:m.find? (λe=>decide (s=e.1)) with
 |none =>
  rw[hf] at h2;have:o=none:=by cases o with|none=>rfl|some _=>cases h2
  subst this; rfl
 |some e =>
  rw[hf] at h2;cases o with
  |none=>cases h2
  |some x =>
   obtain⟨i,c⟩:=x;have:c = .agg (pcells e.2):=Option.some.inj h2;subst this; rfl
theorem qOb(m:List (List UInt8×List PVal)):vlen O 3 (.v (.c (.p (smP m)))) h d k=k (kI (m.length:Int)) h:=by
 unfold smP; rw[qMT,List.length_map]
end
theorem exC :
  (∀ {β:Type}{O:Oracle}{h:Heap}{d:Nat}{k:TVal->Heap->Option β}(f:FuncId)(r:Ref),vop O (.mkfn f [.k (.v (.c (.ptr r 0)))]) h d k=k (.v (.c (.func f [r]))) h) /\
  (∀ {β:Type}{O:Oracle}{h:Heap}{d:Nat}{k:TVal->Heap->Option β}(f:FuncId),vop O (.mkfn f []) h d k=k (.v (.c (.func f []))) h) /\
  (∀ {β:Type}{O:Oracle}{h:Heap}{d:Nat}{k:TVal->Heap->Option β}(g:FuncId)(c:Ref)(az:List TVal),vcall O (.v (.c (.func g [c]))) az h d k=vcall O (.v (.c (.func g []))) (az++[.v (.c (.ptr c 0))]) h d k) /\
  (∀ {β:Type}{O:Oracle}{h:Heap}{d:Nat}{k:TVal->Heap->Option β},vop O .mkmap h d k=k (.v (.c (.mref (.own d (h.gen d+1))))) (h.own d (h.gen d+1) (.map [] 0))) /\
  (∀ {β:Type}{O:Oracle}{h:Heap}{d:Nat}{k:TVal->Heap->Option β}(m:List (List UInt8×List PVal)),vlen O 3 (.v (.c (.p (smP m)))) h d k=k (kI (m.length:Int)) h) /\
  (∀ {β:Type}{O:Oracle}{h:Heap}{d:Nat}{k:TVal->Heap->Option β}(zs:List Cell)(m:List (List UInt8×List PVal))(s:List UInt8),vop O (.lookup 2 (.agg zs) (.k (.v (.c (.p (smP m))))) (.k (kS s)) false) h d k=k (match lookR s m with|some r => .v (.agg (pcells r))|none => .v (.agg zs)) h) :=
 ⟨qPs,qOx,qQd,qO7,qOb,qNM⟩
inductive Sl (α:Type) where
 |nil
 |mk (t:Bool) (l:List α)
def Sl.list{α:Type}:Sl α->List α
 |.nil=>[]
 |.mk _ l=>l
def Sl.len{α:Type}(s:Sl α):Nat:=s.list.length
def slP{α:Type}(sz:Nat)(f:α->List PVal):Sl α->PVal
 |.nil => .nilslice
 |.mk t l => .slice sz t (l.map f)
def sRow(s:List UInt8):List PVal:=[.str s]
def iRow(n:Int):List PVal:=[.int .i64 n]
inductive VT where
 |mk (kind:Int) (b:Bool) (n:Int) (s:List UInt8) (keys:Sl (List UInt8)) (l:Sl VT)
namespace VT
def kind:VT->Int | .mk k _ _ _ _ _=>k
def b:VT->Bool | .mk _ b _ _ _ _=>b
def n:VT->Int | .mk _ _ n _ _ _=>n
def s:VT->List UInt8 | .mk _ _ _ s _ _=>s
def keys:VT->Sl (List UInt8) | .mk _ _ _ _ k _=>k
def l:VT->Sl VT | .mk _ _ _ _ _ l=>l
mutual
def row:VT->List PVal
 |.mk k b n s ks l=>[.int .i64 k,.bool b,.int .i64 n,.str s,slP 1 sRow ks,slRow l]
def slRow:Sl VT->PVal
 |.nil => .nilslice
 |.mk t l => .slice 6 t (rows l)
def rows:List VT->List (List PVal)
 |[]=>[]
 |v::vs=>row v::rows vs
end
theorem qBt:∀ l:List VT,rows l=l.map row
 |[]=>by simp[rows]
 |v::vs=>by simp[rows,qBt vs]
theorem qCi(l:Sl VT):slRow l=slP 6 row l:=by cases l <;> simp[slRow,slP,qBt]
theorem row_eq(v:VT):row v=[.int .i64 v.kind,.bool v.b,.int .i64 v.n,.str v.s,slP 1 sRow v.keys,slP 6 row v.l]:=by
 cases v; simp[row,qCi,kind,b,n,s,keys,l]
theorem row_len(v:VT):(row v).length=6:=by rw[row_eq]; rfl
theorem row0(v:VT):(row v)[0]?=some (.int .i64 v.kind):=by rw[row_eq]; rfl
theorem row1(v:VT):(row v)[1]?=some (.bool v.b):=by rw[row_eq]; rfl
theorem row2(v:VT):(row v)[2]?=some (.int .i64 v.n):=by rw[row_eq]; rfl
theorem row3(v:VT):(row v)[3]?=some (.str v.s):=by rw[row_eq]; rfl
theorem row4(v:VT):(row v)[4]?=some (slP 1 sRow v.keys):=by rw[row_eq]; rfl
theorem row5(v:VT):(row v)[5]?=some (slP 6 row v.l):=by rw[row_eq]; rfl
abbrev nul:VT := .mk 0 false 0 [] .nil .nil
theorem mem_size{v x:VT}(h:x∈v.l.list):SizeOf.sizeOf x<SizeOf.sizeOf v:=by
 cases v with
 |mk k b n s ks l =>
  cases l with
  |nil=>simp[VT.l,Sl.list] at h
  |mk t l =>
   have:=List.sizeOf_lt_of_mem (show x∈l from h);simp; omega
end VT
inductive TT where
 |mk (kind:Int) (name:List UInt8) (names:Sl (List UInt8)) (kids:Sl TT)
namespace TT
def kind:TT->Int | .mk k _ _ _=>k
def name:TT->List UInt8 | .mk _ n _ _=>n
def names:TT->Sl (List UInt8) | .mk _ _ n _=>n
def kids:TT->Sl TT | .mk _ _ _ k=>k
mutual
def row:TT->List PVal
 |.mk k n ns l=>[.int .i64 k,.str n,slP 1 sRow ns,slRow l]
def slRow:Sl TT->PVal
 |.nil => .nilslice
 |.mk t l => .slice 4 t (rows l)
def rows:List TT->List (List PVal)
 |[]=>[]
 |v::vs=>row v::rows vs
end
theorem qBt:∀ l:List TT,rows l=l.map row
 |[]=>by simp[rows]
 |v::vs=>by simp[rows,qBt vs]
theorem qCi(l:Sl TT):slRow l=slP 4 row l:=by cases l <;> simp[slRow,slP,qBt]
theorem row_eq(v:TT):row v=[.int .i64 v.kind,.str v.name,slP 1 sRow v.names,slP 4 row v.kids]:=by
 cases v; simp[row,qCi,kind,name,names,kids]
theorem row_len(v:TT):(row v).length=4:=by rw[row_eq]; rfl
theorem row0(v:TT):(row v)[0]?=some (.int .i64 v.kind):=by rw[row_eq]; rfl
theorem row1(v:TT):(row v)[1]?=some (.str v.name):=by rw[row_eq]; rfl
theorem row2(v:TT):(row v)[2]?=some (slP 1 sRow v.names):=by rw[row_eq]; rfl
theorem row3(v:TT):(row v)[3]?=some (slP 4 row v.kids):=by rw[row_eq]; rfl
theorem mem_size{v x:TT}(h:x∈v.kids.list):SizeOf.sizeOf x<SizeOf.sizeOf v:=by
 cases v with
 |mk k n ns l =>
  cases l with
  |nil=>simp[TT.kids,Sl.list] at h
  |mk t l =>
   have:=List.sizeOf_lt_of_mem (show x∈l from h);simp; omega
end TT
section
variable {β:Type} {O:Oracle} {h:Heap} {d:Nat} {k:TVal->Heap->Option β}
theorem qMo{α:Type}(sz:Nat)(f:α->List PVal)(s:Sl α):vlen O 2 (.v (.c (.p (slP sz f s)))) h d k=k (kI (s.len:Int)) h:=by
 cases s with
 |nil=>rfl
 |mk t l =>
  show vlen O 2 (kSl sz t (l.map f)) h d k=_;rw[qIR,List.length_map]; rfl
theorem qI8{α:Type}(sz:Nat)(f:α->List PVal)(s:Sl α)(i:Int):viaddr sz (.v (.c (.p (slP sz f s)))) (kI i) h k=chk (decide (0<=i)) (obnd (s.list[i.toNat]?) λa=>k (.v (.c (.p (.pptr (f a) 0)))) h):=by
 cases s with
 |nil =>
  show viaddr sz (.v (.c (.p .nilslice))) (kI i) h k=_;have e:viaddr sz (.v (.c (.p .nilslice))) (kI i) h k=none:=by
   by_cases hi:0<=i
   ·obtain⟨n,rfl⟩:∃ n:Nat,i=n:=⟨i.toNat,by omega⟩;rfl
   ·obtain⟨n,rfl⟩:∃ n:Nat,i=Int.negSucc n:=⟨(-i-1).toNat,by omega⟩;rfl
  rw[e];show none=chk _ (obnd ([][_]?) _);cases decide (0<=i) <;> simp[chk,obnd]
 |mk t l =>
  show viaddr sz (kSl sz t (l.map f)) (kI i) h k=_;rw[qIt,List.getElem?_map]
  congr 1
  show obnd (Option.map f l[i.toNat]?) _=_;rw[qNj]; rfl
end
theorem exV :
  (∀ s:List UInt8,(sRow s)[0]?=some (.str s))/\(∀ n:Int,(iRow n)[0]?=some (.int .i64 n))/\(∀ s:List UInt8,(sRow s).length=1)/\(∀ n:Int,(iRow n).length=1) /\
  (∀ v:VT,v.row.length=6)/\(∀ v:VT,v.row[0]?=some (.int .i64 v.kind))/\(∀ v:VT,v.row[1]?=some (.bool v.b))/\(∀ v:VT,v.row[2]?=some (.int .i64 v.n))/\(∀ v:VT,v.row[3]?=some (.str v.s)) /\
  (∀ v:VT,v.row[4]?=some (slP 1 sRow v.keys))/\(∀ v:VT,v.row[5]?=some (slP 6 VT.row v.l)) /\
  (∀ v:TT,v.row.length=4)/\(∀ v:TT,v.row[0]?=some (.int .i64 v.kind))/\(∀ v:TT,v.row[1]?=some (.str v.name))/\(∀ v:TT,v.row[2]?=some (slP 1 sRow v.names))/\(∀ v:TT,v.row[3]?=some (slP 4 TT.row v.kids)) /\
  (∀ {β α:Type}{O:Oracle}{h:Heap}{d:Nat}{k:TVal->Heap->Option β}(sz:Nat)(f:α->List PVal)(s:Sl α),vlen O 2 (.v (.c (.p (slP sz f s)))) h d k=k (kI (s.len:Int)) h) /\
  (∀ {β α:Type}{h:Heap}{k:TVal->Heap->Option β}(sz:Nat)(f:α->List PVal)(s:Sl α)(i:Int),viaddr sz (.v (.c (.p (slP sz f s)))) (kI i) h k=chk (decide (0<=i)) (obnd (s.list[i.toNat]?) λa=>k (.v (.c (.p (.pptr (f a) 0)))) h)) /\
  (∀ {β:Type}{h:Heap}{k:TVal->Heap->Option β}(v:VT),vload true 6 (.v (.c (.p (.pptr v.row 0)))) h k=k (.v (.agg (pcells v.row))) h) /\
  (∀ {β:Type}{h:Heap}{k:TVal->Heap->Option β}(v:TT),vload true 4 (.v (.c (.p (.pptr v.row 0)))) h k=k (.v (.agg (pcells v.row))) h) /\
  (∀ {β:Type}{h:Heap}{k:TVal->Heap->Option β}(n:Nat)(x:PVal),vload false n (.v (.c (.p (.pptr [x] 0)))) h k=k (.v (.c (.p x))) h) /\
  (∀ {β:Type}{h:Heap}{k:TVal->Heap->Option β}(n:Nat)(s:List UInt8),vload false n (.v (.c (.p (.pptr (sRow s) 0)))) h k=k (kS s) h) /\
  (∀ {β:Type}{h:Heap}{k:TVal->Heap->Option β}(n:Nat)(s:Int),vload false n (.v (.c (.p (.pptr (iRow s) 0)))) h k=k (kI s) h) :=
 ⟨λ_=>rfl,λ_=>rfl,λ_=>rfl,λ_=>rfl,VT.row_len,VT.row0,VT.row1,VT.row2,VT.row3,VT.row4,VT.row5,TT.row_len,TT.row0,TT.row1,TT.row2,TT.row3,qMo,qI8,λv=>qAm 6 v.row v.row_len,λv=>qAm 4 v.row v.row_len,λn x=>qB9 n 0 [x],λn s=>qB9 n 0 _,λn s=>qB9 n 0 _⟩
structure NT where
 name:List UInt8
 t:TT
structure GT where
 name:List UInt8
 params:Sl TT
 result:TT
structure ST where
 main:TT
 types:Sl NT
 sigs:Sl GT
def NT.row(e:NT):List PVal := .str e.name::e.t.row
def GT.row(e:GT):List PVal := .str e.name::slP 4 TT.row e.params::e.result.row
def ST.row(s:ST):List PVal:=s.main.row++[slP 5 NT.row s.types,slP 6 GT.row s.sigs]
abbrev wkRow(s:ST)(n:Int):List PVal:=s.row++[.int .i64 n]
theorem ST.row_lit(s:ST):s.row=[.int .i64 s.main.kind,.str s.main.name,slP 1 sRow s.main.names,slP 4 TT.row s.main.kids,slP 5 NT.row s.types,slP 6 GT.row s.sigs]:=by unfold ST.row; rw[TT.row_eq]; rfl
theorem ST.row_len(s:ST):s.row.length=6:=by rw[ST.row_lit]; rfl
theorem NT.row_len(s:NT):s.row.length=5:=by unfold NT.row; rw[List.length_cons,TT.row_len]
theorem GT.row_len(s:GT):s.row.length=6:=by unfold GT.row; rw[List.length_cons,List.length_cons,TT.row_len]
theorem qL2{β:Type}{h:Heap}{k:TVal->Heap->Option β}(e:NT):vload true 4 (.v (.c (.p (.pptr e.row 1)))) h k=k (.v (.agg (pcells e.t.row))) h:=by
 rw[qEQ];have:(e.row.drop 1).take 4=e.t.row:=qD1 4 _ (TT.row_len _);rw[this,TT.row_len]; rfl
theorem qKr{β:Type}{h:Heap}{k:TVal->Heap->Option β}(e:GT):vload true 4 (.v (.c (.p (.pptr e.row 2)))) h k=k (.v (.agg (pcells e.result.row))) h:=by
 rw[qEQ];have:(e.row.drop 2).take 4=e.result.row:=qD1 4 _ (TT.row_len _);rw[this,TT.row_len]; rfl
theorem qPp(a:List PVal)(x:PVal):pcells a++[.p x]=pcells (a++[x]):=by simp[pcells]
theorem qOA(s:ST):(pcells s.row).take 4=pcells s.main.row:=by
 unfold ST.row pcells;rw[List.map_append,List.take_append_of_le_length (by simp[TT.row_len]),List.take_of_length_le (by simp[TT.row_len])]
theorem qOs(s:ST)(n:Int):(pcells (wkRow s n)).take 6=pcells s.row:=by
 unfold wkRow pcells;rw[List.map_append,List.take_append_of_le_length (by simp[ST.row_len]),List.take_of_length_le (by simp[ST.row_len])]
theorem qPT(s:ST)(n:Int):(wkRow s n)[6]?=some (.int .i64 n):=by unfold wkRow; rw[ST.row_lit]; rfl
theorem qPv(s:ST)(n m:Int):put1 (pcells (wkRow s n)) 6 [.p (.int .i64 m)]=pcells (wkRow s m):=by unfold wkRow; rw[ST.row_lit]; rfl
theorem qPQ(s:ST)(n:Int):(wkRow s n).length=7:=by unfold wkRow; rw[ST.row_lit]; rfl
theorem qOr(e:GT):((pcells e.row).drop 2).take 4=pcells e.result.row:=by
 show(pcells e.result.row).take 4=_;exact qEj 4 _ (TT.row_len _)
theorem qOl(e:NT):((pcells e.row).drop 1).take 4=pcells e.t.row:=by
 show(pcells e.t.row).take 4=_;exact qEj 4 _ (TT.row_len _)
theorem exS :
  (∀ e:NT,((pcells e.row).drop 1).take 4=pcells e.t.row) /\
  (∀ s:ST,s.row.length=6)/\(∀ s:NT,s.row.length=5)/\(∀ s:GT,s.row.length=6)/\(∀ s:ST,s.row[4]?=some (slP 5 NT.row s.types))/\(∀ s:ST,s.row[5]?=some (slP 6 GT.row s.sigs)) /\
  (∀ s:NT,s.row[0]?=some (.str s.name))/\(∀ s:GT,s.row[0]?=some (.str s.name))/\(∀ s:GT,s.row[1]?=some (slP 4 TT.row s.params)) /\
  (∀ {β:Type}{h:Heap}{k:TVal->Heap->Option β}(e:NT),vload true 4 (.v (.c (.p (.pptr e.row 1)))) h k=k (.v (.agg (pcells e.t.row))) h) /\
  (∀ {β:Type}{h:Heap}{k:TVal->Heap->Option β}(e:GT),vload true 4 (.v (.c (.p (.pptr e.row 2)))) h k=k (.v (.agg (pcells e.result.row))) h) /\
  (∀ {β:Type}{h:Heap}{k:TVal->Heap->Option β}(e:GT),vload true 6 (.v (.c (.p (.pptr e.row 0)))) h k=k (.v (.agg (pcells e.row))) h) /\
  (∀ {β:Type}{h:Heap}{k:TVal->Heap->Option β}(e:NT),vload true 5 (.v (.c (.p (.pptr e.row 0)))) h k=k (.v (.agg (pcells e.row))) h) /\
  (∀ s:ST,(pcells s.row).take 4=pcells s.main.row)/\(∀ (s:ST) (n:Int),(pcells (wkRow s n)).take 6=pcells s.row)/\(∀ (s:ST) (n:Int),(wkRow s n)[6]?=some (.int .i64 n)) /\
  (∀ (s:ST) (n m:Int),put1 (pcells (wkRow s n)) 6 [.p (.int .i64 m)]=pcells (wkRow s m))/\(∀ (s:ST) (n:Int),(wkRow s n).length=7)/\(∀ e:GT,((pcells e.row).drop 2).take 4=pcells e.result.row) /\
  (∀ (a:List PVal) (x:PVal),pcells a++[.p x]=pcells (a++[x]))/\(∀ (cs:List Cell) (r:List PVal),r.length<cs.length->put1 cs 0 (pcells r)=pcells r++cs.drop r.length) :=
 ⟨qOl,ST.row_len,NT.row_len,GT.row_len,λs=>by rw[ST.row_lit]; rfl,λs=>by rw[ST.row_lit]; rfl,λ_=>rfl,λ_=>rfl,λ_=>rfl,qL2,qKr,λe=>qAm 6 _ (GT.row_len e),λe=>qAm 5 _ (NT.row_len e),qOA,qOs,qPT,qPv,qPQ,qOr,qPp,λcs r _=>qL9 cs r⟩
theorem exL:(∀ {α β:Type}(f:α->β)(a:α),Option.map f (some a)=some (f a))/\((!false)=true)/\((!true)=false)/\(∀ b:Bool,(!!b)=b)/\(∀ b:Bool,(b&&b)=b)/\(∀ b:Bool,(b&&true)=b)/\(∀ b:Bool,(true&&b)=b)/\(∀ b:Bool,(b||b)=b) /\
  (∀ b:Bool,(true||b)=true)/\(∀ b:Bool,(b||true)=true)/\(∀ b:Bool,(false||b)=b)/\(∀ b:Bool,(b||false)=b)/\(∀ b:Bool,(false&&b)=false)/\(∀ b:Bool,(b&&false)=false)/\(∀ n:Nat,0+n=n)/\(∀ n:Nat,n+0=n)/\(decide True=true)/\(decide False=false) /\
  (∀ n:Nat,((n:Nat):Int).toNat=n)/\(∀ {α:Type}(a:α)(l:List α),(a::l).length=l.length+1)/\(∀ {α:Type},([]:List α).length=0)/\(∀ {α:Type}(a:α)(l:List α),(a::l)[0]?=some a)/\(∀ {α:Type}(a:α)(l:List α)(i:Nat),(a::l)[i+1]?=l[i]?) /\
  (∀ {α:Type}(a:α)(l:List α)(i:Nat),(a::l).take (i+1)=a::l.take i)/\(∀ {α:Type}(a:α)(l:List α)(i:Nat),(a::l).drop (i+1)=l.drop i)/\(∀ {α:Type}(l:List α),l.drop 0=l)/\(∀ {α:Type}(l:List α),l.take 0=[]) :=
 ⟨λ_ _=>rfl,rfl,rfl,Bool.not_not,Bool.and_self,Bool.and_true,Bool.true_and,Bool.or_self,Bool.true_or,Bool.or_true,Bool.false_or,Bool.or_false,Bool.false_and,Bool.and_false,Nat.zero_add,Nat.add_zero,rfl,rfl,Int.toNat_natCast,λ_ _=>rfl,rfl,λ_ _=>rfl,λ_ _ _=>rfl,λ_ _ _=>rfl,λ_ _ _=>rfl,λ_=>rfl,λ_=>rfl⟩
def exa:=And.intro @ne_eq.{1} (And.intro @not_false_eq_true (And.intro @ex (And.intro @exG (And.intro @exM (And.intro @exV (And.intro @exF (And.intro @exQ (And.intro @exB (And.intro @exS (And.intro @exT (And.intro @exC @exL)))))))))))
theorem qFb{p:Nat->Prop}(n:Nat)(hd:∀ i,n<=i->p i)(hs:∀ i,i<n->p (i+1)->p i):∀ i,p i:=by
 have key:∀ m i,n - i<=m->p i:=by
  intro m
  induction m with
  |zero=>intro i h; exact hd i (by omega)
  |succ m ih =>
   intro i h;by_cases hi:i<n
   ·exact hs i hi (ih (i+1) (by omega))
   ·exact hd i (by omega)
 exact λi=>key (n - i) i (Nat.le_refl _)
theorem qD9{α:Type}{l:List α}{i:Nat}(hi:i<l.length):∃ a,l[i]?=some a/\l.drop i=a::l.drop (i+1)/\a∈l :=
 ⟨l[i],by simp[hi],List.drop_eq_getElem_cons hi,List.getElem_mem hi⟩
theorem qG8{α:Type}{l:List α}{i:Nat}(hi:l.length<=i):l.drop i=[]:=List.drop_eq_nil_of_le hi
theorem qDY(n:Nat)(h:n<4611686018427387904):IntKind.i64.wrap ((n:Int)+1)=((n+1:Nat):Int):=by rw[qAF _ (by omega) (by omega)]; omega
open Go.RowKit
def varOf(objs:List AObj)(c:Cell):Option (List UInt8):=match c with
 |.ptr (.im q) 0=>(match objs[q]? with
  |some (.cells (.p (.str s)::_) _)=>some s
  |_=>none)
 |_=>none
def lastV(objs:List AObj)(nm:List UInt8):List Cell->Option (Option Cell)
 |[]=>some none
 |c::cs=>match varOf objs c with
  |none=>none
  |some s=>match lastV objs nm cs with
   |none=>none
   |some (some x)=>some (some x)
   |some none=>some (if s=nm then some c else none)
def findP(objs:List AObj)(nm:List UInt8)(v:Cell):Option (TVal×List AObj):=match v with
 |.p .nilslice=>some (.v (.c (.p .nilptr)),objs)
 |.sref (.im r) off len _ sz=>(if sz=1/\len<=1000 then (match objs[r]? with
   |some (.cells bs _)=>(if off+len<=bs.length then (match lastV objs nm ((bs.drop off).take len) with
     |some (some c)=>some (.v (.c c),objs)
     |some none=>some (.v (.c (.p .nilptr)),objs)
     |none=>none) else none)
   |_=>none) else none)
 |_=>none
def SFind(fid at_ n:Nat):Oracle:=λf args objs=>bif Nat.beq f fid then (match args with
 |[.v (.agg cs),.v (.c (.p (.str nm)))]=>(if cs.length=n then (match cs[at_]? with|some v=>findP objs nm v|none=>none) else none)
 |_=>none) else none
theorem qLv{objs:List AObj}{c:Cell}{s:List UInt8}(h:varOf objs c=some s):∃ q rest imm,c = .ptr (.im q) 0/\objs[q]?=some (.cells (.p (.str s)::rest) imm):=by
 unfold varOf at h;split at h
 ·split at h
  ·cases h; rename_i q _ rest imm e; exact⟨q,rest,imm,rfl,e⟩
  ·cases h
 ·cases h
theorem qDa(objs:List AObj)(nm:List UInt8):∀ (cs:List Cell) (r:Option Cell),lastV objs nm cs=some r ->
  (∀ (j:Nat) c,cs[j]?=some c->∃ s,varOf objs c=some s)/\(match r with
   |none=>∀ (j:Nat) c,cs[j]?=some c->varOf objs c≠some nm
   |some x=>∃ j,cs[j]?=some x/\varOf objs x=some nm/\∀ (i:Nat) c,j<i->cs[i]?=some c->varOf objs c≠some nm)
 |[],r,h=>by
  rw[lastV] at h;cases h;exact⟨λj c e=>by simp at e,λj c e=>by simp at e⟩
 |c::cs,r,h=>by
  rw[lastV] at h;cases hv:varOf objs c with
  |none=>rw[hv] at h; cases h
  |some s =>
   rw[hv] at h
   have h:(match lastV objs nm cs with
    |none=>none
    |some (some x)=>some (some x)
    |some none=>some (if s=nm then some c else none))=some r:=h
   cases hl:lastV objs nm cs with
   |none=>rw[hl] at h; cases h
   |some q =>
    obtain⟨a,b⟩:=qDa objs nm cs q hl;have first:∀ (j:Nat) d,(c::cs)[j]?=some d->∃ s,varOf objs d=some s:=by
     intro j d e;cases j with
     |zero=>simp at e; subst e; exact⟨s,hv⟩
     |succ j=>exact a j d (by simpa using e)
    rw[hl] at h;refine⟨first,?_⟩;cases q with
    |some x =>
     have h:some (some x)=some r:=h;cases h;obtain⟨j,e1,e2,e3⟩:=b;refine⟨j+1,by simpa using e1,e2,λi d hi e => ?_⟩;cases i with
     |zero=>omega
     |succ i=>exact e3 i d (by omega) (by simpa using e)
    |none =>
     have h:some (if s=nm then some c else none)=some r:=h;have b:∀ (j:Nat) c,cs[j]?=some c->varOf objs c≠some nm:=b;by_cases hs:s=nm
     ·rw[if_pos hs] at h;cases h;refine⟨0,rfl,by rw[hv,hs],λi d hi e => ?_⟩;cases i with
      |zero=>omega
      |succ i=>exact b i d (by simpa using e)
     ·rw[if_neg hs] at h;cases h;intro j d e;cases j with
      |zero=>simp at e; subst e; rw[hv]; intro e2; exact hs (Option.some.inj e2)
      |succ j=>exact b j d (by simpa using e)
section
variable [Sym]
theorem qBw{ρ:Env}{I:Imm}{h:Heap}{w w':World}(hW:WRel ρ I h w)(hb:Below w.heap.size w w'):WRel ρ I h w'/\Good ρ I h w ρ I h w':=by
 have blk:∀ b (o:Obj),w.heap[b]?=some o->w'.heap[b]?=some o:=λb o e=>by
  have h2:b<w.heap.size:=by
   rcases Nat.lt_or_ge b w.heap.size with h|h
   ·exact h
   ·rw[Array.getElem?_eq_none h] at e; cases e
  exact(hb.block b h2).trans e
 refine⟨⟨λr o e => ?_,hW.inj,λb o v e => ?_,λb arr c e=>blk _ _ (hW.imap b arr c e),hW.apart,hW.apartm,hW.fresh,hW.freshi⟩,?_⟩
 ·obtain⟨l,hl,ho⟩:=hW.live r o e;refine⟨l,hl,?_⟩;cases o with
  |cells cs imm=>obtain⟨arr,elem,lo,hi,a,b⟩:=ho; exact⟨arr,elem,lo,hi,blk _ _ a,b⟩
  |map es clock=>obtain⟨arr,a,b⟩:=ho; exact⟨arr,blk _ _ a,b⟩
  |siter s pos=>obtain⟨b,a,c⟩:=ho; exact⟨b,blk _ _ a,c⟩
  |dead=>trivial
 ·have h1:=hW.icell b o v e;have h2:=World.block_lt_of_cell? _ _ h1;exact(hb.cell (p:=⟨b,o,none⟩) h2).trans h1
 ·exact⟨Env.le_refl _,Imm.le_refl _,⟨hb.os,hb.tape,hb.output,hb.size,λb h _=>hb.block b h⟩,λ_ h => .inl h,λ_ _ _ h => .inl h,λ_ _ h => .inl h⟩
theorem qIe{objs:List AObj}{q:Nat}{cs:List Cell}{imm:Nat}(h:objs[q]?=some (.cells cs imm)):(Heap.mk objs .nil).get (.im q)=some (.cells cs imm):=by
 unfold Heap.get;simp only[h]
theorem qIZ{w:World}{b:Nat}{arr:Array Value}{elem:TypeId}{fz:Nat×Nat}{o:Nat}{v:Value}(h:w.heap[b]?=some (.cells arr elem fz))(hv:arr[o]?=some v):w.cell? ⟨b,o,none⟩=some v:=by
 unfold World.cell?;simp only[h,hv]; rfl
theorem qHi{P:Program}{G:Nat->Option (List PVal)}{fid at_ n:Nat}(hfn:∃ fn,P.funcs[fid]?=some fn/\fn.body.isSome=true/\fn.name ≠ "runtime.NumGoroutine")
  (hnil:∀ (arr:Array Value) (nm:ByteArray) (w:World),arr.size=n->arr[at_]?=some (.slice none 0 0)->Calls P fid #[.agg arr,.string nm] w λe w'=>e = .returned (.pointer none)/\Below w.heap.size w w')
  (hx:∀ (arr:Array Value) (nm:ByteArray) (w:World) (b off len cap:Nat) (pa:Nat->Addr) (nms:Nat->ByteArray),arr.size=n->arr[at_]?=some (.slice (some ⟨b,off,none⟩) len cap)->len<=1000->b<w.heap.size ->
   (∀ j,j<len->w.cell? ⟨b,off+j,none⟩=some (.pointer (some (pa j))))->(∀ j,j<len->w.cell? (pa j)=some (.string (nms j)))->(∀ j,j<len->(pa j).spot=none) ->
   Calls P fid #[.agg arr,.string nm] w λe w'=>((∃ j,j<len/\nms j=nm/\(∀ i,j<i->i<len->nms i≠nm)/\e = .returned (.pointer (some (pa j))))\/((∀ i,i<len->nms i≠nm)/\e = .returned (.pointer none)))/\Below w.heap.size w w'):FSound P G (SFind fid at_ n):=by
 intro f args objs v objs' e;unfold SFind at e;rw[qAH,Bool.cond_decide] at e;split at e
 ·rename_i hf;subst hf;split at e
  ·rename_i cs nm;refine⟨hfn,λρ I w avs hG hW ha hown => ?_⟩;split at e
   ·rename_i hn;obtain⟨l⟩:=avs
    match l,ha with
    |[x,y],⟨hx1,hy1,_⟩ =>
     obtain⟨arr,rfl,hcs⟩:=hx1;cases hy1 with|p _ _ hy1=>cases hy1 with|str _ bn hbn =>
     subst hbn;have hsz:arr.size=n:=by rw[<- hn,hcs.length,Array.length_toList]
     split at e
     ·rename_i v0 hv0;obtain⟨va,hva,hrel⟩:=hcs.get at_ v0 hv0;have hva:arr[at_]?=some va:=by simpa using hva
      unfold findP at e;split at e
      ·cases e;cases hrel with|p _ _ hrel =>
       cases hrel;refine Calls.mono (hnil arr bn w hsz hva) λe w' ⟨e1,e2⟩ => ?_
       obtain⟨r1,r2⟩:=qBw hW e2;exact⟨_,ρ,I,e1,CRel.p _ _ .nilptr,r1,r2,hown⟩
      ·rename_i r off len cap sz;split at e
       ·rename_i hsl;obtain⟨rfl,hlen⟩:=hsl;split at e
        ·rename_i bs imm hbs;split at e
         ·rename_i hoff;cases hrel with|sref _ _ _ _ _ cc l hρ hl ht hc =>
          obtain⟨l',hl',ho⟩:=hW.live (.im r) _ (qIe hbs);rw[hρ] at hl';cases hl';obtain⟨barr,elem,lo,hi,q1,q2,q3,q4,q5⟩:=ho;have hblt:l.blk<w.heap.size:=by
           rcases Nat.lt_or_ge l.blk w.heap.size with h|h
           ·exact h
           ·rw[Array.getElem?_eq_none h] at q1; cases q1
          -- what stands in the row
          have look:∀ r',lastV objs bn.data.toList ((bs.drop off).take len)=some r'->∃ (pa:Nat->Addr) (nms:Nat->ByteArray),∀ j,j<len->∃ c,((bs.drop off).take len)[j]?=some c/\varOf objs c=some (nms j).data.toList/\CRel ρ I c (.pointer (some (pa j)))/\w.cell? ⟨l.blk,l.base+off+j,none⟩=some (.pointer (some (pa j)))/\w.cell? (pa j)=some (.string (nms j))/\(pa j).spot=none:=by
           intro r' hr';have hs:=(qDa objs _ _ _ hr').1;have step:∀ j,∃ an:Addr×ByteArray,j<len->∃ c,((bs.drop off).take len)[j]?=some c/\varOf objs c=some an.2.data.toList/\CRel ρ I c (.pointer (some an.1))/\w.cell? ⟨l.blk,l.base+off+j,none⟩=some (.pointer (some an.1))/\w.cell? an.1=some (.string an.2)/\an.1.spot=none:=by
            intro j;by_cases hj:j<len
            ·have hj2:off+j<bs.length:=by omega
             have hcj:((bs.drop off).take len)[j]?=some bs[off+j]:=by
              rw[List.getElem?_take_of_lt hj,List.getElem?_drop,List.getElem?_eq_getElem hj2]
             obtain⟨s,hsv⟩:=hs j _ hcj;obtain⟨q,rest,im2,hc2,ho2⟩:=qLv hsv;obtain⟨lq,hlq,oq⟩:=hW.live (.im q) _ (qIe ho2);obtain⟨qarr,qe,ql,qh,p1,p2,p3,p4,p5⟩:=oq;obtain⟨v1,hv1,hr1⟩:=p4 0 _ rfl;cases hr1 with|p _ _ hr1=>cases hr1 with|str _ sb hsb =>
             obtain⟨v2,hv2,hr2⟩:=q4 (off+j) _ (List.getElem?_eq_getElem hj2);rw[hc2] at hr2;have hv2':v2 = .pointer (some ⟨lq.blk,lq.base+0,none⟩):=by
              cases hr2 with|ptr _ _ l2 hl2=>rw[hlq] at hl2; cases hl2; rfl
             refine⟨(⟨lq.blk,lq.base+0,none⟩,sb),λ_=>⟨_,hcj,?_,?_,?_,?_,rfl⟩⟩
             ·rw[hsv,hsb]
             ·rw[hc2]; exact .ptr _ _ _ hlq
             ·rw[<- hv2',Nat.add_assoc]; exact qIZ q1 hv2
             ·exact qIZ p1 hv1
            ·exact⟨(⟨0,0,none⟩,⟨#[]⟩),λh=>absurd h hj⟩
           obtain⟨g,hg⟩:=Classical.skolem.1 step;exact⟨λj=>(g j).1,λj=>(g j).2,hg⟩
          have inj:∀ {a b:ByteArray},a.data.toList=b.data.toList->a=b:=λ{a b} h=>(qCa h).trans (qCa rfl).symm
          have run:∀ r',lastV objs bn.data.toList ((bs.drop off).take len)=some r'->(∀ c cv,(r'=some c->CRel ρ I c cv)->(r'=none->cv = .pointer none)->True)->Calls P f #[.agg arr,.string bn] w λe w'=>∃ cv,e = .returned cv/\(match r' with|some c=>CRel ρ I c cv|none=>cv = .pointer none)/\Below w.heap.size w w':=by
           intro r' hr' _;obtain⟨pa,nms,hg⟩:=look r' hr';have hs2:=(qDa objs _ _ _ hr').2;refine Calls.mono (hx arr bn w l.blk (l.base+off) len cc pa nms hsz hva hlen hblt (λj hj=>(hg j hj).choose_spec.2.2.2.1) (λj hj=>(hg j hj).choose_spec.2.2.2.2.1) (λj hj=>(hg j hj).choose_spec.2.2.2.2.2)) λe w' ⟨h1,h2⟩ => ?_
           have hll:((bs.drop off).take len).length=len:=by rw[List.length_take,List.length_drop]; omega
           cases r' with
           |none =>
            rcases h1 with ⟨j,hj,h3,h4,h5⟩|⟨h3,h4⟩
            ·obtain⟨c,c1,c2,_⟩:=hg j hj;exact absurd (by rw[c2,h3]) (hs2 j c c1)
            ·exact⟨_,h4,rfl,h2⟩
           |some x =>
            obtain⟨j,j1,j2,j3⟩:=hs2;have hj:j<len:=by rw[<- hll]; exact(List.getElem?_eq_some_iff.1 j1).1
            rcases h1 with ⟨k,hk,h3,h4,h5⟩|⟨h3,h4⟩
            ·have hjk:j=k:=by
              rcases Nat.lt_trichotomy j k with h|h|h
              ·obtain⟨c,c1,c2,_⟩:=hg k hk;exact absurd (by rw[c2,h3]) (j3 k c h c1)
              ·exact h
              ·obtain⟨c,c1,c2,_⟩:=hg j hj;rw[j1] at c1;cases c1;rw[j2] at c2;exact absurd (inj (Option.some.inj c2).symm) (h4 j h hj)
             subst hjk;obtain⟨c,c1,c2,c3,_⟩:=hg j hj;rw[j1] at c1;cases c1;exact⟨_,h5,c3,h2⟩
            ·obtain⟨c,c1,c2,_⟩:=hg j hj;rw[j1] at c1;cases c1;rw[j2] at c2;exact absurd (inj (Option.some.inj c2).symm) (h3 j hj)
          split at e
          ·rename_i c hc3;cases e;refine Calls.mono (run _ hc3 (λ_ _ _ _=>trivial)) λe w' ⟨cv,e1,e2,e3⟩ => ?_
           obtain⟨r1,r2⟩:=qBw hW e3;exact⟨_,ρ,I,e1,e2,r1,r2,hown⟩
          ·rename_i hc3;cases e;refine Calls.mono (run _ hc3 (λ_ _ _ _=>trivial)) λe w' ⟨cv,e1,e2,e3⟩ => ?_
           have e2:cv = .pointer none:=e2;subst e2;obtain⟨r1,r2⟩:=qBw hW e3;exact⟨_,ρ,I,e1,CRel.p _ _ .nilptr,r1,r2,hown⟩
          ·cases e
         ·cases e
        ·cases e
       ·cases e
      ·cases e
     ·cases e
   ·cases e
  ·cases e
 ·cases e
end
open Go.RowKit
def findQ(nm:List UInt8)(v:Cell):Option TVal:=match v with
 |.p .nilslice=>some (.v (.c (.p .nilptr)))
 |.p (.slice 1 _ [[.pptr (.str s::t) 0]])=>if s=nm then some (.v (.c (.p (.pptr (.str s::t) 0)))) else none
 |_=>none
def SFindQ(fid at_ n:Nat):Oracle:=λf args objs=>bif Nat.beq f fid then (match args with
 |[.v (.agg cs),.v (.c (.p (.str nm)))]=>(if cs.length=n then (match cs[at_]? with|some v=>(findQ nm v).map λr=>(r,objs)|none=>none) else none)
 |_=>none) else none
section
variable [Sym]
theorem qHc{P:Program}{G:Nat->Option (List PVal)}{fid at_ n:Nat}(hfn:∃ fn,P.funcs[fid]?=some fn/\fn.body.isSome=true/\fn.name ≠ "runtime.NumGoroutine")
  (hnil:∀ (arr:Array Value) (nm:ByteArray) (w:World),arr.size=n->arr[at_]?=some (.slice none 0 0)->Calls P fid #[.agg arr,.string nm] w λe w'=>e = .returned (.pointer none)/\Below w.heap.size w w')
  (hx:∀ (arr:Array Value) (nm:ByteArray) (w:World) (b off len cap:Nat) (pa:Nat->Addr) (nms:Nat->ByteArray),arr.size=n->arr[at_]?=some (.slice (some ⟨b,off,none⟩) len cap)->len<=1000->b<w.heap.size ->
   (∀ j,j<len->w.cell? ⟨b,off+j,none⟩=some (.pointer (some (pa j))))->(∀ j,j<len->w.cell? (pa j)=some (.string (nms j)))->(∀ j,j<len->(pa j).spot=none) ->
   Calls P fid #[.agg arr,.string nm] w λe w'=>((∃ j,j<len/\nms j=nm/\(∀ i,j<i->i<len->nms i≠nm)/\e = .returned (.pointer (some (pa j))))\/((∀ i,i<len->nms i≠nm)/\e = .returned (.pointer none)))/\Below w.heap.size w w'):FSound P G (SFindQ fid at_ n):=by
 intro f args objs v objs' e;unfold SFindQ at e;rw[qAH,Bool.cond_decide] at e;split at e
 ·rename_i hf;subst hf;split at e
  ·rename_i cs nm;refine⟨hfn,λρ I w avs hG hW ha hown => ?_⟩;split at e
   ·rename_i hn;obtain⟨l⟩:=avs
    match l,ha with
    |[x,y],⟨hx1,hy1,_⟩ =>
     obtain⟨arr,rfl,hcs⟩:=hx1;cases hy1 with|p _ _ hy1=>cases hy1 with|str _ bn hbn =>
     subst hbn;have hsz:arr.size=n:=by rw[<- hn,hcs.length,Array.length_toList]
     split at e
     ·rename_i v0 hv0;obtain⟨va,hva,hrel⟩:=hcs.get at_ v0 hv0;have hva:arr[at_]?=some va:=by simpa using hva
      obtain⟨r,hr,e⟩:=Option.map_eq_some_iff.1 e;cases e;unfold findQ at hr;split at hr
      ·cases hr;cases hrel with|p _ _ hrel =>
       cases hrel;refine Calls.mono (hnil arr bn w hsz hva) λe w' ⟨e1,e2⟩ => ?_
       obtain⟨r1,r2⟩:=qBw hW e2;exact⟨_,ρ,I,e1,CRel.p _ _ .nilptr,r1,r2,hown⟩
      ·rename_i t s rest;split at hr
       ·rename_i hs;cases hr;cases hrel with|p _ _ hrel =>
        cases hrel with|slice _ _ _ b o cap cv ht hc hz hI hv =>
        have c0:=hI 0 _ 0 _ rfl rfl;have p0:=hv 0 _ 0 _ rfl rfl;generalize hcv:cv 0 0=c at c0 p0;cases p0 with|pptr _ _ b' o' cv' hI' hv' =>
        have c1:=hI' 0 _ rfl;have p1:=hv' 0 _ rfl;generalize hcv':cv' 0=c' at c1 p1;cases p1 with|str _ sb hsb =>
        have k0:=hW.icell _ _ _ c0;have k1:=hW.icell _ _ _ c1;have hb:=World.block_lt_of_cell? _ _ k0;have hnm:sb=bn:=(qCa (hsb.trans hs)).trans (qCa rfl).symm;refine Calls.mono (hx arr bn w b o 1 cap (λ_=>⟨b',o'+0,none⟩) (λ_=>sb) hsz hva (by decide) hb (λj hj => ?_) (λj hj=>k1) (λj hj=>rfl)) λe w' ⟨h1,h2⟩ => ?_
        ·obtain rfl:j=0:=by omega
         simpa using k0
        ·obtain⟨r1,r2⟩:=qBw hW h2
         rcases h1 with ⟨j,_,_,_,e1⟩|⟨h3,_⟩
         ·exact⟨_,ρ,I,e1,CRel.p _ _ (.pptr _ 0 b' o' cv' hI' hv'),r1,r2,hown⟩
         ·exact absurd hnm (h3 0 (by decide))
       ·cases hr
      ·cases hr
     ·cases e
   ·cases e
  ·cases e
 ·cases e
end
section
variable {β:Type} {O:Oracle} {h:Heap} {d:Nat} {k:TVal->Heap->Option β} {kt:TVal->Heap->Touch->Option β}
theorem qCy(op:AOp):vop O op h d k=vtouch O op h d λv h _=>k v h:=by
 show opK O op .nil h d k=bnd (plan2 op .nil) (λp=>bnd (p.exec O d h) λx=>k x.1 x.2.1);rw[qAn,qAZ];unfold slow;cases plan .nil op with
 |none=>rfl
 |some p =>
  show Option.bind ((p.exec O d h).map λx=>(x.1,x.2.1)) (λx=>k x.1 x.2)=bnd (p.exec O d h) _;cases p.exec O d h <;> rfl
def GS(D:List Nat)(sz:Nat)(v:Cell)(rows:List (List PVal))(h:Heap):Prop :=
 (rows=[]/\v = .p .nilslice)\/v = .p (.slice sz true rows)\/(∃ e g,e∈D/\v = .tsl sz rows (.own e g)/\h.get (.own e g)=some (.cells [] 0))
def TouchIn(D:List Nat)(t:Touch):Prop:=(∀ s∈t.rd,∃ e,e∈D/\s = .own e)/\(∀ s∈t.wr,∃ e,e∈D/\s = .own e)/\t.wild=false
def SrcR(sz:Nat)(b:PVal)(new:List (List PVal)):Prop:=(b = .nilslice/\new=[])\/∃ t,b = .slice sz t new
theorem SrcR.cells{sz:Nat}{b:PVal}{new:List (List PVal)}(H:SrcR sz b new):srcCells sz (.v (.c (.p b))) none=some (pcells new.flatten,new.length):=by
 rcases H with ⟨rfl,rfl⟩|⟨t,rfl⟩
 ·rfl
 ·unfold srcCells; simp
theorem qNr{D:List Nat}{sz by':Nat}{v:Cell}{rows new:List (List PVal)}{b:PVal}(H:SrcR sz b new)(G:GS D sz v rows h)(hD:d∈D)(hsz:∀ r∈new,r.length=sz)(hb:(rows.length+new.length)*by'<=1099511627776)(hd:d+1<1048576) :
  ∃ v' h' t,GS D sz v' (rows++new) h'/\(∀ (β:Type) (O:Oracle) (kt:TVal->Heap->Touch->Option β),vtouch O (.append sz by' false (.k (.v (.c v))) (.k (.v (.c (.p b))))) h d kt=kt (.v (.c v')) h' t)/\TouchIn D t /\
   (∀ e g o,e∉D->h.get (.own e g)=some o->h'.get (.own e g)=some o)/\(∀ i,h'.get (.im i)=h.get (.im i))/\((new≠[]\/∃ r,v = .tsl sz rows r)->∃ r,v' = .tsl sz (rows++new) r):=by
 have hc:=H.cells;have hs:srcRef (.v (.c (.p b)))=none:=by rcases H with ⟨rfl,_⟩|⟨t,rfl⟩ <;> rfl
 have go1:∀ (op:AOp) (needs:List Ref) (pk:List AObj->Option Res) (x:TVal×Heap×Touch),plan .nil op=some (.go needs pk)->goOp needs pk d h=some x->∀ (β:Type) (O:Oracle) (kt:TVal->Heap->Touch->Option β),vtouch O op h d kt=kt x.1 x.2.1 x.2.2 :=
  λop needs pk x e1 e2 β O kt=>qCn op needs pk x.1 x.2.1 x.2.2 e1 e2
 by_cases hn:new=[]
 ·subst hn;have hr:rows++[]=rows:=List.append_nil _;have hsl:isSl (.v (.c v))=true:=by rcases G with ⟨_,rfl⟩|rfl|⟨e,g,_,rfl,_⟩ <;> rfl
  have hap:∀ o,appendTo sz by' false (.v (.c v)) o (pcells ([]:List (List PVal)).flatten) 0=some ⟨λ_ => .v (.c v),[],none,false⟩:=by
   intro o; unfold appendTo; rw[if_pos rfl,if_pos hsl]
  rcases G with ⟨g1,rfl⟩|rfl|⟨e,g,he,rfl,hh⟩
  ·refine⟨_,h,⟨[],[],false⟩,by rw[hr]; exact .inl ⟨g1,rfl⟩,go1 _ [] _ (_,h,⟨[],[],false⟩) rfl ?_,⟨λs hs=>(by cases hs),λs hs=>(by cases hs),rfl⟩,λ_ _ _ _ ho=>ho,λ_=>rfl,λx=>by rcases x with x|⟨r,x⟩; exact absurd rfl x; cases x⟩;unfold goOp;simp only[List.mapM_nil,Option.pure_def,hs,dstRef,splitNeeds,rL,Option.bind_some,hc,List.length_nil,hap];rfl
  ·refine⟨_,h,⟨[],[],false⟩,by rw[hr]; exact .inr (.inl rfl),go1 _ [] _ (_,h,⟨[],[],false⟩) rfl ?_,⟨λs hs=>(by cases hs),λs hs=>(by cases hs),rfl⟩,λ_ _ _ _ ho=>ho,λ_=>rfl,λx=>by rcases x with x|⟨r,x⟩; exact absurd rfl x; cases x⟩;unfold goOp;simp only[List.mapM_nil,Option.pure_def,hs,dstRef,splitNeeds,rL,Option.bind_some,hc,List.length_nil,hap];rfl
  ·refine⟨_,h,⟨[.own e],[],false⟩,by rw[hr]; exact .inr (.inr ⟨e,g,he,rfl,hh⟩),go1 _ [.own e g] (λos=>do let (oa,ob) <- splitNeeds (some (.own e g)) none os; let (new,n) <- srcCells sz (.v (.c (.p b))) ob; appendTo sz by' false (.v (.c (.tsl sz rows (.own e g)))) oa new n) (_,h,⟨[.own e],[],false⟩) ?_ ?_,⟨λs hs=>⟨e,he,(by simpa using hs)⟩,λs hs=>(by cases hs),rfl⟩,λ_ _ _ _ ho=>ho,λ_=>rfl,λ_=>⟨_,by rw[hr]⟩⟩
   ·show some (Plan.go (zipNeeds (dstRef _) (srcRef (.v (.c (.p b))))) _)=_;rw[hs]; rfl
   ·unfold goOp;simp only[qBd,hh,Option.map_some,hs,dstRef,splitNeeds,rL,Option.bind_some,hc,List.length_nil,hap];rfl
 ·have hnl:new.length≠0:=by simpa using hn
  have gr:∀ ups,growRow sz by' rows (pcells new.flatten) new.length ups=some ⟨λr => .v (.c (.tsl sz (rows++new) r)),ups,some (.cells [] 0),false⟩:=by
   intro ups;unfold growRow;rw[qBa sz new hsz];dsimp only;rw[if_pos (by omega)]
  rcases G with ⟨rfl,rfl⟩|rfl|⟨e,g,he,rfl,hh⟩
  ·have ea:appendTo sz by' false kNil none (pcells new.flatten) new.length=some ⟨λr => .v (.c (.tsl sz ([]++new) r)),[],some (.cells [] 0),false⟩:=by
    unfold appendTo; rw[if_neg hnl]; exact gr []
   refine⟨.tsl sz ([]++new) (.own d (h.gen d+1)),h.own d (h.gen d+1) (.cells [] 0),⟨[],[.own d],false⟩,.inr (.inr ⟨d,_,hD,rfl,Heap.own_get h d _ _ hd (λe=>by cases e)⟩),go1 _ [] _ (_,_,_) rfl ?_,⟨λs hs=>(by cases hs),λs hs=>⟨d,hD,(by simpa using hs)⟩,rfl⟩,λe g o he ho=>(Heap.own_get_ne h d _ _ e g (λx=>he (x▸hD))).trans ho,λi=>rfl,λ_=>⟨_,rfl⟩⟩;unfold goOp;simp only[List.mapM_nil,Option.pure_def,hs,dstRef,splitNeeds,rL,Option.bind_some,hc,ea];rfl
  ·have ea:appendTo sz by' false (.v (.c (.p (.slice sz true rows)))) none (pcells new.flatten) new.length=some ⟨λr => .v (.c (.tsl sz (rows++new) r)),[],some (.cells [] 0),false⟩:=by
    unfold appendTo; rw[if_neg hnl];show(if sz=sz then (if false then _ else growRow sz by' rows (pcells new.flatten) new.length []) else none)=_;rw[if_pos rfl];exact gr []
   refine⟨.tsl sz (rows++new) (.own d (h.gen d+1)),h.own d (h.gen d+1) (.cells [] 0),⟨[],[.own d],false⟩,.inr (.inr ⟨d,_,hD,rfl,Heap.own_get h d _ _ hd (λe=>by cases e)⟩),go1 _ [] _ (_,_,_) rfl ?_,⟨λs hs=>(by cases hs),λs hs=>⟨d,hD,(by simpa using hs)⟩,rfl⟩,λe g o he ho=>(Heap.own_get_ne h d _ _ e g (λx=>he (x▸hD))).trans ho,λi=>rfl,λ_=>⟨_,rfl⟩⟩;unfold goOp;simp only[List.mapM_nil,Option.pure_def,hs,dstRef,splitNeeds,rL,Option.bind_some,hc,ea];rfl
  ·have ea:appendTo sz by' false (.v (.c (.tsl sz rows (.own e g)))) (some (.cells [] 0)) (pcells new.flatten) new.length=some ⟨λr => .v (.c (.tsl sz (rows++new) r)),[(.own e g,.dead)],some (.cells [] 0),false⟩:=by
    unfold appendTo; rw[if_neg hnl];show(if sz=sz then growRow sz by' rows (pcells new.flatten) new.length [(.own e g,.dead)] else none)=_;rw[if_pos rfl];exact gr _
   have hgen:(h.put (.own e g) .dead).gen d+1=(h.put (.own e g) .dead).gen d+1:=rfl;refine⟨.tsl sz (rows++new) (.own d (h.gen d+1)),(h.put (.own e g) .dead).own d (h.gen d+1) (.cells [] 0),⟨[.own e],.own d::[.own e],false⟩,.inr (.inr ⟨d,_,hD,rfl,Heap.own_get _ d _ _ hd (λe=>by cases e)⟩),go1 _ [.own e g] (λos=>do let (oa,ob) <- splitNeeds (some (.own e g)) none os; let (new,n) <- srcCells sz (.v (.c (.p b))) ob; appendTo sz by' false (.v (.c (.tsl sz rows (.own e g)))) oa new n) (_,_,_) ?_ ?_,⟨λs hs=>⟨e,he,(by simpa using hs)⟩,λs hs => ?_,rfl⟩,λe' g' o he' ho => ?_,λi=>rfl,λ_=>⟨_,rfl⟩⟩
   ·show some (Plan.go (zipNeeds (dstRef _) (srcRef (.v (.c (.p b))))) _)=_;rw[hs]; rfl
   ·unfold goOp;simp only[qBd,hh,Option.map_some,hs,dstRef,splitNeeds,rL,Option.bind_some,hc,ea];simp;rfl
   ·simp only[List.mem_cons,List.not_mem_nil,or_false] at hs
    rcases hs with rfl|rfl
    ·exact⟨d,hD,rfl⟩
    ·exact⟨e,he,rfl⟩
   ·refine(Heap.own_get_ne _ d _ _ e' g' (λx=>he' (x▸hD))).trans ?_;exact(Heap.own_get_ne h e g _ e' g' (λx=>he' (x▸he))).trans ho
theorem GS.keep{D:List Nat}{sz:Nat}{v:Cell}{rows:List (List PVal)}{h h':Heap}(G:GS D sz v rows h)(hk:∀ e∈D,∀ g,h.get (.own e g)=some (.cells [] 0)->h'.get (.own e g)=some (.cells [] 0)):GS D sz v rows h':=by
 rcases G with g|g|⟨e,g,m,b,c⟩
 ·exact .inl g
 ·exact .inr (.inl g)
 ·exact .inr (.inr ⟨e,g,m,b,hk _ m _ c⟩)
theorem GS.own{D:List Nat}{sz:Nat}{v:Cell}{rows:List (List PVal)}{h:Heap}(G:GS D sz v rows h){d:Nat}(g:Nat)(o:AObj)(hd:d∉D):GS D sz v rows (h.own d g o) :=
 G.keep λe he g' hh=>(Heap.own_get_ne h d g o e g' (λx=>hd (x▸he))).trans hh
theorem qOG(z:List Cell):vtouch O (.alloc z false) h d kt=kt (.v (.c (.ptr (.own d (h.gen d+1)) 0))) (h.own d (h.gen d+1) (.cells z 0)) ⟨[],[.own d],false⟩:=qHQ z
theorem qLA(sz:Nat)(z:List Cell):vtouch O (.bslice sz 0 z [] false) h d kt=kt (kSl sz true []) h noTouch:=qBb _ _ rfl
theorem qKw(z:List Cell)(x:PVal)(hz:z.length=1):vtouch O (.bslice 1 1 z [(0,.k (.v (.c (.p x))))] false) h d kt=kt (kSl 1 true [[x]]) h noTouch:=by
 match z,hz with
 |[z0],_=>exact qBb _ _ rfl
theorem qHa(sz:Nat)(z:List Cell)(r:List PVal)(hz:z.length=sz)(hr:r.length=sz):plan .nil (.bslice sz 1 z [(0,.k (.v (.agg (pcells r))))] false)=some (.pure (kSl sz true [r])):=by
 subst hz;have e1:fillA (rep 1 z) [(0*z.length,z.length,Comp.agg (pcells r))]=some (pcells r):=by
  have l1:(Comp.agg (pcells r)).cells.length=z.length:=by show(pcells r).length=_; unfold pcells; rw[List.length_map,hr]
  have l2:(rep 1 z).length=z.length:=by simp[rep]
  simp only[fillA,l1,l2,Nat.zero_mul,Nat.zero_add,Nat.le_refl,and_self,if_true];show some (splice (rep 1 z) 0 (pcells r))=_;have l3:(pcells r).length=z.length:=l1;simp[splice,l2,l3,rep]
 have e2:chunk z.length 1 (pcells r)=some [r]:=by
  show(do let row <- unps ((pcells r).take z.length); if row.length=z.length then pure (row::(<- chunk z.length 0 ((pcells r).drop z.length))) else none)=_;have:(pcells r).take z.length=pcells r:=List.take_of_length_le (by simp[pcells,hr]);rw[this,qFJ];simp[hr,chunk]
 simp only[plan,List.mapM_cons,List.mapM_nil,X.ev,Option.pure_def,rL,Option.bind_some,e1,e2,Bool.false_eq_true,if_false]
theorem qI7(sz:Nat)(z:List Cell)(r:List PVal)(hz:z.length=sz)(hr:r.length=sz):vtouch O (.bslice sz 1 z [(0,.k (.v (.agg (pcells r))))] false) h d kt=kt (kSl sz true [r]) h noTouch:=qBb _ _ (qHa sz z r hz hr)
theorem qC6(n off:Nat)(r:Ref)(x:Comp):vtouch O (.store n (.k (.v (.c (.ptr r off)))) (.k (.v x))) h d kt=objK (h.get r) λcs imm=>chk (decide (imm<=off)&&(decide (x.cells.length=n)&&decide (off+n<=cs.length))) (kt .undef (h.put r (.cells (put1 cs off x.cells) imm)) ⟨[r.site],[r.site],false⟩):=by
 rw[qG7 _ r _ rfl];cases hg:h.get r with
 |none=>rfl
 |some o =>
  show(goOp [r] _ d h).bind _=_;unfold goOp;rw[qBd,hg];cases o with
  |cells cs imm =>
   by_cases hc:imm<=off/\x.cells.length=n/\off+n<=cs.length
   ·simp only[Option.map_some,objK,if_pos hc,decide_eq_true hc.1,decide_eq_true hc.2.1,decide_eq_true hc.2.2,Bool.and_self,chk,cond_true];simp[put1]
   ·have hb:(decide (imm<=off)&&(decide (x.cells.length=n)&&decide (off+n<=cs.length)))=false:=by
     refine Bool.eq_false_iff.2 λe=>hc ?_
     simp only[Bool.and_eq_true,decide_eq_true_eq] at e;exact e
    simp only[Option.map_some,objK,if_neg hc,Option.map_none,hb,chk,cond_false];rfl
  |_=>rfl
end
def bRow(b:UInt8):List PVal:=[.int .u8 (b.toNat:Int)]
inductive RT where
 |mk (kind n:Int) (s:Sl UInt8) (keys:Sl Int) (kids:Sl RT)
namespace RT
def kind:RT->Int | .mk k _ _ _ _=>k
def n:RT->Int | .mk _ n _ _ _=>n
def s:RT->Sl UInt8 | .mk _ _ s _ _=>s
def keys:RT->Sl Int | .mk _ _ _ k _=>k
def kids:RT->Sl RT | .mk _ _ _ _ l=>l
mutual
def row:RT->List PVal
 |.mk k n s ks l=>[.int .i64 k,.int .i64 n,slP 1 bRow s,slP 1 iRow ks,slRow l]
def slRow:Sl RT->PVal
 |.nil => .nilslice
 |.mk t l => .slice 5 t (rows l)
def rows:List RT->List (List PVal)
 |[]=>[]
 |v::vs=>row v::rows vs
end
theorem qBt:∀ l:List RT,rows l=l.map row
 |[]=>by simp[rows]
 |v::vs=>by simp[rows,qBt vs]
theorem qCi(l:Sl RT):slRow l=slP 5 row l:=by cases l <;> simp[slRow,slP,qBt]
theorem row_eq(v:RT):row v=[.int .i64 v.kind,.int .i64 v.n,slP 1 bRow v.s,slP 1 iRow v.keys,slP 5 row v.kids]:=by
 cases v; simp[row,qCi,kind,n,s,keys,kids]
theorem row_len(v:RT):(row v).length=5:=by rw[row_eq]; rfl
theorem mem_size{v x:RT}(h:x∈v.kids.list):SizeOf.sizeOf x<SizeOf.sizeOf v:=by
 cases v with
 |mk k n s ks l =>
  cases l with
  |nil=>simp[RT.kids,Sl.list] at h
  |mk t l =>
   have:=List.sizeOf_lt_of_mem (show x∈l from h);simp; omega
end RT
section
variable {β:Type} {O:Oracle} {h:Heap} {d:Nat} {k:TVal->Heap->Option β} {kt:TVal->Heap->Touch->Option β}
theorem exW :
  (∀ v:RT,v.row.length=5)/\(∀ v:RT,v.row[0]?=some (.int .i64 v.kind))/\(∀ v:RT,v.row[1]?=some (.int .i64 v.n))/\(∀ v:RT,v.row[2]?=some (slP 1 bRow v.s))/\(∀ v:RT,v.row[3]?=some (slP 1 iRow v.keys))/\(∀ v:RT,v.row[4]?=some (slP 5 RT.row v.kids)) /\
  (∀ {β:Type}{h:Heap}{k:TVal->Heap->Option β}(v:RT),vload true 5 (.v (.c (.p (.pptr v.row 0)))) h k=k (.v (.agg (pcells v.row))) h)/\(∀ b:UInt8,(bRow b)[0]?=some (.int .u8 (b.toNat:Int))) :=
 ⟨RT.row_len,λv=>by rw[RT.row_eq]; rfl,λv=>by rw[RT.row_eq]; rfl,λv=>by rw[RT.row_eq]; rfl,λv=>by rw[RT.row_eq]; rfl,λv=>by rw[RT.row_eq]; rfl,λv=>qAm 5 v.row v.row_len,λ_=>rfl⟩
end
section
variable {β:Type} {O:Oracle} {h:Heap} {d:Nat} {k:TVal->Heap->Option β} {kt:TVal->Heap->Touch->Option β}
theorem qIz(sz:Nat)(a i:TVal)(p:Plan)(e:plan .nil (.iaddr sz (.k a) (.k i))=some p):∃ v,p = .pure v:=by
 have e':(match some a,(some i).bind asN with
  |some (.v (.c (.p (.slice sz' _ rows)))),some k =>
   if sz'=sz then (match rows[k]? with|some row=>some (Plan.pure (.pv (.pptr row 0)))|none=>none) else none
  |some (.v (.c (.tsl sz' rows _))),some k =>
   if sz'=sz then (match rows[k]? with|some row=>some (.pure (.pv (.pptr row 0)))|none=>none) else none
  |some (.v (.c (.sref r off len _ sz'))),some k=>if sz'=sz/\k<len then some (.pure (.v (.c (.ptr r (off+k*sz))))) else none
  |_,_=>none)=some p:=e
 clear e;revert e';generalize (some i).bind asN=j;intro e;split at e
 ·split at e
  ·split at e
   ·exact⟨_,(Option.some.inj e).symm⟩
   ·cases e
  ·cases e
 ·split at e
  ·split at e
   ·exact⟨_,(Option.some.inj e).symm⟩
   ·cases e
  ·cases e
 ·split at e
  ·exact⟨_,(Option.some.inj e).symm⟩
  ·cases e
 ·cases e
theorem qN4(sz:Nat)(a i:TVal):vtouch O (.iaddr sz (.k a) (.k i)) h d kt=viaddr sz a i h λv h=>kt v h noTouch:=by
 rw[qFa _ (qIz sz a i)];exact(qDJ O sz (.k a) (.k i) .nil h d (λv h=>kt v h noTouch)).symm
theorem qN2(g:Bool)(n off:Nat)(row:List PVal):vtouch O (.load g n (.k (.v (.c (.p (.pptr row off)))))) h d kt=vload g n (.v (.c (.p (.pptr row off)))) h λv h=>kt v h noTouch:=by
 rw[qFa (.load g n (.k (.v (.c (.p (.pptr row off)))))) (λp e => ?_)]
 ·exact(qDl O g n (.k (.v (.c (.p (.pptr row off))))) .nil h d (λv h=>kt v h noTouch)).symm
 ·have e':(partOf g n (pcells row) off).map Plan.pure=some p:=e;cases hp:partOf g n (pcells row) off with
  |none=>rw[hp] at e'; cases e'
  |some v=>rw[hp] at e'; exact⟨v,(Option.some.inj e').symm⟩
theorem exY :
  (∀ {β:Type}{O:Oracle}{h:Heap}{d:Nat}{kt:TVal->Heap->Touch->Option β}(sz:Nat)(a i:TVal),vtouch O (.iaddr sz (.k a) (.k i)) h d kt=viaddr sz a i h λv h=>kt v h noTouch) /\
  (∀ {β:Type}{O:Oracle}{h:Heap}{d:Nat}{kt:TVal->Heap->Touch->Option β}(g:Bool)(n off:Nat)(row:List PVal),vtouch O (.load g n (.k (.v (.c (.p (.pptr row off)))))) h d kt=vload g n (.v (.c (.p (.pptr row off)))) h λv h=>kt v h noTouch) :=
 ⟨qN4,qN2⟩
end
section
variable {β:Type} {O:Oracle} {h:Heap} {d:Nat} {k:TVal->Heap->Option β} {kt:TVal->Heap->Touch->Option β}
theorem qGj(h:Heap)(o:AObj)(d g:Nat):(h.push o).get (.own d g)=h.get (.own d g):=rfl
theorem qMR(h:Heap)(o:AObj)(d:Nat):(h.push o).gen d=h.gen d:=rfl
theorem qLM(g:FuncId)(az:List TVal)(len:Nat)(cap:Option Nat)(sz:Nat)(xs:List PVal)(ha:allB pT az=true)(ho:O g az []=some (.v (.c (.sref (.im 0) 0 len cap sz)),[.cells (pcells xs) 0])) :
  vtouch O (.call (.k (.v (.c (.func g [])))) (az.map .k)) h d kt=kt (.v (.c (.sref (.im h.ims.length) 0 len cap sz))) (h.push (.cells (pcells xs) 0)) ⟨[],[.im h.ims.length],true⟩:=by
 obtain⟨a1,a2,a3⟩:=qFZ ha;have hb:plan .nil (.call (.k (.v (.c (.func g [])))) (az.map .k))=some (.call g az):=by
  have hm:(az.map X.k).mapM (λx=>X.ev .nil x)=some az:=by
   clear ha ho a1 a2 a3
   induction az with
   |nil=>rfl
   |cons a az ih=>rw[List.map_cons,List.mapM_cons,ih]; rfl
  show((az.map X.k).mapM (λx=>X.ev .nil x)).bind (λvs=>some (Plan.call g (vs++[])))=_;rw[hm]; simp
 have hr:∀ σ,(AObj.cells (pcells xs) 0).ren σ = .cells (pcells xs) 0:=λσ=>by
  show AObj.cells ((pcells xs).map (Cell.ren σ)) 0=_;unfold pcells; rw[List.map_map]; rfl
 have hc:callOp O g az d h=some (.v (.c (.sref (.im h.ims.length) 0 len cap sz)),h.push (.cells (pcells xs) 0),⟨[],[.im h.ims.length],true⟩):=by
  unfold callOp;simp[a1,a2,reach,fuelReach,a3,ho,putAll,hr,Heap.push];rfl
 show bnd (plan2 (.call (.k (.v (.c (.func g [])))) (az.map .k)) .nil) (λp=>bnd (p.exec O d h) λx=>kt x.1 x.2.1 x.2.2)=_;rw[qAZ,hb];show bnd (callOp O g az d h) _=_;rw[hc]
theorem qK4(i:Nat)(cs:List Cell)(imm:Nat)(hg:h.get (.im i)=some (.cells cs imm))(hr:(AObj.cells cs imm).refs=[]):reach h fuelReach [.im i] []=[.im i]:=by
 show reach h 400 [.im i] []=_;unfold reach;rw[show([]:List Ref).contains (.im i)=false from rfl,cond_false,hg];dsimp only;rw[hr];simp[reach]
theorem qOW(xs:List PVal)(imm:Nat):(AObj.cells (pcells xs) imm).refs=[]:=by
 show(pcells xs).flatMap Cell.refs=[];unfold pcells
 induction xs with
 |nil=>rfl
 |cons x xs ih=>rw[List.map_cons,List.flatMap_cons,ih]; rfl
theorem qPu(xs:List PVal)(imm:Nat)(σ:Ref->Option Ref):(AObj.cells (pcells xs) imm).ren σ = .cells (pcells xs) imm:=by
 show AObj.cells ((pcells xs).map (Cell.ren σ)) imm=_;unfold pcells; rw[List.map_map]; rfl
theorem qIh(i len sz:Nat)(cap:Option Nat)(xs:List PVal)(hg:h.get (.im i)=some (.cells (pcells xs) 0)) :
  vfin false 0 [.c (.sref (.im i) 0 len cap sz)] h=some (.v (.c (.sref (.im 0) 0 len cap sz)),[.cells (pcells xs) 0]):=by
 letI:Sym:=⟨λ_=>0⟩
 rw[qBl];have hr:=qK4 i _ _ hg (qOW xs 0);unfold finV;simp only[Bool.false_eq_true,if_false,settle,oneOf];rw[show ims 0=([]:List Ref) from rfl];rw[List.flatMap_nil,List.nil_append,show(TVal.v (Comp.c (Cell.sref (.im i) 0 len cap sz))).refs=[Ref.im i] from rfl,hr];simp only[List.map_cons,List.map_nil,hg,qPu];show some (TVal.v (Comp.c ((Cell.sref (.im i) 0 len cap sz).ren (inn [.im i]))),_)=_;have:inn [Ref.im i] (.im i)=some (.im 0):=by simp[inn,idx]
 show some (TVal.v (Comp.c (match inn [Ref.im i] (.im i) with|some s=>Cell.sref s 0 len cap sz|none => .junk)),_)=_;rw[this]
theorem qGt(n:Nat)(xs:List PVal):(pcells xs).mapM (freeze h (n+1))=some (xs.map λx=>(x,[])):=by
 unfold pcells
 induction xs with
 |nil=>rfl
 |cons x xs ih=>rw[List.map_cons,List.mapM_cons,ih]; rfl
theorem qI5(n:Nat)(i:Nat)(sz:Nat)(cap:Option Nat)(rows:List (List PVal))(hz:∀ r∈rows,r.length=sz)(hg:h.get (.im i)=some (.cells (pcells rows.flatten) 0)) :
  freeze h (n+2) (.sref (.im i) 0 rows.length cap sz)=some (.slice sz (cap==some rows.length) rows,[.im i]):=by
 have hl:(pcells rows.flatten).length=rows.length*sz:=qEg hz;have ht:((pcells rows.flatten).drop 0).take (rows.length*sz)=pcells rows.flatten:=by rw[List.drop_zero]; exact List.take_of_length_le (by omega)
 have h2:∀ xs:List PVal,(xs.map λx=>(x,([]:List Ref))).map (λx=>Cell.p x.1)=pcells xs:=λxs=>by rw[List.map_map]; rfl
 have h3:∀ xs:List PVal,(xs.map λx=>(x,([]:List Ref))).flatMap (·.2)=[]:=λxs=>by induction xs with|nil=>rfl|cons x xs ih=>rw[List.map_cons,List.flatMap_cons,ih]; rfl
 unfold freeze;simp only[hg,ht,qGt,rL,Option.bind_some,h2,h3,qBa sz rows hz];rfl
theorem qNT(i sz:Nat)(cap:Option Nat)(a:List PVal)(rows:List (List PVal))(hz:∀ r∈rows,r.length=sz)(hg:h.get (.im i)=some (.cells (pcells rows.flatten) 0)) :
  vfin true 0 [.agg (pcells a++[Cell.sref (.im i) 0 rows.length cap sz])] h=some (.v (.agg (pcells (a++[.slice sz (cap==some rows.length) rows]))),[]):=by
 letI:Sym:=⟨λ_=>0⟩
 rw[qBl];have e1:(pcells a++[Cell.sref (.im i) 0 rows.length cap sz]).mapM (freeze h fuelFreeze)=some ((a.map λx=>(x,[]))++[(.slice sz (cap==some rows.length) rows,[.im i])]):=by
  rw[List.mapM_append,show fuelFreeze=29+1 from rfl,qGt,List.mapM_cons,show(29+1:Nat)=28+2 from rfl,qI5 28 i sz cap rows hz hg];rfl
 have e2:((a.map λx=>(x,([]:List Ref)))++[(PVal.slice sz (cap==some rows.length) rows,[Ref.im i])]).map (λy=>Cell.p y.1)=pcells (a++[.slice sz (cap==some rows.length) rows]):=by
  unfold pcells; rw[List.map_append,List.map_append,List.map_map]; rfl
 have ef:freezeT h (oneOf [.agg (pcells a++[Cell.sref (.im i) 0 rows.length cap sz])])=some (.v (.agg (pcells (a++[.slice sz (cap==some rows.length) rows]))),((a.map λx=>(x,([]:List Ref)))++[(PVal.slice sz (cap==some rows.length) rows,[Ref.im i])]).flatMap (·.2)):=by
  show((freezeC h _).map _)=_;show((((pcells a++[Cell.sref (.im i) 0 rows.length cap sz]).mapM (freeze h fuelFreeze)).map _).map _)=_;rw[e1];show some (TVal.v (.agg _),_)=_;rw[e2]
 unfold finV;obtain⟨q1,q2,q3,q4⟩:=qAU (show pT (.v (.agg (pcells (a++[.slice sz (cap==some rows.length) rows]))))=true from qKn _);rw[show ims 0=([]:List Ref) from rfl];simp[ef,q1,q2,q3,reach,fuelReach]
theorem qJb(r:Ref)(off len sz:Nat)(cap:Option Nat):vlen O 2 (.v (.c (.sref r off len cap sz))) h d k=k (kI (len:Int)) h:=by
 show opK O (.len 2 (.k _)) .nil h d k=_;rw[qAn]; rfl
theorem qFn(sz:Nat)(z:List Cell):vop O (.bslice sz 0 z [] true) h d k=k (.v (.c (.sref (.im h.ims.length) 0 0 (some 0) sz))) (h.push (.cells [] 0)):=by
 show opK O _ .nil h d k=_;rw[qAn]; rfl
theorem qK1{sz by':Nat}{i:Nat}{b:PVal}{new:List (List PVal)}(H:SrcR sz b new)(hn:new≠[])(hb:new.length*by'<=1099511627776)(hg:h.get (.im i)=some (.cells [] 0)) :
  vop O (.append sz by' true (.k (.v (.c (.sref (.im i) 0 0 (some 0) sz)))) (.k (.v (.c (.p b))))) h d k=k (.v (.c (.sref (.im h.ims.length) 0 new.length none sz))) (h.push (.cells (pcells new.flatten) 0)):=by
 have hc:=H.cells;have hs:srcRef (.v (.c (.p b)))=none:=by rcases H with ⟨rfl,_⟩|⟨t,rfl⟩ <;> rfl
 have hnl:new.length≠0:=by simpa using hn
 have ea:appendTo sz by' true (.v (.c (.sref (.im i) 0 0 (some 0) sz))) (some (.cells [] 0)) (pcells new.flatten) new.length=some ⟨λr => .v (.c (.sref r 0 new.length none sz)),[],some (.cells (pcells new.flatten) 0),true⟩:=by
  unfold appendTo;rw[if_neg hnl];dsimp only;rw[if_pos ⟨rfl,by simp⟩,if_neg (by omega)];unfold freshRow;rw[Nat.zero_add,if_pos (by omega)];simp
 show opK O _ .nil h d k=_;rw[qAn];have:slow O (.append sz by' true (.k (.v (.c (.sref (.im i) 0 0 (some 0) sz)))) (.k (.v (.c (.p b))))) .nil h d=some (.v (.c (.sref (.im h.ims.length) 0 new.length none sz)),h.push (.cells (pcells new.flatten) 0)):=by
  show((some (Plan.go (zipNeeds (dstRef _) (srcRef (.v (.c (.p b))))) _)).bind _)=_;rw[hs];show((Plan.go [.im i] _).exec O d h).map _=_;simp only[Plan.exec,goOp,qBd,hg,Option.map_some,hs,dstRef,splitNeeds,rL,Option.bind_some,hc,ea];rfl
 rw[this]; rfl
theorem qJA{sz by':Nat}{i:Nat}{b:PVal}(H:SrcR sz b [])(hg:h.get (.im i)=some (.cells [] 0)) :
  vop O (.append sz by' true (.k (.v (.c (.sref (.im i) 0 0 (some 0) sz)))) (.k (.v (.c (.p b))))) h d k=k (.v (.c (.sref (.im i) 0 0 (some 0) sz))) h:=by
 have hc:=H.cells;have hs:srcRef (.v (.c (.p b)))=none:=by rcases H with ⟨rfl,_⟩|⟨t,rfl⟩ <;> rfl
 have ea:appendTo sz by' true (.v (.c (.sref (.im i) 0 0 (some 0) sz))) (some (.cells [] 0)) (pcells ([]:List (List PVal)).flatten) 0=some ⟨λ_ => .v (.c (.sref (.im i) 0 0 (some 0) sz)),[],none,false⟩:=by
  unfold appendTo; rw[if_pos rfl]; rfl
 show opK O _ .nil h d k=_;rw[qAn];have:slow O (.append sz by' true (.k (.v (.c (.sref (.im i) 0 0 (some 0) sz)))) (.k (.v (.c (.p b))))) .nil h d=some (.v (.c (.sref (.im i) 0 0 (some 0) sz)),h):=by
  show((some (Plan.go (zipNeeds (dstRef _) (srcRef (.v (.c (.p b))))) _)).bind _)=_;rw[hs];show((Plan.go [.im i] _).exec O d h).map _=_;simp only[Plan.exec,goOp,qBd,hg,Option.map_some,hs,dstRef,splitNeeds,rL,Option.bind_some,hc,List.length_nil,ea];rfl
 rw[this]; rfl
theorem qGF{sz:Nat}{rows:List (List PVal)}(hz:∀ r∈rows,r.length=sz):rows.flatten.length=rows.length*sz:=by
 have:=qEg hz;unfold pcells at this; rwa [List.length_map] at this
theorem qOt{sz:Nat}{rows:List (List PVal)}(hz:∀ r∈rows,r.length=sz)(i:Nat)(r:List PVal)(hr:rows[i]?=some r):((pcells rows.flatten).drop (i*sz)).take sz=pcells r:=by
 obtain⟨hi,e⟩:=List.getElem?_eq_some_iff.1 hr;have e1:rows=rows.take i++r::rows.drop (i+1):=by
  rw[<- e,<- List.drop_eq_getElem_cons hi,List.take_append_drop]
 have h1:(rows.take i).flatten.length=i*sz:=by
  rw[qGF (λx hx=>hz x (List.mem_of_mem_take hx)),List.length_take,Nat.min_eq_left (by omega)]
 have h2:r.length=sz:=hz r (by rw[<- e]; exact List.getElem_mem hi);rw[e1,List.flatten_append,List.flatten_cons];unfold pcells;rw[<- List.map_drop,<- List.map_take]
 congr 1
 rw[List.drop_append_of_le_length (by omega),List.drop_of_length_le (by omega),List.nil_append,List.take_append_of_le_length (by omega),List.take_of_length_le (by omega)]
theorem qMC{sz:Nat}{rows:List (List PVal)}(hz:∀ r∈rows,r.length=sz)(i:Nat)(hi:i<rows.length)(r':List PVal)(hr':r'.length=sz):put1 (pcells rows.flatten) (i*sz) (pcells r')=pcells (rows.set i r').flatten:=by
 have e1:rows=rows.take i++rows[i]::rows.drop (i+1):=by
  rw[<- List.drop_eq_getElem_cons hi,List.take_append_drop]
 have h1:(rows.take i).flatten.length=i*sz:=by
  rw[qGF (λx hx=>hz x (List.mem_of_mem_take hx)),List.length_take,Nat.min_eq_left (by omega)]
 have h2:rows[i].length=sz:=hz _ (List.getElem_mem hi);have e2:rows.set i r'=rows.take i++r'::rows.drop (i+1):=by
  rw[List.set_eq_take_append_cons_drop,if_pos hi]
 have e3:rows.flatten=(rows.take i).flatten++(rows[i]++(rows.drop (i+1)).flatten):=by
  conv=>lhs; rw[e1]
  rw[List.flatten_append,List.flatten_cons]
 rw[e2,List.flatten_append,List.flatten_cons,e3];unfold put1 splice pcells;rw[<- List.map_take,<- List.map_drop,List.length_map,hr',<- List.map_append,<- List.map_append]
 congr 1
 rw[List.take_append_of_le_length (by omega),List.take_of_length_le (by omega),List.append_assoc]
 congr 2
 rw[List.drop_append,List.drop_of_length_le (by omega),List.nil_append,h1,show i*sz+sz - i*sz=sz by omega,List.drop_append,List.drop_of_length_le (by omega),List.nil_append,h2,Nat.sub_self,List.drop_zero]
theorem exU :
  (∀ (h:Heap) (o:AObj) (d g:Nat),(h.push o).get (.own d g)=h.get (.own d g))/\(∀ (h:Heap) (o:AObj) (d:Nat),(h.push o).gen d=h.gen d)/\(∀ (h:Heap) (d g:Nat) (o:AObj),(h.own d g o).ims.length=h.ims.length)/\(h0.ims.length=0) /\
  (∀ {β:Type}{O:Oracle}{h:Heap}{d:Nat}{k:TVal->Heap->Option β}(r:Ref)(off len sz:Nat)(cap:Option Nat),vlen O 2 (.v (.c (.sref r off len cap sz))) h d k=k (kI (len:Int)) h) :=
 ⟨qGj,qMR,λ_ _ _ _=>rfl,rfl,qJb⟩
end
section
variable {β:Type} {O:Oracle} {h:Heap} {d:Nat} {k:TVal->Heap->Option β} {kt:TVal->Heap->Touch->Option β}
theorem qEo(op:AOp)(r:Ref)(pk:AObj->Option TVal)(o:AObj)(v:TVal)(hb:plan .nil op=some (.read r pk))(hg:h.get r=some o)(hv:pk o=some v):vop O op h d k=k v h:=by
 show opK O op .nil h d k=_;rw[qAn];have:slow O op .nil h d=some (v,h):=by
  unfold slow;rw[hb];show((Plan.read r pk).exec O d h).map _=_;rw[qFy,hg];show(pk o).map _=_;rw[hv]; rfl
 rw[this]; rfl
theorem qHC(n sz:Nat)(r:Ref)(off l u:Nat)(cs:List Cell)(imm:Nat)(h1:l<=u)(h2:u<=n)(h3:l<n)(hg:h.get r=some (.cells cs imm))(hl:off+n*sz<=cs.length) :
  vop O (.sliceA n sz (.k (.v (.c (.ptr r off)))) (some (.k (kI (l:Int)))) (some (.k (kI (u:Int))))) h d k=k (.v (.c (.sref r (off+l*sz) (u - l) (some (n - l)) sz))) h:=by
 refine qEo _ r (λ
    |.cells cs _=>if off+n*sz<=cs.length then some (.v (.c (.sref r (off+l*sz) (u - l) (some (n - l)) sz))) else none
    |_=>none) _ _ ?_ hg ?_
 ·have a1:asN (kI (l:Int))=some l:=by simp[asN]
  have a2:asN (kI (u:Int))=some u:=by simp[asN]
  show(if l<=u/\u<=n/\l<n then some (Plan.read r _) else none)=_;rw[if_pos ⟨h1,h2,h3⟩];rfl
 ·show(if _ then _ else _)=_;rw[if_pos hl]
theorem qEL(r:Ref)(off len:Nat)(cap:Option Nat)(cs:List Cell)(imm:Nat)(s:List UInt8)(hg:h.get r=some (.cells cs imm))(hl:off+len<=cs.length)(hs:bytesOf ((cs.drop off).take len)=some s) :
  vop O (.toStr (.k (.v (.c (.sref r off len cap 1))))) h d k=k (kS s) h:=by
 refine qEo _ r _ _ _ rfl hg ?_;show(if _ then _ else _)=_;rw[if_pos hl,hs]; rfl
theorem qHN(n sz:Nat)(r:Ref)(off i:Nat)(hi:i<n):vop O (.iaddrA n sz (.k (.v (.c (.ptr r off)))) (.k (kI (i:Int)))) h d k=k (.v (.c (.ptr r (off+i*sz)))) h:=qAe _ _ (by
 show(if i<n then some (Plan.pure (.v (.c (.ptr r (off+i*sz))))) else none)=_
 rw[if_pos hi])
end
theorem qET(s:List UInt8):bytesOf (s.map λb => .p (.int .u8 (b.toNat:Int)))=some s:=by
 induction s with
 |nil=>rfl
 |cons b s ih =>
  show(bytesOf (s.map _)).map (UInt8.ofNat ((b.toNat:Int)).toNat::·)=_;rw[ih];simp
section
variable {β:Type} {O:Oracle} {h:Heap} {d:Nat} {k:TVal->Heap->Option β}
end
open Go.RowKit Go.ChangeShapes Go.WideShapes
section
variable [Sym] {H:Type} {enc:TypeId×Value->H} {P:Program} {w:World} {spare:Nat->Bool} {held:Bool} {r:Reach} {b0:Nat}
theorem qIF{t e:TypeId}{k:IntKind}{v:Value}{d:DataW H}{ps:List MemPlace}(ht:P.underlying t=some (.slice e))(he:P.underlying e=some (.int k))(hc:P.cellsOf e=1)
  (hval:Value.okWide P w r b0 t v) (hd:DataW.Trod enc P w 0 spare held t v d ps) :
  ∃ o:Option (List Int),TRel noEnv (allI w) (.pv (intsP k o)) v/\(∀ n∈intsL o,(Lit.int k n).wf=true)/\(intsL o).length<=maxLen/\((∀ x∈d.weights P t,x<=reachBytes)->(intsL o).length*P.bytesOf e<=reachBytes):=by
 obtain⟨a0,len0,cap0,rfl⟩:=okWide_slice ht hval;obtain⟨fuel,hf⟩:=hd
 rcases open_ints ht he hc hf with ⟨h,_⟩|⟨a,len,cap,zs,h,h1,h2,h3,h4,hx,h5,h6⟩
 ·simp[Value.cells] at h;obtain⟨rfl,rfl,rfl⟩:=h;exact⟨none,CRel.p _ _ .nilslice,by simp[intsL],by simp[intsL],λ_=>by simp[intsL]⟩
 ·simp[Value.cells] at h;obtain⟨rfl,rfl,rfl⟩:=h;have hzl:len0<=zs.length:=by rw[h4]; split <;> omega
  have h0:a.spot=none:=by
   unfold Value.okWide at hval;rw[ht] at hval;dsimp only at hval;unfold Cell.okWide at hval;rw[ht] at hval;dsimp only at hval;unfold Cell.ok at hval;rw[ht] at hval;exact hval.2.2.2.1
  have hxd:d = .slice (lits k (zs.take len0)) (lits k (zs.drop len0)):=by
   have:=congrArg Prod.fst hx;exact this
  refine⟨some (zs.take len0),?_,λn hn=>h6 n (List.mem_of_mem_take hn),by simp[intsL]; omega,λhw => ?_⟩
  rotate_left
  ·have:=hw (((lits (H:=H) k (zs.take len0)).length+(lits (H:=H) k (zs.drop len0)).length)*P.bytesOf e) (by rw[hxd]; simp[DataW.weights,ht]);have hl:(lits (H:=H) k (zs.take len0)).length=(zs.take len0).length:=by simp[lits]
   rw[hl] at this;show(zs.take len0).length*_<=_;exact Nat.le_trans (Nat.mul_le_mul_right _ (Nat.le_add_right _ _)) this
  have hlen:((zs.take len0).map λn=>[PVal.int k n]).length=len0:=by simp; omega
  have ea:a=⟨a.block,a.off,none⟩:=by cases a; simp at h0; subst h0; rfl
  have el:∀ i,i<len0->((zs.take len0).map λn=>[PVal.int k n])[i]?=some [.int k (zs.getD i 0)]:=by
   intro i hi;rw[List.getElem?_map,List.getElem?_take,if_pos hi,List.getElem?_eq_getElem (by omega)];simp[List.getD_eq_getElem?_getD,List.getElem?_eq_getElem (show i<zs.length by omega)]
  have row:∀ i r,((zs.take len0).map λn=>[PVal.int k n])[i]?=some r->i<len0/\r=[.int k (zs.getD i 0)]:=by
   intro i r hr;have hi:=(List.getElem?_eq_some_iff.1 hr).1;rw[hlen] at hi;rw[el i hi] at hr;exact⟨hi,(Option.some.inj hr).symm⟩
  have key:PRel (allI w) (.slice 1 false ((zs.take len0).map λn=>[.int k n])) (.slice (some ⟨a.block,a.off,none⟩) ((zs.take len0).map λn=>[PVal.int k n]).length cap0):=by
   refine PRel.slice 1 false _ a.block a.off cap0 (λi _ => .int k (zs.getD i 0)) (λe=>by cases e) (by rw[hlen]; exact h2) ?_ ?_ ?_
   ·intro i r hr;rw[(row i r hr).2]; rfl
   ·intro i r j v hr hj;obtain⟨hi,rfl⟩:=row i r hr;cases j with
    |succ j=>simp at hj
    |zero =>
     have:=h5 i (by omega);rw[ea] at this;show w.cell? ⟨a.block,a.off+i*1+0,none⟩=_;rw[<- this];unfold Addr.add;split
     ·rename_i h; subst h; rfl
     ·simp
   ·intro i r j v hr hj;obtain⟨hi,rfl⟩:=row i r hr;cases j with
    |succ j=>simp at hj
    |zero=>simp only[List.getElem?_cons_zero,rJ] at hj; subst hj; exact .int k _
  rw[hlen,<- ea] at key;exact CRel.p _ _ key
theorem qI4{ts:List TypeId}{ds:List (DataW H)}(h:(DataW.weightsEach P ts ds).all (·<=reachBytes)=true):∀ (j:Nat) {t:TypeId} {d:DataW H},ts[j]?=some t->ds[j]?=some d->∀ x∈d.weights P t,x<=reachBytes:=by
 have key:∀ (ts:List TypeId) (ds:List (DataW H)) (j:Nat) {t:TypeId} {d:DataW H},ts[j]?=some t->ds[j]?=some d->∀ x∈d.weights P t,x∈DataW.weightsEach P ts ds:=by
  intro ts
  induction ts with
  |nil=>intro ds j t d h1; cases h1
  |cons a ts ih =>
   intro ds j t d h1 h2 x hx;cases ds with
   |nil=>cases h2
   |cons b ds =>
    rw[DataW.weightsEach];cases j with
    |zero =>
     simp only[List.getElem?_cons_zero,rJ] at h1 h2;subst h1; subst h2;exact List.mem_append.2 (.inl hx)
    |succ j=>exact List.mem_append.2 (.inr (ih ds j h1 h2 x hx))
 intro j t d h1 h2 x hx;have:=List.all_eq_true.1 h x (key ts ds j h1 h2 x hx)
 simpa using this
end
section
variable {β:Type} {O:Oracle} {h:Heap} {d:Nat} {k:TVal->Heap->Option β} {kt:TVal->Heap->Touch->Option β}
noncomputable def hAfter(h:Heap)(rs:List Ref)(qs:List AObj):Heap :=
 match (qs.map (AObj.ren (back rs qs.length (newRef h.ims.length)))).drop rs.length with
 |[]=>putAll h rs ((qs.map (AObj.ren (back rs qs.length (newRef h.ims.length)))).take rs.length)
 |o::new=>{ ims:=(putAll h rs ((qs.map (AObj.ren (back rs qs.length (newRef h.ims.length)))).take rs.length)).ims++o::new,owns:=(putAll h rs ((qs.map (AObj.ren (back rs qs.length (newRef h.ims.length)))).take rs.length)).owns }
noncomputable def gTouch(h:Heap)(qAb:List TVal)(os:List AObj)(rs:List Ref)(qs:List AObj):Touch :=
 { rd:=(qAb.flatMap TVal.refs++os.flatMap AObj.refs++rs).map Ref.site,wr:=rs.map Ref.site++(List.range ((qs.map (AObj.ren (back rs qs.length (newRef h.ims.length)))).drop rs.length).length).map (λj=>Site.im (h.ims.length+j)),wild:=Nat.blt 0 ((qs.map (AObj.ren (back rs qs.length (newRef h.ims.length)))).drop rs.length).length }
theorem qBf(g:FuncId)(args qAb as':List TVal)(rs:List Ref)(os os' qs:List AObj)(v:TVal)(e1:args.map TVal.strip=qAb)(e2:reach h fuelReach (qAb.flatMap TVal.refs) []=rs)(e3:rs.mapM h.get=some os)
  (e4:qAb.map (TVal.ren (inn rs))=as') (e5:os.map (AObj.ren (inn rs))=os') (hc:O g as' os'=some (v,qs)) (e6:rs.length<=qs.length) :
  callOp O g args d h=some (v.ren (back rs qs.length (newRef h.ims.length)),hAfter h rs qs,gTouch h qAb os rs qs):=by
 unfold callOp hAfter gTouch;simp only[e1,e2,e3,e4,e5,hc,if_neg (Nat.not_lt.2 e6)];cases hd:(qs.map (AObj.ren (back rs qs.length (newRef h.ims.length)))).drop rs.length <;> rfl
theorem qOf(g:FuncId)(args qAb as':List TVal)(rs:List Ref)(os os' qs:List AObj)(v:TVal)(e1:args.map TVal.strip=qAb)(e2:reach h fuelReach (qAb.flatMap TVal.refs) []=rs)(e3:rs.mapM h.get=some os)
  (e4:qAb.map (TVal.ren (inn rs))=as') (e5:os.map (AObj.ren (inn rs))=os') (hc:O g as' os'=some (v,qs)) (e6:rs.length<=qs.length) :
  vcall O (.v (.c (.func g []))) args h d k=k (v.ren (back rs qs.length (newRef h.ims.length))) (hAfter h rs qs):=by
 have e:=qBf (d:=d) g args qAb as' rs os os' qs v e1 e2 e3 e4 e5 hc e6;show callF O g args d h k=_;rw[qBG,e];rfl
theorem qFz(n:Nat)(seen:List Ref):reach h (n+1) [] seen=seen:=by unfold reach; rfl
theorem qKE(n:Nat)(r:Ref)(todo seen:List Ref)(o:AObj)(hs:r∉seen)(hg:h.get r=some o):reach h (n+1) (r::todo) seen=reach h n (o.refs++todo) (seen++[r]):=by
 have:seen.contains r=false:=by simpa using hs
 conv=>lhs; unfold reach
 rw[this,cond_false,hg]
theorem qFU(n:Nat)(r:Ref)(todo seen:List Ref)(hs:r∈seen):reach h (n+1) (r::todo) seen=reach h n todo seen:=by
 have:seen.contains r=true:=by simpa using hs
 conv=>lhs; unfold reach
 rw[this,cond_true]
end
theorem Heap.get_im_some{h:Heap}{i:Nat}{o:AObj}(hg:h.get (.im i)=some o):h.ims[i]?=some o/\o ≠ .dead:=by
 unfold Heap.get at hg;cases hi:h.ims[i]? with
 |none=>simp only[hi] at hg; cases hg
 |some a =>
  simp only[hi] at hg;cases a <;> first|(simp only[rJ] at hg; subst hg; exact⟨rfl,λe=>by cases e⟩)|cases hg
theorem Heap.get_im_of{h:Heap}{i:Nat}{o:AObj}(hi:h.ims[i]?=some o)(ho:o ≠ .dead):h.get (.im i)=some o:=by
 unfold Heap.get;simp only[hi];cases o <;> first|rfl|exact absurd rfl ho
theorem Heap.get_own_some{h:Heap}{d g:Nat}{o:AObj}(hg:h.get (.own d g)=some o):h.owns.get d=some (g,o)/\o ≠ .dead:=by
 unfold Heap.get at hg;cases hi:h.owns.get d with
 |none=>simp only[hi] at hg; cases hg
 |some a =>
  obtain⟨g',x⟩:=a;simp only[hi] at hg;cases hb:Nat.beq g g' with
  |false=>rw[hb,cond_false] at hg; cases hg
  |true =>
   rw[hb,cond_true] at hg;have:=Nat.eq_of_beq_eq_true hb;subst this;cases x <;> first|(simp only[rJ] at hg; subst hg; exact⟨rfl,λe=>by cases e⟩)|cases hg
theorem Heap.get_own_of{h:Heap}{d g:Nat}{o:AObj}(hi:h.owns.get d=some (g,o))(ho:o ≠ .dead):h.get (.own d g)=some o:=by
 unfold Heap.get;simp only[hi,Nat.beq_refl,cond_true]
theorem Heap.zput_self{h:Heap}{r:Ref}{o x:AObj}(hs:h.get r=some x)(ho:o ≠ .dead):(h.put r o).get r=some o:=by
 cases r with
 |im i =>
  obtain⟨h1,_⟩:=Heap.get_im_some hs;refine Heap.get_im_of ?_ ho;show(h.ims.set i o)[i]?=some o;rw[List.getElem?_set,if_pos rfl,if_pos (List.getElem?_eq_some_iff.1 h1).1]
 |own d g =>
  obtain⟨h1,_⟩:=Heap.get_own_some hs
  letI:Sym:=⟨λ_=>0⟩
  exact Heap.get_own_of (qBI (g,o) (by rw[h1]; rfl)) ho
theorem Heap.zput_ne{h:Heap}{r r':Ref}{o x:AObj}(hs:h.get r=some x)(hne:r≠r'):(h.put r o).get r'=h.get r':=by
 cases r with
 |im i=>cases r' with
  |im j =>
   have hij:i≠j:=λe=>hne (by rw[e])
   unfold Heap.get Heap.put;simp only[List.getElem?_set,if_neg hij]
  |own d g=>rfl
 |own d g =>
  obtain⟨h1,_⟩:=Heap.get_own_some hs;cases r' with
  |im j=>rfl
  |own e g' =>
   by_cases hde:d=e
   ·subst hde;have hg:g'≠g:=λe=>hne (by rw[e])
    have hb:Nat.beq g' g=false:=Bool.eq_false_iff.2 λe=>hg (Nat.eq_of_beq_eq_true e)
    letI:Sym:=⟨λ_=>0⟩
    have h2:(TM.set (g,o) h.owns d).get d=some (g,o):=qBI (g,o) (by rw[h1]; rfl);show(match (TM.set (g,o) h.owns d).get d with|some (g2,o2)=>bif Nat.beq g' g2 then (match o2 with | .dead=>none|o2=>some o2) else none|none=>none)=(match h.owns.get d with|some (g2,o2)=>bif Nat.beq g' g2 then (match o2 with | .dead=>none|o2=>some o2) else none|none=>none);rw[h1,h2];dsimp only;rw[hb]; rfl
   ·unfold Heap.get Heap.put;simp only[TM.get_set_ne _ _ _ _ hde]
theorem Heap.zput_len(h:Heap)(r:Ref)(o:AObj):(h.put r o).ims.length=h.ims.length:=by
 cases r with
 |im i=>show(h.ims.set i o).length=_; simp
 |own d g=>rfl
theorem Heap.zput_gen{h:Heap}{r:Ref}{o x:AObj}(hs:h.get r=some x)(d:Nat):(h.put r o).gen d=h.gen d:=by
 cases r with
 |im i=>rfl
 |own e g =>
  obtain⟨h1,_⟩:=Heap.get_own_some hs;by_cases hde:e=d
  ·subst hde
   letI:Sym:=⟨λ_=>0⟩
   show(match (TM.set (g,o) h.owns e).get e with|some (g2,_)=>g2|none=>0)=(match h.owns.get e with|some (g2,_)=>g2|none=>0);rw[qBI (g,o) (by rw[h1]; rfl),h1]
  ·unfold Heap.gen Heap.put;simp only[TM.get_set_ne _ _ _ _ hde]
theorem zputAll:∀ (rs:List Ref) (os:List AObj) (h:Heap),rs.Nodup->(∀ r∈rs,∃ x,h.get r=some x) ->
  (∀ (i:Nat) (r:Ref) (o:AObj),rs[i]?=some r->os[i]?=some o->o ≠ .dead->(putAll h rs os).get r=some o)/\(∀ r',r'∉rs->(putAll h rs os).get r'=h.get r')/\(putAll h rs os).ims.length=h.ims.length/\∀ d,(putAll h rs os).gen d=h.gen d
 |[],os,h,_,_=>⟨λi r o e=>by simp at e,λ_ _=>by cases os <;> rfl,by cases os <;> rfl,λd=>by cases os <;> rfl⟩
 |r::rs,[],h,_,_=>⟨λi r o e1 e2=>by simp at e2,λ_ _=>rfl,rfl,λd=>rfl⟩
 |r::rs,o::os,h,hn,hx=>by
  obtain⟨hn1,hn2⟩:=List.nodup_cons.1 hn;obtain⟨x,hr⟩:=hx r (by simp);have hx':∀ s∈rs,∃ x,(h.put r o).get s=some x:=λs hs=>by
   obtain⟨y,hy⟩:=hx s (by simp[hs]);exact⟨y,by rw[Heap.zput_ne hr (λe=>hn1 (by rw[e]; exact hs))]; exact hy⟩
  obtain⟨i1,i2,i3,i4⟩:=zputAll rs os (h.put r o) hn2 hx';refine⟨λi s q e1 e2 hq => ?_,λs hs => ?_,i3.trans (Heap.zput_len h r o),λd=>(i4 d).trans (Heap.zput_gen hr d)⟩
  ·cases i with
   |zero =>
    simp only[List.getElem?_cons_zero,rJ] at e1 e2;subst e1; subst e2;exact(i2 r hn1).trans (Heap.zput_self hr hq)
   |succ i =>
    simp only[List.getElem?_cons_succ] at e1 e2;exact i1 i s q e1 e2 hq
  ·simp only[List.mem_cons,not_or] at hs;exact(i2 s hs.2).trans (Heap.zput_ne hr (λe=>hs.1 e.symm))
structure Behind (h:Heap) (rs:List Ref) (qs:List AObj) (h':Heap):Prop where
 own:∀ (i:Nat) (r:Ref) (q:AObj),rs[i]?=some r->(qs.map (AObj.ren (back rs qs.length (newRef h.ims.length))))[i]?=some q->q ≠ .dead->h'.get r=some q
 old:∀ (r:Ref) (o:AObj),r∉rs->h.get r=some o->h'.get r=some o
 new:∀ (j:Nat) (q:AObj),(qs.map (AObj.ren (back rs qs.length (newRef h.ims.length))))[rs.length+j]?=some q->q ≠ .dead->h'.get (.im (h.ims.length+j))=some q
 len:h'.ims.length=h.ims.length+(qs.length - rs.length)
 gen:∀ d:Nat,h'.gen d=h.gen d
theorem qF2(h:Heap)(rs:List Ref)(qs:List AObj):hAfter h rs qs={ ims:=(putAll h rs ((qs.map (AObj.ren (back rs qs.length (newRef h.ims.length)))).take rs.length)).ims++(qs.map (AObj.ren (back rs qs.length (newRef h.ims.length)))).drop rs.length,owns:=(putAll h rs ((qs.map (AObj.ren (back rs qs.length (newRef h.ims.length)))).take rs.length)).owns }:=by
 unfold hAfter;cases hd:(qs.map (AObj.ren (back rs qs.length (newRef h.ims.length)))).drop rs.length with
 |nil=>simp only[List.append_nil]
 |cons o new=>rfl
theorem qFV{h:Heap}{l:List AObj}{r:Ref}{o:AObj}(hg:h.get r=some o):(Heap.mk (h.ims++l) h.owns).get r=some o:=by
 cases r with
 |im i =>
  obtain⟨h1,h2⟩:=Heap.get_im_some hg;refine Heap.get_im_of ?_ h2;show(h.ims++l)[i]?=some o;rw[List.getElem?_append_left (List.getElem?_eq_some_iff.1 h1).1,h1]
 |own d g=>exact hg
theorem behind{h:Heap}{rs:List Ref}{os qs:List AObj}(hn:rs.Nodup)(e3:rs.mapM h.get=some os)(e6:rs.length<=qs.length):Behind h rs qs (hAfter h rs qs):=by
 letI:Sym:=⟨λ_=>0⟩
 have hx:∀ r∈rs,∃ x,h.get r=some x:=(qDW e3).1;rw[qF2];generalize hps:qs.map (AObj.ren (back rs qs.length (newRef h.ims.length)))=ps;have hl:ps.length=qs.length:=by rw[<- hps]; simp
 obtain⟨i1,i2,i3,i4⟩:=zputAll rs (ps.take rs.length) h hn hx;constructor
 ·rw[hps];intro i r q e1 e2 hq;have hi:i<rs.length:=(List.getElem?_eq_some_iff.1 e1).1;exact qFV (i1 i r q e1 (by rw[List.getElem?_take,if_pos hi]; exact e2) hq)
 ·intro r o hr hg;exact qFV ((i2 r hr).trans hg)
 ·rw[hps];intro j q e hq;refine Heap.get_im_of ?_ hq;show((putAll h rs (ps.take rs.length)).ims++ps.drop rs.length)[h.ims.length+j]?=some q;rw[List.getElem?_append_right (by omega),i3,List.getElem?_drop];rw[show rs.length+(h.ims.length+j - h.ims.length)=rs.length+j by omega];exact e
 ·show((putAll h rs (ps.take rs.length)).ims++ps.drop rs.length).length=_;rw[List.length_append,i3,List.length_drop,hl]
 ·intro d;exact i4 d
theorem qOu{O:Oracle}{h:Heap}(g:FuncId)(args qAb as':List TVal)(rs:List Ref)(os os' qs:List AObj)(v v':TVal)(e1:args.map TVal.strip=qAb)(e2:reach h fuelReach (qAb.flatMap TVal.refs) []=rs)(e3:rs.mapM h.get=some os)
  (e4:qAb.map (TVal.ren (inn rs))=as') (e5:os.map (AObj.ren (inn rs))=os') (hc:O g as' os'=some (v,qs)) (e6:rs.length<=qs.length) (hn:rs.Nodup) (e7:v.ren (back rs qs.length (newRef h.ims.length))=v') :
  ∃ h',(∀ {β:Type}(d:Nat)(k:TVal->Heap->Option β),vcall O (.v (.c (.func g []))) args h d k=k v' h')/\Behind h rs qs h' :=
 ⟨hAfter h rs qs,λd k=>by rw[<- e7]; exact qOf g args qAb as' rs os os' qs v e1 e2 e3 e4 e5 hc e6,behind hn e3 e6⟩
end Go.AI
