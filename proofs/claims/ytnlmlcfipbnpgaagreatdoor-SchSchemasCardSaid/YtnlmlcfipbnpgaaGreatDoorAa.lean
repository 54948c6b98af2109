/- Own work. Condition: what each theorem names. -/
import Derived.Orders
import Derived.Scope
import Derived.Laws.Append
import Derived.Laws.CopyRow
import Derived.Laws.IdiomCopy
import Derived.Laws.Slices
import Derived.Laws.Strings
import Derived.Laws.Tables
import Derived.Laws.Rows
import Derived.Laws.StructEq
set_option linter.all false
open Option renaming some.injEq->rJ,bind_eq_some_iff->rK,bind_eq_bind->rL,pure_def->rM
namespace Go.AI
noncomputable section
def eU{a b:Prop}(h:a)(k:b):a/\b:=⟨h,k⟩
def tW(a:Prop)(h:a):a:=h
def bn{p:Prop}(h:p:=by omega):p:=h
def bu{p:Prop}(h:p:=by decide):p:=h
def bR{p:Prop}(h:p:=by simp):p:=h
def cM{p:Prop}(h:p:=by simp; omega):p:=h
def cb{p:Prop}(h:p:=by intro e;cases e):p:=h
def bT{p:Prop}(h:p:=by kernel_rfl):p:=h
def cI:=@decide_eq_true
def Fk:=@Nat.eq_of_beq_eq_true
def de:=@decide_eq_false
def bA:=@if_neg
def bF:=@if_pos
def RG:=@Nat.pow_succ
def oC:=@Ne.symm
def kr:=@Option.some.inj
def cB:=@Nat.le_refl
def qa:=@Nat.le_trans
def Fw:=@Nat.lt_of_lt_of_le
def rT:=@decide_true
def iv:=@cond_true
def j5:=@List.getElem?_append_left
def kz:=@List.getElem?_append_right
def rS:=@Nat.sub_self
def vk:=@List.getElem?_cons_zero
def ky:=@List.getElem?_eq_none
def BO:=@List.getElem?_set_self
def Lu:=@List.getElem?_set_ne
def vd:=@Array.getElem?_eq_some_iff
def ek:=@List.mapM_cons
def fC:=@if_false
def n6:=@List.getElem?_drop
def n5:=@Nat.add_assoc
def nZ:=@List.getElem?_take
def gh:=@Bool.false_eq_true
def fx:=@if_true
def fm:=@List.length_nil
def di:=@List.length_cons
def qp:=@decide_eq_false_iff_not
def Lt:=@Array.getElem?_modify
def BN:=@Array.getElem?_setIfInBounds_ne
def eH:=@List.append_assoc
def Fc:=@List.getElem?_take_of_lt
def Ls:=@List.getElem_of_mem
def fQ:=@List.getElem?_eq_getElem
def BL:=@Option.isSome_none
def gg:=@List.mapM_nil
def wv:=@Array.getElem?_push
def dP:=@List.getElem?_map
def fB:=@Prod.mk.injEq
def yZ:=@Option.bind_eq_some_iff
def vc:=@Array.ext'
def cQ:=@List.getElem?_eq_some_iff
def Fb:=@List.map_toArray
def dr:=@List.map_cons
def kL:=@List.map_nil
def iO:=@Option.map_some
def dj:=@List.length_map
def jD:=@Eq.trans
def dh:=@congrArg
def Fa:=@List.eq_nil_of_length_eq_zero
def vb:=@List.flatten_cons
def mH:=@Nat.add_mul
def bV:=@List.length_append
def eV:=@Nat.zero_le
def E9:=@Nat.mod_eq_of_lt
def yY:=@Array.toList_map
def wu:=@List.getElem?_range
def E8:=@Nat.le_zero
def yX:=@Option.getD_none
def tb:=@List.take_length
def E7:=@Nat.sub_mul
def nc:=@Nat.mul_le_mul_right
def Lr:=@List.extract_eq_take_drop
def rR:=@List.drop_take
def wq:=@Array.length_toList
def Lq:=@Array.getElem?_toList
def gH:=@Nat.add_zero
def na:=@List.getD_eq_getElem?_getD
def oS:=@Option.getD_some
def nY:=@Nat.zero_add
def s9:=@Nat.zero_mul
def ji:=@List.length_take
def BJ:=@Nat.mul_one
def ku:=@List.length_eq_zero_iff
def E5:=@Bool.not_true
def iN:=@cond_false
def lU:=@List.all_eq_true
def rQ:=@List.contains_iff_mem
def Lp:=@List.take_append_of_le_length
def Lo:=@List.drop_append_of_le_length
def eG:=@Option.bind_some
def gG:=@List.map_append
def gz:=@List.take_of_length_le
def E0:=@Array.getElem?_append_left
def j0:=@List.length_drop
def kK:=@List.nil_append
def EZ:=@Decidable.not_not
def mZ:=@Option.map_eq_some_iff
def yW:=@List.nodup_append
def jC:=@Bool.cond_decide
def yV:=@List.nodup_cons
def fa:=@List.append_nil
def yU:=@Nat.le_of_eq
def EY:=@List.getElem?_eq_none_iff
def mY:=@List.mem_of_getElem?
def rP:=@Nat.blt_eq
def Ln:=@Nat.add_sub_cancel_left
def dK:=@List.mem_cons
def fU:=@List.map_map
def Fx:=@Nat.lt_of_le_of_lt
def AA:=@Array.getD_eq_getD_getElem?
def pG:=@List.mem_map_of_mem
def ia:=@List.mem_cons_of_mem
def gM:=@List.length_singleton
def fb:=@List.mem_append
def vt:=@List.mem_append_left
def vr:=@List.mem_append_right
def pF:=@List.mem_flatMap
def fk:=@List.mem_map
def sL:=@List.mem_range
def qP:=@Bool.or_eq_true
def dF:=@decide_eq_true_eq
def pE:=@List.drop_drop
def vq:=@Nat.lt_or_ge
def fj:=@Bool.and_eq_true
def lP:=@Bool.false_or
def Az:=@Bool.not_eq_true'
def gS:=@Bool.true_and
def Ay:=@List.nodup_range
def vp:=@Nat.le_of_ble_eq_true
def oK:=@Nat.ble_eq_true_of_le
def xW:=@decide_eq_decide
def nq:=@Int.ofNat_eq_natCast
def fH:=@Bool.false_and
def jj:=@UInt8.toNat_inj
def sJ:=@Nat.pow_le_pow_right
def Fv:=@BitVec.ofInt_natCast
def Fu:=@BitVec.toNat_ofNat
def vo:=@Bool.decide_and
def xV:=@List.flatMap_map
def eJ:=@List.flatMap_cons
def lO:=@Option.bind_assoc
def iR:=@List.mem_cons_self
def mK:=@List.map_take
def mJ:=@List.map_drop
def Ax:=@UInt8.toNat_lt
def vn:=@List.drop_length
def mI:=@List.take_append_drop
def xU:=@List.mem_iff_getElem?
def eI:=@List.drop_zero
def nk:=@Nat.succ_mul
def oJ:=@Int.toNat_natCast
def xS:=@Bool.eq_false_iff
def gC:=@Option.pure_def
def xR:=@List.flatMap_append
def gL:=@of_decide_eq_true
def vm:=@List.map_congr_left
def oI:=@List.all_cons
def Aw:=@Option.map_none
def xQ:=@List.sizeOf_lt_of_mem
def xP:=@Bool.and_true
def oH:=@Bool.true_or
def lM:=@Bool.and_false
def kV:=@List.drop_eq_getElem_cons
def qO:=@List.getElem_mem
def kT:=@List.drop_eq_nil_of_le
def lL:=@List.not_mem_nil
def lK:=@or_false
def lJ:=@Nat.lt_succ_self
def qN:=@List.mem_of_mem_take
def vl:=@List.length_set
def xO:=@List.getElem?_cons_succ
def oG:=@not_or
def fY:=@List.mem_singleton
def pD:=@List.pairwise_map
def Ft:=@Int.tmod_lt_of_pos
def oF:=@Nat.ble_eq
def xN:=@Nat.beq_eq
def vj:=@List.take_succ_cons
def qM:=@List.take_add_one
def Av:=@UInt8.ofNat_toNat
def oE:=@Bool.or_false
def Au:=@List.drop_succ_cons
def nj:=@Bool.or_eq_false_iff
def As:=@Int.le_refl
def vi:=@Int.toNat_zero
def jJ:=@List.flatMap_nil
def vh:=@ite_self
def xM:=@List.set_append_right
def Ar:=@List.take_append
def Aq:=@List.take_zero
def oD:=@UInt8.lt_iff_toNat_lt
def Fq:=@List.set_cons_zero
def iQ:=@List.pairwise_append
def kv:=@List.pairwise_cons
def xL:=@List.perm_append_comm
def vg:=@List.perm_middle
def Ap:=@Nat.add_sub_cancel
def Fp:=@List.dropLast_concat_getLast
def Fo:=@List.pairwise_singleton
def qL:=@List.cons_append
def xK:=@List.length_pos_iff
def Fm:=@List.length_eq_one_iff
def xJ:=@Nat.mul_succ
def sI:=@List.all_nil
def vf:=@List.perm_nil
def sH:=@of_decide_eq_false
def Ao:=@List.flatMap_def
def xI:=@List.pairwise_iff_getElem
def Fj:=@List.Perm.cons_inv
def xH:=@Decidable.byContradiction
def Fi:=@List.length_filterMap_le
def Fg:=@List.map_singleton
def Am:=@Bool.or_assoc
def Al:=@Bool.or_comm
def Ak:=@List.mem_of_mem_drop
def ve:=@List.sum_cons
def Ff:=@List.filterMap_append
def xF:=@List.filterMap_cons
def xE:=@List.length_zip
def Fe:=@List.getElem?_zip_eq_some
def bB:=True.intro
inductive TM (α:Type) where
 |nil
 |node (l:TM α) (v:Option α) (r:TM α)
namespace TM
variable {α:Type}
def get(t:TM α):Nat->Option α :=
 TM.rec (motive:=λ_=>Nat->Option α) (λ_=>none) (λ_ v _ A M n=>Nat.rec (motive:=λ_=>Option α) v (λm _=>Nat.rec (motive:=λ_=>Option α) (A (Nat.div m 2)) (λ_ _=>M (Nat.div m 2)) (Nat.mod m 2)) n) t
def new(a:α)(f:Nat):Nat->TM α :=
 Nat.rec (motive:=λ_=>Nat->TM α) (λ_=>.nil) (λ_ A n=>Nat.rec (motive:=λ_=>TM α) (.node .nil (some a) .nil) (λm _=>Nat.rec (motive:=λ_=>TM α) (.node (A (Nat.div m 2)) none .nil) (λ_ _=>.node .nil none (A (Nat.div m 2))) (Nat.mod m 2)) n) f
def set(a:α)(t:TM α):Nat->TM α :=
 TM.rec (motive:=λ_=>Nat->TM α) (λn=>new a 20 n) (λl v r A M n=>Nat.rec (motive:=λ_=>TM α) (.node l (some a) r) (λm _=>Nat.rec (motive:=λ_=>TM α) (.node (A (Nat.div m 2)) v r) (λ_ _=>.node l v (M (Nat.div m 2))) (Nat.mod m 2)) n) t
end TM
inductive Ref where
 |im (i:Nat)
 |own (d g:Nat)
 deriving DecidableEq
inductive Site where
 |im (i:Nat)
 |own (d:Nat)
 deriving DecidableEq
def Ref.site:Ref->Site
 |.im i=>.im i
 |.own d _=>.own d
inductive bL where
 |bool (b:Bool)
 |int (k:IntKind) (n:Int)
 |str (s:List UInt8)
 |mC|bq|pw|kf|ke
 |slice (sz:Nat) (tight:Bool) (rows:List (List bL))
 |dc (row:List bL) (off:Nat)
 |sym (k:IntKind) (i:Nat) (off lo hi:Int)
inductive Cell where
 |p (v:bL)
 |ptr (r:Ref) (off:Nat)
 |cf (r:Ref) (off len:Nat) (cap:Option Nat) (sz:Nat)
 |func (f:FuncId) (dD:List Ref)
 |gm (sz:Nat) (rows:List (List bL)) (r:Ref)
 |jd
inductive cN where
 |c (x:Cell)
 |agg (cs:List Cell)
inductive bt where
 |v (x:cN)
 |dq (vs:List cN)
def bt.undef:bt:=.dq []
abbrev bt.cell(x:Cell):bt:=.v (.c x)
abbrev bt.pv(x:bL):bt:=.v (.c (.p x))
inductive bG where
 |cells (cs:List Cell) (imm:Nat)
 |gO (s:List UInt8) (pos:Nat)
 |dead
structure bm where
 bY:List bG
 cW:TM (Nat×bG)
namespace bm
def gen(h:bm)(d:Nat):Nat:=match h.cW.get d with|some (g,_)=>g|none=>0
def get(h:bm):Ref->Option bG
 |.im i=>match h.bY[i]? with|some .dead=>none|o=>o
 |.own d g=>match h.cW.get d with
  |some (A,o)=>bif Nat.beq g A then (match o with | .dead=>none|o=>some o) else none
  |none=>none
def put(h:bm)(r:Ref)(o:bG):bm :=
 match r with
 |.im i=>{ h with bY:=h.bY.set i o }
 |.own d g=>{ h with cW:=h.cW.set (g,o) d }
end bm
inductive X where
 |t (n:Nat)
 |k (v:bt)
inductive jE where
 |mv (x:X)
 |pick (c a b:X)
 |alloc (zero:List Cell) (push:Bool)
 |box (x:X) (push:Bool)
 |build (zero:List Cell) (parts:List (Nat×Nat×X))
 |cm (sz n:Nat) (zero:List Cell) (parts:List (Nat×X)) (heap:Bool)
 |load (agg:Bool) (n:Nat) (x:X)
 |store (n:Nat) (a v:X)
 |cO (x:X)
 |bin (op:BinOp) (kd:Nat) (x y:X)
 |un (op:UnOp) (x:X)
 |toInt (k:IntKind) (x:X)
 |toStr (x:X)
 |qD (f:FuncId) (dD:List X)
 |mU (sz:Nat) (bytes:Nat) (zero:List Cell) (len cap:X) (pu:Bool)
 |slice (sz:Nat) (str:Bool) (x:X) (lo hi mx:Option X)
 |dG (off:Nat) (x:X)
 |il (sz:Nat) (x i:X)
 |lE (n sz:Nat) (x i:X)
 |index (x i:X)
 |ng (x:X)
 |mD (x:X)
 |extract (x:X) (i:Nat)
 |call (f:X) (args:List X)
 |len (kd:Nat) (x:X)
 |append (sz bytes:Nat) (heap:Bool) (a b:X)
 |bad
structure dX where
 dst:Option Nat
 op:jE
 guard:Option (Nat×Bool)
inductive eo where
 |skip
 |yd (ops:List dX) (gP:List (Nat×Nat))
 |seq (a b:eo)
 |cond (c:X) (thn els:eo)
 |block (id:Nat) (body:eo)
 |loop (body:eo)
 |exit (id:Nat)
 |scope (body:eo)
 |ret
 |bad
inductive pK where
 |t (n:Nat)
 |cell (n:Nat) (agg:Bool) (size:Nat)
structure nd where
 np:Nat
 res:List pK
 gU:Bool
 body:eo
abbrev bD:=FuncId->List bt->List bG->Option (bt×List bG)
structure St where
 tm:TM bt
 h:bm
structure AF where
 out:Ref->bt
 kC:List (Ref×bG)
 new:Option bG
 push:Bool
inductive cA where
 |go (dM:List Ref) (k:List bG->Option AF)
 |call (f:FuncId) (args:List bt)
def cA.pure(v:bt):cA:=.go [] λ_=>some ⟨λ_=>v,[],none,false⟩
def cA.Bj(o:bG)(push:Bool)(mk:Ref->bt):cA:=.go [] λ_=>some ⟨mk,[],some o,push⟩
def cA.read(r:Ref)(k:bG->Option bt):cA:=.go [r] λ
 |[o]=>(k o).map λv=>⟨λ_=>v,[],none,false⟩
 |_=>none
def cA.write(r:Ref)(k:bG->Option (bt×bG)):cA:=.go [r] λ
 |[o]=>(k o).map λp=>⟨λ_=>p.1,[(r,p.2)],none,false⟩
 |_=>none
def X.ev(tm:TM bt):X->Option bt
 |.t n=>tm.get n
 |.k v=>some v
def iD(op:BinOp)(k:IntKind)(x y:Int):Option bL :=
 match op with
 |.add=>some (.int k (k.wrap (x+y)))
 |.sub=>some (.int k (k.wrap (x - y)))
 |.mul=>some (.int k (k.wrap (x*y)))
 |.quo=>if y=0 then none else some (.int k (k.wrap (x.tdiv y)))
 |.rem=>if y=0 then none else some (.int k (x.tmod y))
 |.and=>some (.int k (k.wrap (BitVec.ofInt k.bits x &&& BitVec.ofInt k.bits y).toNat))
 |.or=>some (.int k (k.wrap (BitVec.ofInt k.bits x ||| BitVec.ofInt k.bits y).toNat))
 |.xor=>some (.int k (k.wrap (BitVec.ofInt k.bits x ^^^ BitVec.ofInt k.bits y).toNat))
 |.andNot=>some (.int k (k.wrap (BitVec.ofInt k.bits x &&& ~~~BitVec.ofInt k.bits y).toNat))
 |.eql=>some (.bool (x==y))
 |.neq=>some (.bool (x != y))
 |.lss=>some (.bool (x<y))
 |.leq=>some (.bool (x<=y))
 |.gtr=>some (.bool (x>y))
 |.geq=>some (.bool (x>=y))
 |.shl | .shr=>none
def nF(op:BinOp)(k:IntKind)(x y:Int):Option bL :=
 if y<0 then none else
 match op with
 |.shl=>some (.int k (k.wrap (x*2 ^ (min y.toNat k.bits))))
 |.shr=>some (.int k (x.fdiv (2 ^ (min y.toNat k.bits))))
 |_=>none
def cX:List UInt8->List UInt8->Bool
 |_,[]=>false
 |[],_::_=>true
 |a::x,b::y=>a<b||(a==b&&cX x y)
def ix(op:BinOp)(x y:List UInt8):Option bL :=
 match op with
 |.add=>if x.length+y.length<=2 ^ 62 then some (.str (x++y)) else none
 |.eql=>some (.bool (x==y))
 |.neq=>some (.bool (!(x==y)))
 |.lss=>some (.bool (cX x y))
 |.leq=>some (.bool (cX x y||x==y))
 |.gtr=>some (.bool (!(cX x y||x==y)))
 |.geq=>some (.bool (!(cX x y)))
 |_=>none
def isNil:Cell->Option Bool
 |.p .mC | .p .bq | .p .pw | .p .kf=>some true
 |.p (.slice ..) | .p (.dc ..) | .ptr .. | .cf .. | .gm .. | .func .. => some false
 |_=>none
def kg:Cell->Nat
 |.p .mC | .p (.dc ..) | .ptr .. => 1
 |.p .bq | .p (.slice ..) | .cf .. | .gm .. => 2
 |.p .pw => 3
 |.p .kf | .func .. => 4
 |_=>0
def wm(kd:Nat)(x y:Cell):Option Bool :=
 if kg x=kd/\kg y=kd then
  match isNil x,isNil y with
  |some true,some b=>some b
  |some b,some true=>some b
  |_,_=>none
 else none
def Dv(op:BinOp)(k:IntKind)(i:Nat)(off lo hi:Int)(k':IntKind)(c:Int):Option Cell:=none
def pB(op:BinOp)(kd:Nat)(x y:Cell):Option Cell :=
 match x,y with
 |.p (.int k a),.p (.int k' b) =>
  match op with
  |.shl | .shr=>(nF op k a b).map .p
  |_=>if k=k' then (iD op k a b).map .p else none
 |.p (.str a),.p (.str b)=>(ix op a b).map .p
 |.p (.bool a),.p (.bool b)=>if kd=5 then (match op with
  |.eql=>some (.p (.bool (a==b)))
  |.neq=>some (.p (.bool (!(a==b))))
  |_=>none) else none
 |.p (.sym k i off lo hi),.p (.int k' c)=>Dv op k i off lo hi k' c
 |x,y=>match op with
  |.eql=>(wm kd x y).map λb=>.p (.bool b)
  |.neq=>(wm kd x y).map λb=>.p (.bool (!b))
  |_=>none
def uT(op:BinOp)(kd:Nat)(xs A:List Cell):Option Cell:=none
def W2(op:UnOp)(x:Cell):Option Cell :=
 match op,x with
 |.neg,.p (.int k n)=>some (.p (.int k (k.wrap (0 - n))))
 |.xor,.p (.int k n)=>(iD .xor k (if k.signed then -1 else k.max) n).map .p
 |.not,.p (.bool b)=>some (.p (.bool !b))
 |_,_=>none
def eY(cs:List Cell)(off:Nat)(vs:List Cell):List Cell :=
 cs.take off++vs++cs.drop (off+vs.length)
def cN.cells:cN->List Cell
 |.c x=>[x]
 |.agg cs=>cs
def partOf(agg:Bool)(n:Nat)(cs:List Cell)(off:Nat):Option bt :=
 if agg then (let row:=(cs.drop off).take n; if row.length=n then some (.v (.agg row)) else none)
 else match cs[off]? with
  |some x=>some (.v (.c x))
  |none=>none
def bp(ps:List bL):List Cell:=ps.map .p
def W0:Cell->Option bL
 |.p v=>some v
 |_=>none
def tY(cs:List Cell):Option (List bL):=cs.mapM W0
def tM(v:bt):Option Nat:=match v with | .v (.c (.p (.int _ n)))=>if 0<=n then some n.toNat else none|_=>none
def bytesOf:List Cell->Option (List UInt8)
 |[]=>some []
 |.p (.int .u8 n)::cs=>(bytesOf cs).map (UInt8.ofNat n.toNat::·)
 |_=>none
def fP:List (List bL)->Option (List UInt8)
 |[]=>some []
 |[.int .u8 n]::cs=>(fP cs).map (UInt8.ofNat n.toNat::·)
 |_=>none
def byteCells(s:List UInt8):List Cell:=s.map λb=>.p (.int .u8 b.toNat)
def chunk(sz:Nat):Nat->List Cell->Option (List (List bL))
 |0,_=>some []
 |n+1,cs=>do
  let row <- tY (cs.take sz)
  if row.length=sz then pure (row::(<- chunk sz n (cs.drop sz))) else none
def iu(cells:List Cell):List (Nat×Nat×cN)->Option (List Cell)
 |[]=>some cells
 |(off,size,v)::rest =>
  if v.cells.length=size/\off+size<=cells.length then iu (eY cells off v.cells) rest else none
def rep(n:Nat)(zero:List Cell):List Cell :=
 match n with
 |0=>[]
 |n+1=>zero++rep n zero
def jb:bt->Option Ref
 |.v (.c (.cf r ..))=>some r
 |_=>none
def hU:bt->Option Ref
 |.v (.c (.cf r ..))=>some r
 |.v (.c (.gm _ _ r))=>some r
 |_=>none
def gf(sz:Nat)(b:bt)(o:Option bG):Option (List Cell×Nat) :=
 match b,o with
 |.v (.c (.p .bq)),none=>some ([],0)
 |.v (.c (.p (.str s))),none=>if sz=1 then some (byteCells s,s.length) else none
 |.v (.c (.p (.slice A _ rows))),none=>if A=sz then some (bp rows.flatten,rows.length) else none
 |.v (.c (.gm A rows _)),none=>if A=sz then some (bp rows.flatten,rows.length) else none
 |.v (.c (.cf _ off len _ A)),some (.cells cs _) =>
  if A=sz/\off+len*sz<=cs.length then some ((cs.drop off).take (len*sz),len) else none
 |_,_=>none
def lq(sz bytes:Nat)(push:Bool)(cs:List Cell)(len:Nat)(kC:List (Ref×bG)):Option AF :=
 if len*bytes<=2 ^ 47 then some ⟨λr=>.v (.c (.cf r 0 len none sz)),kC,some (.cells cs 0),push⟩ else none
def jo(sz bytes:Nat)(rows:List (List bL))(new:List Cell)(n:Nat)(kC:List (Ref×bG)):Option AF :=
 match chunk sz n new with
 |some rs=>if (rows.length+n)*bytes<=2 ^ 47 then some ⟨λr=>.v (.c (.gm sz (rows++rs) r)),kC,some (.cells [] 0),false⟩ else none
 |none=>none
def Hz:bt->Bool
 |.v (.c (.p .bq)) | .v (.c (.p (.slice ..))) | .v (.c (.gm ..)) | .v (.c (.cf ..))=>true
 |_=>false
def ee(sz bytes:Nat)(heap:Bool)(a:bt)(o:Option bG)(new:List Cell)(n:Nat):Option AF :=
 if n=0 then (if Hz a then some ⟨λ_=>a,[],none,false⟩ else none) else
 match a,o with
 |.v (.c (.p .bq)),none=>if heap then lq sz bytes true new n [] else jo sz bytes [] new n []
 |.v (.c (.p (.slice A true rows))),none=>if A=sz then
   (if heap then lq sz bytes true (bp rows.flatten++new) (rows.length+n) [] else jo sz bytes rows new n []) else none
 |.v (.c (.gm A rows r)),some (.cells [] 0)=>if A=sz then jo sz bytes rows new n [(r,.dead)] else none
 |.v (.c (.cf r off len (some cap) A)),some (.cells cs imm) =>
  if A=sz/\off+len*sz<=cs.length then
   if len+n<=cap then
    if imm<=off+len*sz/\off+(len+n)*sz<=cs.length then
     some ⟨λ_=>.v (.c (.cf r off (len+n) (some cap) sz)),[(r,.cells (eY cs (off+len*sz) new) imm)],none,false⟩
    else none
   else lq sz bytes heap ((cs.drop off).take (len*sz)++new) (len+n) []
  else none
 |.v (.c (.cf r off len none A)),some (.cells cs imm) =>
  if A=sz/\off+len*sz<=cs.length/\imm<=off+len*sz then
   if (len+n)*bytes<=2 ^ 47 then
    some ⟨λr=>.v (.c (.cf r 0 (len+n) none sz)),[(r,.dead)],some (.cells ((cs.drop off).take (len*sz)++new) (imm - off)),heap⟩
   else none
  else none
 |_,_=>none
def kX:Option Ref->Option Ref->List Ref
 |none,none=>[]
 |some r,none|none,some r=>[r]
 |some r,some s=>[r,s]
def dw:Option Ref->Option Ref->List bG->Option (Option bG×Option bG)
 |none,none,[]=>some (none,none)
 |some _,none,[a]=>some (some a,none)
 |none,some _,[b]=>some (none,some b)
 |some _,some _,[a,b]=>some (some a,some b)
 |_,_,_=>none
def jm(t:Bool)(h:Nat):Option Nat->Bool
 |none=>t
 |some m=>h==m
def fW(A:Nat)(str:Bool)(x:Cell)(lo hi:Option Nat)(mx:Option Nat):Option Cell :=
 let l:=lo.getD 0
 if mx.isSome&&hi.isNone then none else
 if str then
 match x with
 |.p (.str s)=>let h:=hi.getD s.length
  if mx.isNone/\l<=h/\h<=s.length then some (.p (.str ((s.take h).drop l))) else none
 |_=>none
 else match x with
 |.p .bq=>if l=0/\hi.getD 0=0/\mx.getD 0=0 then some (.p .bq) else none
 |.p (.slice sz tight rows)=>let h:=hi.getD rows.length
  if sz=A/\l<=h/\h<=mx.getD rows.length/\mx.getD rows.length<=rows.length then
   some (.p (.slice sz (jm (tight&&h==rows.length) h mx) ((rows.take h).drop l)))
  else none
 |.gm sz rows r=>let h:=hi.getD rows.length
  if sz=A/\l<=h/\h<=mx.getD rows.length/\mx.getD rows.length<=rows.length then
   if mx.isNone/\h=rows.length/\l<h then some (.gm sz (rows.drop l) r)
   else some (.p (.slice sz (jm false h mx) ((rows.take h).drop l)))
  else none
 |.cf r off len cap sz=>let h:=hi.getD len
  if sz=A then
  if h=l/\h<=len/\mx.isNone/\0<l then some (.p (.slice sz false [])) else
  match mx with
  |none=>if l<=h/\h<=cap.getD len/\(l=0\/l<cap.getD len) then some (.cf r (off+l*sz) (h - l) (cap.map (· - l)) sz) else none
  |some m=>if l<=h/\h<=m/\m<=cap.getD len/\l<m then some (.cf r (off+l*sz) (h - l) (some (m - l)) sz) else none
  else none
 |_=>none
def qC(tm:TM bt):Option X->Option (Option Nat)
 |none=>some none
 |some x=>match x.ev tm with
  |some v=>(tM v).map some
  |none=>none
def wb:bt->Option Ref
 |.v (.c (.ptr r 0))=>some r
 |_=>none
def mj(s:List UInt8)(pos:Nat):Nat×Nat:=Utf8.decode ⟨s.toArray⟩ pos
def cH(tm:TM bt):jE->Option cA
 |.mv x=>(x.ev tm).map .pure
 |.pick c a b=>match c.ev tm with
  |some (.v (.c (.p (.bool true))))=>(a.ev tm).map .pure
  |some (.v (.c (.p (.bool false))))=>(b.ev tm).map .pure
  |_=>none
 |.alloc zero push=>some (.Bj (.cells zero 0) push λr=>.v (.c (.ptr r 0)))
 |.box x push=>match x.ev tm with
  |some (.v v)=>some (.Bj (.cells v.cells 0) push λr=>.v (.c (.ptr r 0)))
  |_=>none
 |.build zero parts=>do
  let ps <- parts.mapM λp=>match p.2.2.ev tm with|some (.v v)=>some (p.1,p.2.1,v)|_=>none
  let cs <- iu zero ps
  pure (.pure (.v (.agg cs)))
 |.cm sz n zero parts heap=>do
  let ps <- parts.mapM λp=>match p.2.ev tm with|some (.v v)=>some (p.1*sz,sz,v)|_=>none
  let cs <- iu (rep n zero) ps
  match (if heap then none else chunk sz n cs) with
  |some rows=>pure (.pure (.v (.c (.p (.slice sz true rows)))))
  |none=>pure (.Bj (.cells cs 0) heap λr=>.v (.c (.cf r 0 n (some n) sz)))
 |.load agg n x=>match x.ev tm with
  |some (.v (.c (.ptr r off)))=>some (.read r λ| .cells cs _=>partOf agg n cs off|_=>none)
  |some (.v (.c (.p (.dc row off))))=>(partOf agg n (bp row) off).map .pure
  |_=>none
 |.store n a v=>match a.ev tm,v.ev tm with
  |some (.v (.c (.ptr r off))),some (.v x)=>some (.write r λ
   |.cells cs imm=>if imm<=off/\x.cells.length=n/\off+n<=cs.length then some (.undef,.cells (eY cs off x.cells) imm) else none
   |_=>none)
  |_,_=>none
 |.cO x=>match x.ev tm with
  |some (.v (.c (.p .mC)))|some (.v (.c (.p .ke)))|some (.v (.c (.p .kf)))|some (.v (.c .jd))=>none
  |some v=>some (.pure v)
  |none=>none
 |.bin op kd x y=>match x.ev tm,y.ev tm with
  |some (.v (.c a)),some (.v (.c b))=>(pB op kd a b).map λc=>.pure (.v (.c c))
  |some (.v (.agg a)),some (.v (.agg b))=>(uT op kd a b).map λc=>.pure (.v (.c c))
  |_,_=>none
 |.un op x=>match x.ev tm with
  |some (.v (.c a))=>(W2 op a).map λc=>.pure (.v (.c c))
  |_=>none
 |.toInt k x=>match x.ev tm with
  |some (.v (.c (.p (.int _ n))))=>some (.pure (.pv (.int k (k.wrap n))))
  |_=>none
 |.toStr x=>match x.ev tm with
  |some (.v (.c (.p .bq)))=>some (.pure (.pv (.str [])))
  |some (.v (.c (.p (.slice 1 _ rows))))|some (.v (.c (.gm 1 rows _)))=>(fP rows).map λs=>.pure (.pv (.str s))
  |some (.v (.c (.cf r off len _ 1)))=>some (.read r λ
   |.cells cs _=>if off+len<=cs.length then (bytesOf ((cs.drop off).take len)).map λs=>.pv (.str s) else none
   |_=>none)
  |_=>none
 |.qD f dD=>do
  let rs <- dD.mapM λx=>(x.ev tm).bind wb
  pure (.pure (.v (.c (.func f rs))))
 |.mU sz bytes zero len cap pu=>match (len.ev tm).bind tM,(cap.ev tm).bind tM with
  |some l,some c=>if l<=c/\c*bytes<=2 ^ 40/\c<=2 ^ 40 then (match (bif pu&&Nat.beq l c then chunk sz c (rep c zero) else none) with
   |some rows=>some (.pure (.v (.c (.p (.slice sz true rows)))))
   |none=>some (.Bj (.cells (rep c zero) 0) false λr=>.v (.c (.cf r 0 l (some c) sz)))) else none
  |_,_=>none
 |.slice sz str x lo hi mx=>match x.ev tm,qC tm lo,qC tm hi,qC tm mx with
  |some (.v (.c a)),some l,some h,some m=>(fW sz str a l h m).map λc=>.pure (.v (.c c))
  |_,_,_,_=>none
 |.dG off x=>match x.ev tm with
  |some (.v (.c (.ptr r o)))=>some (.pure (.v (.c (.ptr r (o+off)))))
  |some (.v (.c (.p (.dc row o))))=>some (.pure (.pv (.dc row (o+off))))
  |_=>none
 |.il sz x i=>match x.ev tm,(i.ev tm).bind tM with
  |some (.v (.c (.p (.slice A _ rows)))),some k =>
   if A=sz then (match rows[k]? with|some row=>some (.pure (.pv (.dc row 0)))|none=>none) else none
  |some (.v (.c (.gm A rows _))),some k =>
   if A=sz then (match rows[k]? with|some row=>some (.pure (.pv (.dc row 0)))|none=>none) else none
  |some (.v (.c (.cf r off len _ A))),some k=>if A=sz/\k<len then some (.pure (.v (.c (.ptr r (off+k*sz))))) else none
  |_,_=>none
 |.lE n sz x i=>match x.ev tm,(i.ev tm).bind tM with
  |some (.v (.c (.ptr r off))),some k=>if k<n then some (.pure (.v (.c (.ptr r (off+k*sz))))) else none
  |some (.v (.c (.p (.dc row off)))),some k=>if k<n then some (.pure (.pv (.dc row (off+k*sz)))) else none
  |_,_=>none
 |.index x i=>match x.ev tm,(i.ev tm).bind tM with
  |some (.v (.c (.p (.str s)))),some k=>match s[k]? with|some b=>some (.pure (.pv (.int .u8 b.toNat)))|none=>none
  |_,_=>none
 |.ng x=>match x.ev tm with
  |some (.v (.c (.p (.str s))))=>some (.Bj (.gO s 0) false λr=>.v (.c (.ptr r 0)))
  |_=>none
 |.mD x=>match x.ev tm with
  |some (.v (.c (.ptr r 0)))=>some (.write r λ
   |.gO s pos=>if pos<s.length then
     let M:=mj s pos
     some (.dq [.c (.p (.bool true)),.c (.p (.int .i64 pos)),.c (.p (.int .i32 M.1))],.gO s (pos+M.2))
    else some (.dq [.c (.p (.bool false))],.gO s pos)
   |_=>none)
  |_=>none
 |.extract x i=>match x.ev tm with
  |some (.dq vs)=>match vs[i]? with|some v=>some (.pure (.v v))|none=>none
  |_=>none
 |.call f args=>match f.ev tm with
  |some (.v (.c (.func g dD)))=>do
   let as <- args.mapM λx=>x.ev tm
   pure (.call g (as++dD.map λr=>.v (.c (.ptr r 0))))
  |_=>none
 |.len kd x=>match kd,x.ev tm with
  |0,some (.v (.c (.p (.str s))))=>some (.pure (.pv (.int .i64 s.length)))
  |2,some (.v (.c (.p .bq)))=>some (.pure (.pv (.int .i64 0)))
  |2,some (.v (.c (.p (.slice _ _ rows))))|2,some (.v (.c (.gm _ rows _)))=>some (.pure (.pv (.int .i64 rows.length)))
  |2,some (.v (.c (.cf _ _ len _ _)))=>some (.pure (.pv (.int .i64 len)))
  |_,_=>none
 |.append sz bytes heap a b=>match a.ev tm,b.ev tm with
  |some x,some y=>some (.go (kX (hU x) (jb y)) λos=>do
   let (U,ob) <- dw (hU x) (jb y) os
   let (new,n) <- gf sz y ob
   ee sz bytes heap x U new n)
  |_,_=>none
 |.bad=>none
def Cell.refs:Cell->List Ref
 |.ptr r _ | .cf r .. | .gm _ _ r=>[r]
 |.func _ dD=>dD
 |_=>[]
def cN.refs:cN->List Ref
 |.c x=>x.refs
 |.agg cs=>cs.flatMap Cell.refs
def bt.refs:bt->List Ref
 |.v x=>x.refs
 |.dq vs=>vs.flatMap cN.refs
def bG.refs:bG->List Ref
 |.cells cs _=>cs.flatMap Cell.refs
 |_=>[]
def reach(h:bm):Nat->List Ref->List Ref->List Ref
 |0,_,seen=>seen
 |_+1,[],seen=>seen
 |n+1,r::todo,seen =>
  bif seen.contains r then reach h n todo seen else
  match h.get r with
  |some o=>reach h n (o.refs++todo) (seen++[r])
  |none=>reach h n todo seen
def Cell.eB(σ:Ref->Option Ref):Cell->Cell
 |.ptr r off=>match σ r with|some s=>.ptr s off|none=>.jd
 |.cf r off len cap sz=>match σ r with|some s=>.cf s off len cap sz|none=>.jd
 |.gm sz rows r=>match σ r with|some s=>.gm sz rows s|none=>.p (.slice sz false rows)
 |.func f dD=>match dD.mapM σ with|some rs=>.func f rs|none=>.jd
 |c=>c
def cN.eB(σ:Ref->Option Ref):cN->cN
 |.c x=>.c (x.eB σ)
 |.agg cs=>.agg (cs.map (Cell.eB σ))
def bt.eB(σ:Ref->Option Ref):bt->bt
 |.v x=>.v (x.eB σ)
 |.dq vs=>.dq (vs.map (cN.eB σ))
def bG.eB(σ:Ref->Option Ref):bG->bG
 |.cells cs imm=>.cells (cs.map (Cell.eB σ)) imm
 |o=>o
def idx(r:Ref):List Ref->Nat->Option Nat
 |[],_=>none
 |s::rs,i=>bif decide (r=s) then some i else idx r rs (i+1)
def Cell.strip:Cell->Cell
 |.gm sz rows _=>.p (.slice sz false rows)
 |c=>c
def cN.strip:cN->cN
 |.c x=>.c x.strip
 |.agg cs=>.agg (cs.map Cell.strip)
def bt.strip:bt->bt
 |.v x=>.v x.strip
 |.dq vs=>.dq (vs.map cN.strip)
def iU(rs:List Ref)(r:Ref):Option Ref:=(idx r rs 0).map .im
def back(rs:List Ref)(m:Nat)(new:Nat->Ref):Ref->Option Ref
 |.im i=>match rs[i]? with
  |some r=>some r
  |none=>bif Nat.blt i m then some (new (i - rs.length)) else none
 |.own .. => none
def dC(n:Nat)(j:Nat):Ref:=.im (n+j)
def fu(h:bm):List Ref->List bG->bm
 |r::rs,o::os=>fu (h.put r o) rs os
 |_,_=>h
structure Touch where
 rd:List Site
 wr:List Site
 oU:Bool
def cw:Nat:=400
def dE(O:bD)(f:FuncId)(M:List bt)(d:Nat)(h:bm):Option (bt×bm×Touch) :=
 let args:=M.map bt.strip
 let rs:=reach h cw (args.flatMap bt.refs) []
 match rs.mapM h.get with
 |none=>none
 |some A =>
  match O f (args.map (bt.eB (iU rs))) (A.map (bG.eB (iU rs))) with
  |none=>none
  |some (v,cZ) =>
   if cZ.length<rs.length then none else
   let n:=h.bY.length
   let σ:=back rs cZ.length (dC n)
   let os:=cZ.map (bG.eB σ)
   let h1:=fu h rs (os.take rs.length)
   let new:=os.drop rs.length
   let U:=match new with
    |[]=>h1
    |_=>{ bY:=h1.bY++new,cW:=h1.cW }
   some (v.eB σ,U,{ rd:=(args.flatMap bt.refs++A.flatMap bG.refs++rs).map Ref.site,wr:=rs.map Ref.site++(List.range new.length).map λj=>.im (n+j),oU:=Nat.blt 0 new.length })
def fN(dM:List Ref)(k:List bG->Option AF)(d:Nat)(h:bm):Option (bt×bm×Touch) :=
 match dM.mapM h.get with
 |none=>none
 |some os=>match k os with
  |none=>none
  |some res =>
   bif !res.kC.all (λp=>dM.contains p.1) then none else
   let g:=h.gen d+1
   let h1:=res.kC.foldl (λh p=>h.put p.1 p.2) h
   match res.new with
   |none=>some (res.out (.own d 0),h1,{ rd:=dM.map Ref.site,wr:=res.kC.map (·.1.site),oU:=false })
   |some o=>bif res.push then some (res.out (.im h.bY.length),{ h1 with bY:=h1.bY++[o] },{ rd:=dM.map Ref.site,wr:=.im h.bY.length::res.kC.map (·.1.site),oU:=true })
    else some (res.out (.own d g),{ h1 with cW:=h1.cW.set (g,o) d },{ rd:=dM.map Ref.site,wr:=.own d::res.kC.map (·.1.site),oU:=false })
def cj:Touch:=⟨[],[],false⟩
def fX(tm:TM bt)(d:Option Nat)(v:bt):TM bt:=match d with|some d=>tm.set v d|none=>tm
def cA.exec(O:bD)(p:cA)(d:Nat)(h:bm):Option (bt×bm×Touch) :=
 match p with | .go dM k=>fN dM k d h | .call f args=>dE O f args d h
def pd(O:bD)(o:dX)(st:St):Option (St×Touch) :=
 match cH st.tm o.op with
 |none=>none
 |some p =>
  match p.exec O (o.dst.getD 1000000) st.h with
  |none=>none
  |some (v,h,t)=>some ({ tm:=fX st.tm o.dst v,h },t)
def gX(O:bD)(o:dX)(st:St):Option (St×Touch) :=
 match o.guard with
 |none=>pd O o st
 |some (t,want)=>match st.tm.get t with
  |some (.v (.c (.p (.bool b))))=>bif b==want then pd O o st else some ({ st with tm:=fX st.tm o.dst .undef },cj)
  |some (.dq [])=>some ({ st with tm:=fX st.tm o.dst .undef },cj)
  |_=>none
def lA(O:bD):List dX->St->Option (St×List Touch)
 |[],st=>some (st,[])
 |o::os,st=>match gX O o st with
  |none=>none
  |some (M,t)=>match lA O os M with
   |none=>none
   |some (A,ts)=>some (A,t::ts)
def jE.xs:jE->List X
 |.mv x | .box x _ | .load _ _ x | .cO x | .un _ x | .toInt _ x | .toStr x | .dG _ x | .ng x | .mD x | .extract x _ | .len _ x=>[x]
 |.pick a b c=>[a,b,c]
 |.store _ a b | .bin _ _ a b | .il _ a b | .lE _ _ a b | .index a b | .append _ _ _ a b=>[a,b]
 |.call f as=>f::as
 |.slice _ _ x lo hi mx=>x::(lo.toList++hi.toList++mx.toList)
 |.mU _ _ _ a b _=>[a,b]
 |.cm _ _ _ ps _=>ps.map (·.2)
 |.build _ ps=>ps.map (·.2.2)
 |.qD _ xs=>xs
 |.alloc _ _ | .bad=>[]
def X.slot:X->Option Nat
 |.t n=>some n
 |.k _=>none
def dX.looks(o:dX):List Nat:=o.op.xs.filterMap X.slot++(match o.guard with|some (t,_)=>[t]|none=>[])
def jE.weight:jE->Nat
 |.mv _ | .pick .. | .build .. | .cO _ | .bin .. | .un .. | .toInt .. | .qD .. | .slice .. | .dG .. | .il .. | .lE .. | .index .. | .extract .. | .bad=>0
 |.load .. | .len .. | .toStr _=>1
 |_=>2
def G9(a b:dX):Bool:=match a.dst with
 |some d=>b.looks.contains d
 |none=>false
def zk(a b:dX):Bool := !(G9 a b) && !(G9 b a)&&(match a.dst,b.dst with|some d,some e => !(d==e)|_,_=>true)
def yF(a b:dX):Bool:=Nat.blt 0 a.op.weight&&Nat.blt 0 b.op.weight&&Nat.blt 2 (a.op.weight+b.op.weight)
def sB(a b:List Site):Bool:=a.all λs => !b.contains s
def Touch.apart(a b:Touch):Bool:=sB a.wr b.wr&&sB a.wr b.rd&&sB b.wr a.rd && !(a.oU&&b.oU)
def da(ts:List Touch)(gP:List (Nat×Nat)):Bool :=
 gP.all λp=>match ts[p.1]?,ts[p.2]? with
  |some a,some b=>a.apart b
  |_,_=>false
def rW(O:bD)(ops:List dX)(gP:List (Nat×Nat))(st:St):Option St :=
 match lA O ops st with
 |none=>none
 |some (A,ts)=>bif da ts gP then some A else none
inductive lV where
 |norm
 |exit (id:Nat)
 |ret
def yo(O:bD)(rec:eo->St->Option (lV×St)):eo->St->Option (lV×St)
 |.skip,st=>some (.norm,st)
 |.yd ops gP,st=>match rW O ops gP st with|some A=>some (.norm,A)|none=>none
 |.seq a b,st=>match yo O rec a st with|some (.norm,A)=>yo O rec b A|r=>r
 |.cond c a b,st=>match c.ev st.tm with
  |some (.v (.c (.p (.bool true))))=>yo O rec a st
  |some (.v (.c (.p (.bool false))))=>yo O rec b st
  |_=>none
 |.block id c,st=>match yo O rec c st with
  |some (.exit j,A)=>bif Nat.beq j id then some (.norm,A) else some (.exit j,A)
  |r=>r
 |.loop c,st=>match yo O rec c st with|some (.norm,A)=>rec (.loop c) A|r=>r
 |.exit id,st=>some (.exit id,st)
 |.scope c,st=>yo O rec c st
 |.ret,st=>some (.ret,st)
 |.bad,_=>none
def run(O:bD):Nat->eo->St->Option (lV×St)
 |0=>λ_ _=>none
 |n+1=>yo O (run O n)
def freeze(h:bm):Nat->Cell->Option (bL×List Ref)
 |0,_=>none
 |n+1,c=>match c with
  |.p v=>some (v,[])
  |.gm sz rows _=>some (.slice sz false rows,[])
  |.cf r off len cap sz=>match h.get r with
   |some (.cells cs _)=>do
    let vs <- ((cs.drop off).take (len*sz)).mapM (freeze h n)
    let rows <- chunk sz len (vs.map λx=>.p x.1)
    pure (.slice sz (cap==some len) rows,r::vs.flatMap (·.2))
   |_=>none
  |.ptr r off=>match h.get r with
   |some (.cells cs _)=>do
    let vs <- cs.mapM (freeze h n)
    pure (.dc (vs.map (·.1)) off,r::vs.flatMap (·.2))
   |_=>none
  |_=>none
def eA:Nat:=30
def fJ(h:bm):cN->Option (cN×List Ref)
 |.c x=>(freeze h eA x).map λy=>(.c (.p y.1),y.2)
 |.agg cs=>(cs.mapM (freeze h eA)).map λA=>(.agg (A.map λy=>.p y.1),A.flatMap (·.2))
def iF(h:bm):bt->Option (bt×List Ref)
 |.v x=>(fJ h x).map λy=>(.v y.1,y.2)
 |.dq vs=>(vs.mapM (fJ h)).map λA=>(.dq (A.map (·.1)),A.flatMap (·.2))
def settle(h:bm):List Ref->bm
 |[]=>h
 |r::rs=>match h.get r with
  |some (.cells cs imm)=>settle (h.put r (.cells cs (max imm cs.length))) rs
  |_=>settle h rs
def ki(st:St):pK->Option cN
 |.t n=>match st.tm.get n with|some (.v x)=>some x|_=>none
 |.cell n agg size=>match st.tm.get n with
  |some (.v (.c (.ptr r off)))=>match st.h.get r with
   |some (.cells cs _)=>match partOf agg size cs off with|some (.v x)=>some x|_=>none
   |_=>none
  |_=>none
def bY(k:Nat):List Ref:=(List.range k).map .im
def oneOf:List cN->bt
 |[x]=>.v x
 |vs=>.dq vs
def finish(F:nd)(st:St)(k:Nat):Option (bt×List bG) :=
 match F.res.mapM (ki st) with
 |none=>none
 |some vs =>
  let v:bt:=oneOf vs
  match (if F.gU then iF st.h v else some (v,[])) with
  |none=>none
  |some (U,fr) =>
   let h:=settle st.h fr
   let A:=reach h cw ((bY k).flatMap (λr=>match h.get r with|some o=>o.refs|none=>[])++U.refs) (bY k)
   let M:=A.map λr=>match h.get r with|some o=>o.eB (iU A)|none=>.dead
   some (U.eB (iU A),M)
def setArgs:List bt->Nat->TM bt->TM bt
 |[],_,tm=>tm
 |v::vs,i,tm=>setArgs vs (i+1) (tm.set v i)
def Kf(O:bD)(n:Nat)(F:nd)(args:List bt)(A:List bG):Option (bt×List bG) :=
 if args.length=F.np then
  match run O n F.body { tm:=setArgs args 0 .nil,h:={ bY:=A,cW:=.nil } } with
  |some (.norm,st)|some (.ret,st)=>finish F st A.length
  |_=>none
 else none
end
end Go.AI
namespace Go.AI
def sC:Value->Option bL
 |.bool b=>some (.bool b)
 |.int k n=>some (.int k n)
 |.string s=>some (.str s.data.toList)
 |.pointer none=>some .mC
 |.slice none 0 0=>some .bq
 |.map none=>some .pw
 |.nilFunc=>some .kf
 |.nilIface=>some .ke
 |_=>none
def qJ:Value->Option cN
 |.agg cs=>(cs.toList.mapM sC).map λl=>.agg (bp l)
 |v=>(sC v).map λx=>.c (.p x)
def wT:Value->Option bt
 |.tuple ⟨[]⟩=>some (.dq [])
 |v=>(qJ v).map .v
section
variable (P:Program) (G:Nat->Option (List bL))
def cG:Operand->Option X
 |.tmp t=>some (.t t)
 |.const v=>(wT v).map .k
 |.global g=>(G g).map λrow=>.k (.pv (.dc row 0))
 |.func f=>some (.k (.v (.c (.func f []))))
def iw(t:TypeId):Option Nat:=(P.info? t).map (·.size)
def pA(t:TypeId):Option Nat:=(P.info? t).map (·.bytes)
def Cv(t:TypeId):Option Bool:=(P.underlying t).map λ| .struct _ | .array _ _=>true|_=>false
def eQ(t:TypeId):Option cN:=((P.info? t).bind (·.zero)).bind qJ
def uM(f:Field):Nat:=match P.underlying f.type with
 |some (.int _)=>1|some .string=>2|some .bool=>3|_=>0
def uJ:List Field->Nat->Option Nat
 |[],_=>some 0
 |f::A,i=>if f.name ≠ "_" /\ f.offset=i/\uM P f≠0 then (uJ A (i+1)).map λn=>4*n+uM P f else none
def qt(t:TypeId)(A:Array Field):Nat :=
 if P.stoodInHeld t=false/\P.eqGuardType P.depth t=false then (match uJ P A.toList 0 with|some n=>n+8|none=>0) else 0
def kindOf(t:TypeId):Nat:=match P.underlying t with
 |some (.pointer _)=>1|some (.slice _)=>2|some (.map _ _)=>3|some (.func _ _ _)=>4|some .bool=>5|some (.struct A)=>qt P t A|_=>0
def r9:Option Operand->Option (Option X)
 |none=>some none
 |some x=>(cG G x).map some
def rN(heap:Nat->Bool)(c:Call):Option jE :=
 match c.callee with
 |.value f=>do
  let f <- cG G f
  let args <- c.args.toList.mapM (cG G)
  pure (.call f args)
 |.invoke .. => none
 |.builtin b=>do
  let args <- c.args.toList.mapM (cG G)
  match b,args,c.argTypes.toList with
  |.len,[x],[t]=>match P.underlying t with
   |some .string=>pure (.len 0 x)
   |some (.slice _)=>pure (.len 2 x)
   |some (.array n _)=>pure (.mv (.k (.pv (.int .i64 n))))
   |_=>none
  |.append,[a,b],[t,u]=>match P.underlying t,P.underlying u with
   |some (.slice e),some (.slice _)|some (.slice e),some .string=>do
    let sz <- iw P e
    let by' <- pA P e
    let z <- eQ P e
    if sz=0\/by'=0\/z.cells.length≠sz then none else pure (.append sz by' (heap sz) a b)
   |_,_=>none
  |_,_,_=>none
def oy(heap:Nat->Bool):Op->Option jE
 |.move x | .assign x=>(cG G x).map .mv
 |.pick c a b=>do pure (.pick (<- cG G c) (<- cG G a) (<- cG G b))
 |.alloc t=>do pure (.alloc (<- eQ P t).cells (heap 0))
 |.box _ x=>do pure (.box (<- cG G x) (heap 0))
 |.build t parts=>do
  let z <- eQ P t
  match P.underlying t with
  |some (.struct fields)=>do
   let places <- fields.toList.mapM λf=>(P.info? f.type).map λi=>(f.offset,i.size)
   let ps <- parts.toList.mapM λp=>do
    let q <- places[p.1]?
    pure (q.1,q.2,<- cG G p.2)
   pure (.build z.cells ps)
  |some (.array _ e)=>do
   let sz <- iw P e
   let ps <- parts.toList.mapM λp=>do pure (p.1*sz,sz,<- cG G p.2)
   pure (.build z.cells ps)
  |_=>none
 |.buildSlice t n parts=>do
  match P.underlying t with
  |some (.slice e)=>do
   let sz <- iw P e
   let z <- eQ P e
   if sz=0\/n*sz>100000\/z.cells.length≠sz then none else
   let ps <- parts.toList.mapM λp=>do pure (p.1,<- cG G p.2)
   pure (.cm sz n z.cells ps (heap sz))
  |_=>none
 |.load t a=>do pure (.load (<- Cv P t) (<- iw P t) (<- cG G a))
 |.store t a v=>do pure (.store (<- iw P t) (<- cG G a) (<- cG G v))
 |.nilCheck x=>do pure (.cO (<- cG G x))
 |.binOp op t x y _=>do pure (.bin op (kindOf P t) (<- cG G x) (<- cG G y))
 |.unOp op _ x=>do pure (.un op (<- cG G x))
 |.convert src dst x=>match P.underlying src,P.underlying dst with
  |some (.int _),some (.int k)=>do pure (.toInt k (<- cG G x))
  |some (.slice e),some .string=>match P.underlying e with
   |some (.int .u8)=>do pure (.toStr (<- cG G x))
   |_=>none
  |_,_=>none
 |.makeFunc (.func f) first captured=>if first.size=0 then (do pure (.qD f (<- captured.toList.mapM (cG G)))) else none
 |.makeSlice t l c=>match P.underlying t with
  |some (.slice e)=>do
   let sz <- iw P e
   let z <- eQ P e
   if sz=0\/z.cells.length≠sz then none else
   pure (.mU sz (<- pA P e) z.cells (<- cG G l) (<- cG G c) (heap (1000000+sz)))
  |_=>none
 |.slice t x lo hi mx=>match P.underlying t with
  |some .string=>do pure (.slice 0 true (<- cG G x) (<- r9 G lo) (<- r9 G hi) (<- r9 G mx))
  |some (.slice e)=>do pure (.slice (<- iw P e) false (<- cG G x) (<- r9 G lo) (<- r9 G hi) (<- r9 G mx))
  |_=>none
 |.fieldAddr s x f=>match P.underlying s with
  |some (.struct fields)=>do
   let fd <- fields[f]?
   if (<- iw P fd.type)=0 then none else pure (.dG fd.offset (<- cG G x))
  |_=>none
 |.indexAddr t x i=>match P.underlying t with
  |some (.slice e)=>do
   let sz <- iw P e
   if sz=0 then none else pure (.il sz (<- cG G x) (<- cG G i))
  |some (.array n e)=>do
   let sz <- iw P e
   if sz=0 then none else pure (.lE n sz (<- cG G x) (<- cG G i))
  |_=>none
 |.index t x i=>match P.underlying t with
  |some .string=>do pure (.index (<- cG G x) (<- cG G i))
  |_=>none
 |.range t x=>match P.underlying t with
  |some .string=>do pure (.ng (<- cG G x))
  |_=>none
 |.next x true=>do pure (.mD (<- cG G x))
 |.extract x i=>do pure (.extract (<- cG G x) i)
 |.call c=>rN P G heap c
 |_=>none
def nW(nt:Nat)(heap:Nat->Bool)(ops:Array Oper)(o:Oper):Option dX:=do
 let guard <- match o.guard with
  |none=>some none
  |some (j,want)=>match (ops[j]?).bind (·.dst) with
   |some t=>some (some (t,want))
   |none=>none
 if o.dst.all (·<nt) then
  pure { dst:=o.dst,op:=(oy P G heap o.op).getD .bad,guard }
 else none
def rowOf(acc:List Nat):List Edge->Nat
 |[]=>0
 |e::es=>(if Region.binds .any e then 2 ^ e.on ||| acc.getD e.on 0 else 0) ||| rowOf acc es
def yP:List Oper->List Nat->List Nat
 |[],acc=>acc
 |o::os,acc=>yP os (acc++[rowOf acc o.after.toList])
def pO(A:List Nat)(n:Nat):List (Nat×Nat) :=
 (List.range n).flatMap λj=>((List.range j).filter λi => !(A.getD j 0).testBit i).map λi=>(i,j)
def backward:List Oper->Nat->Bool
 |[],_=>true
 |o::os,i=>o.after.toList.all (λe => !Region.binds .any e||Nat.blt e.on i)&&backward os (i+1)
def J8:dX:=⟨none,.bad,none⟩
def iV(nt:Nat)(heap:Nat->Bool)(ops:Array Oper)(draw:Bool):Option eo:=do
 let l <- ops.toList.mapM (nW P G nt heap ops)
 if draw then
  let ps:=pO (yP ops.toList []) ops.size
  if backward ops.toList 0&&ps.all λp=>zk (l.getD p.1 J8) (l.getD p.2 J8) then
   pure (.yd l (ps.filter λp=>yF (l.getD p.1 J8) (l.getD p.2 J8)))
  else none
 else pure (.yd l [])
def comp(nt:Nat)(heap:Nat->Bool):Code->eo
 |.skip=>.skip
 |.label _=>.skip
 |.region _ ops draw=>(iV P G nt heap ops draw).getD .bad
 |.seq a b=>.seq (comp nt heap a) (comp nt heap b)
 |.cond c a b=>match cG G c with
  |some c=>.cond c (comp nt heap a) (comp nt heap b)
  |none=>.bad
 |.block id c=>.block id (comp nt heap c)
 |.loop c=>.loop (comp nt heap c)
 |.exit id=>.exit id
 |.scope c=>.scope (comp nt heap c)
 |.ret=>.ret
 |_=>.bad
def mW:ResultVar->Option pK
 |.tmp t=>some (.t t)
 |.cell n t=>do pure (.cell n (<- Cv P t) (<- iw P t))
def lS(heap:Nat->Bool)(gU:Bool)(fn:Func):Option nd:=do
 let c <- fn.body
 let rs <- fn.results.toList.mapM (mW P)
 if fn.name == "runtime.NumGoroutine" then none else
 if fn.ntmps>999999\/fn.params.size+fn.nfree>fn.ntmps then none else
 pure { np:=fn.params.size+fn.nfree,res:=rs,gU,body:=comp P G fn.ntmps heap c }
end
def pN(n m:Nat):Nat.beq n m=decide (n=m):=by
 cases h:Nat.beq n m with
 |true=>exact(cI (Fk h)).symm
 |false=>exact(de (Nat.ne_of_beq_eq_false h)).symm
namespace TM
variable {α:Type}
def qF4{β:Type}(x:β)(y z:Nat->β)(n:Nat) :
  (Nat.rec (motive:=λ_=>β) x (λm _=>Nat.rec (motive:=λ_=>β) (y (Nat.div m 2)) (λ_ _=>z (Nat.div m 2)) (Nat.mod m 2)) n:β)=if n=0 then x else if n % 2=1 then y (n / 2) else z (n / 2 - 1):=by
 cases n with
 |zero=>rfl
 |succ m =>
  show(Nat.rec (motive:=λ_=>β) (y (m / 2)) (λ_ _=>z (m / 2)) (m % 2):β)=_;rw[bA (Nat.succ_ne_zero m)]
  rcases Nat.mod_two_eq_zero_or_one m with h|h
  ·rw[h,bF bn,show(m+1) / 2=m / 2 by omega]; rfl
  ·rw[h,bA bn,show(m+1) / 2 - 1=m / 2 by omega]; rfl
def dZ(l:TM α)(v:Option α)(r:TM α)(n:Nat) :
  (TM.node l v r).get n=if n=0 then v else if n % 2=1 then l.get (n / 2) else r.get (n / 2 - 1) :=
 qF4 v l.get r.get n
def get_nil(n:Nat):(TM.nil:TM α).get n=none:=rfl
def qJv(a:α)(f n:Nat):new a (f+1) n =
  if n=0 then .node .nil (some a) .nil else if n % 2=1 then .node (new a f (n / 2)) none .nil else .node .nil none (new a f (n / 2 - 1)) :=
 qF4 (TM.node .nil (some a) .nil) (λk=>.node (new a f k) none .nil) (λk=>.node .nil none (new a f k)) n
def pn(a:α)(l:TM α)(v:Option α)(r:TM α)(n:Nat):set a (.node l v r) n =
  if n=0 then .node l (some a) r else if n % 2=1 then .node (set a l (n / 2)) v r else .node l v (set a r (n / 2 - 1)) :=
 qF4 (TM.node l (some a) r) (λk=>.node (set a l k) v r) (λk=>.node l v (set a r k)) n
def qUK(a:α):∀ (f n m:Nat),n+1<2 ^ f->(new a f n).get m=if n=m then some a else none:=by
 intro f
 induction f with
 |zero=>intro n m h; simp at h
 |succ f U =>
  intro n m h;rw[RG] at h;rw[qJv];by_cases h0:n=0
  ·subst h0;rw[bF rfl,dZ];by_cases hm:m=0
   ·subst hm; rfl
   ·rw[bA hm,bA (oC hm)]; split <;> rfl
  ·rw[bA h0];by_cases ho:n % 2=1
   ·rw[bF ho,dZ];by_cases hm:m=0
    ·subst hm; simp[h0]
    ·rw[bA hm];by_cases A:m % 2=1
     ·rw[bF A,U _ _ bn];by_cases M:n=m
      ·subst M; simp
      ·rw[bA bn,bA M]
     ·rw[bA A,bA bn]; rfl
   ·rw[bA ho,dZ];by_cases hm:m=0
    ·subst hm; simp[h0]
    ·rw[bA hm];by_cases A:m % 2=1
     ·rw[bF A,bA bn]; rfl
     ·rw[bA A,U _ _ bn];by_cases M:n=m
      ·subst M; simp
      ·rw[bA bn,bA M]
def qMV(f:Nat)(a:α):∀ n m x,(new a f n).get m=some x->n=m/\x=a:=by
 induction f with
 |zero=>intro n m x h; cases h
 |succ f M =>
  intro n m x h;rw[qJv] at h;by_cases h0:n=0
  ·subst h0;rw[bF rfl,dZ] at h;by_cases hm:m=0
   ·subst hm; simp at h; exact⟨rfl,h.symm⟩
   ·rw[bA hm] at h; split at h <;> cases h
  ·rw[bA h0] at h;by_cases ho:n % 2=1
   ·rw[bF ho,dZ] at h;by_cases hm:m=0
    ·subst hm; simp at h
    ·rw[bA hm] at h;by_cases A:m % 2=1
     ·rw[bF A] at h;have:=M _ _ _ h;exact⟨bn,this.2⟩
     ·rw[bA A] at h; cases h
   ·rw[bA ho,dZ] at h;by_cases hm:m=0
    ·subst hm; simp at h
    ·rw[bA hm] at h;by_cases A:m % 2=1
     ·rw[bF A] at h; cases h
     ·rw[bA A] at h;have:=M _ _ _ h;exact⟨bn,this.2⟩
def ez(a:α):∀ (t:TM α) (n m:Nat),n≠m->(set a t n).get m=t.get m:=by
 intro t
 induction t with
 |nil =>
  intro n m h;show(new a 20 n).get m=none;cases hg:(new a 20 n).get m with
  |none=>rfl
  |some x=>exact absurd (qMV _ _ _ _ _ hg).1 h
 |node l v r M U =>
  intro n m h;rw[pn,dZ];by_cases h0:n=0
  ·subst h0; rw[bF rfl,dZ,bA (oC h),bA (oC h)]
  ·rw[bA h0];by_cases ho:n % 2=1
   ·rw[bF ho,dZ];by_cases hm:m=0
    ·rw[bF hm,bF hm]
    ·rw[bA hm,bA hm];by_cases A:m % 2=1
     ·rw[bF A,bF A,M _ _ bn]
     ·rw[bA A,bA A]
   ·rw[bA ho,dZ];by_cases hm:m=0
    ·rw[bF hm,bF hm]
    ·rw[bA hm,bA hm];by_cases A:m % 2=1
     ·rw[bF A,bF A]
     ·rw[bA A,bA A,U _ _ bn]
def jq(a:α):∀ (t:TM α) (n:Nat) x,(set a t n).get n=some x->x=a:=by
 intro t
 induction t with
 |nil=>intro n x h; exact(qMV 20 a n n x h).2
 |node l v r A M =>
  intro n x h;rw[pn] at h;by_cases h0:n=0
  ·subst h0; rw[bF rfl,dZ,bF rfl] at h; exact(kr h).symm
  ·rw[bA h0] at h;by_cases ho:n % 2=1
   ·rw[bF ho,dZ,bA h0,bF ho] at h; exact A _ _ h
   ·rw[bA ho,dZ,bA h0,bA ho] at h; exact M _ _ h
def iE(a:α):∀ (t:TM α) (n:Nat),n+1<1048576->(set a t n).get n=some a:=by
 intro t
 induction t with
 |nil=>intro n h; show(new a 20 n).get n=_; rw[qUK a 20 n n bn,bF rfl]
 |node l v r A M =>
  intro n h;rw[pn];by_cases h0:n=0
  ·subst h0; rw[bF rfl,dZ,bF rfl]
  ·rw[bA h0];by_cases ho:n % 2=1
   ·rw[bF ho,dZ,bA h0,bF ho]; exact A _ bn
   ·rw[bA ho,dZ,bA h0,bA ho]; exact M _ bn
end TM
def cS{α β:Type}(R:α->β->Prop):List α->List β->Prop
 |[],[]=>True
 |a::as,b::A=>R a b/\cS R as A
 |_,_=>False
def cS.length{α β:Type}{R:α->β->Prop}:∀ {l:List α}{m:List β},cS R l m->l.length=m.length
 |[],[],_=>rfl
 |_::_,_::_,h=>by simp[cS.length h.2]
def cS.mono{α β:Type}{R R':α->β->Prop}(A:∀ a b,R a b->R' a b):∀ {l:List α}{m:List β},cS R l m->cS R' l m
 |[],[],_=>trivial
 |_::_,_::_,h=>⟨A _ _ h.1,cS.mono A h.2⟩
def cS.get{α β:Type}{R:α->β->Prop}:∀ {l:List α}{m:List β},cS R l m->∀ (i:Nat) a,l[i]?=some a->∃ b,m[i]?=some b/\R a b
 |_::_,_::_,h,0,a,e=>⟨_,rfl,by simp at e; exact e▸h.1⟩
 |_::_,_::_,h,i+1,a,e=>by simpa using cS.get h.2 i a (by simpa using e)
def cS.og{α β:Type}{R:α->β->Prop}:∀ {l:List α}{m:List β},l.length=m.length->(∀ (i:Nat) a b,l[i]?=some a->m[i]?=some b->R a b)->cS R l m
 |[],[],_,_=>trivial
 |_::_,_::_,hl,h=>⟨h 0 _ _ rfl rfl,cS.og (by simpa using hl) λi a b A hb=>h (i+1) a b (by simpa using A) (by simpa using hb)⟩
def cS.append{α β:Type}{R:α->β->Prop}:∀ {l:List α}{m:List β}{l':List α}{A:List β},cS R l m->cS R l' A->cS R (l++l') (m++A)
 |[],[],_,_,_,h=>h
 |_::_,_::_,_,_,h,h'=>⟨h.1,cS.append h.2 h'⟩
def cS.drop{α β:Type}{R:α->β->Prop}:∀ (n:Nat) {l:List α} {m:List β},cS R l m->cS R (l.drop n) (m.drop n)
 |0,_,_,h=>by simpa using h
 |n+1,[],[],_=>by simp[cS]
 |n+1,_::_,_::_,h=>by simpa using cS.drop n h.2
def cS.take{α β:Type}{R:α->β->Prop}:∀ (n:Nat) {l:List α} {m:List β},cS R l m->cS R (l.take n) (m.take n)
 |0,_,_,h=>by simp[cS]
 |n+1,[],[],_=>by simp[cS]
 |n+1,_::_,_::_,h=>by simpa using ⟨h.1,cS.take n h.2⟩
def cS.map{α β A M:Type}{R:α->β->Prop}{R':A->M->Prop}{f:α->A}{g:β->M}(U:∀ a b,R a b->R' (f a) (g b)):∀ {l:List α}{m:List β},cS R l m->cS R' (l.map f) (m.map g)
 |[],[],_=>trivial
 |_::_,_::_,h=>⟨U _ _ h.1,cS.map U h.2⟩
def cS.ur{α β A:Type}{R:α->β->Prop}{R':A->β->Prop}{f:α->A}(M:∀ a b,R a b->R' (f a) b):∀ {l:List α}{m:List β},cS R l m->cS R' (l.map f) m
 |[],[],_=>trivial
 |_::_,_::_,h=>⟨M _ _ h.1,cS.ur M h.2⟩
class Sym where
 num:Nat->Int
variable [Sym]
structure Loc where
 fg:Nat
 base:Nat
 B5:Nat
abbrev Env:=Ref->Option Loc
structure eK where
 cell:Nat->Nat->Option Value
 map:Nat->Option (Array MapEntry×Nat)
def eK.le(I J:eK):Prop:=(∀ b o v,I.cell b o=some v->J.cell b o=some v)/\(∀ b e,I.map b=some e->J.map b=some e)
def eK.le_refl(I:eK):I.le I:=⟨λ_ _ _ h=>h,λ_ _ h=>h⟩
def eK.le_trans{I J K:eK}(h:I.le J)(k:J.le K):I.le K:=⟨λb o v e=>k.1 b o v (h.1 b o v e),λb e x=>k.2 b e (h.2 b e x)⟩
def Env.le(ρ σ:Env):Prop:=∀ r l,ρ r=some l->σ r=some l
def Env.le_refl(ρ:Env):ρ.le ρ:=λ_ _ h=>h
def Env.le_trans{ρ σ τ:Env}(h:ρ.le σ)(k:σ.le τ):ρ.le τ:=λr l e=>k r l (h r l e)
def pX:Value->Bool
 |.agg _ | .tuple _=>false
 |_=>true
inductive eW (I:eK):bL->Value->Prop
 |bool (b:Bool):eW I (.bool b) (.bool b)
 |int (k:IntKind) (n:Int):eW I (.int k n) (.int k n)
 |sym (k:IntKind) (i:Nat) (off lo hi n:Int) (hn:n=Sym.num i+off) (hb:lo<=hi->lo<=n/\n<=hi):eW I (.sym k i off lo hi) (.int k n)
 |str (s:List UInt8) (b:ByteArray) (h:b.data.toList=s):eW I (.str s) (.string b)
 |mC:eW I .mC (.pointer none)
 |bq:eW I .bq (.slice none 0 0)
 |pw:eW I .pw (.map none)
 |kf:eW I .kf .nilFunc
 |ke:eW I .ke .nilIface
 |slice (sz:Nat) (tight:Bool) (rows:List (List bL)) (b o cap:Nat) (cv:Nat->Nat->Value)
   (ht:tight=true->cap=rows.length) (hc:rows.length<=cap) (hs:∀ (i:Nat) r,rows[i]?=some r->r.length=sz)
   (hI:∀ (i:Nat) r (k:Nat) v,rows[i]?=some r->r[k]?=some v->I.cell b (o+i*sz+k)=some (cv i k))
   (hv:∀ (i:Nat) r (k:Nat) v,rows[i]?=some r->r[k]?=some v->eW I v (cv i k)) :
   eW I (.slice sz tight rows) (.slice (some ⟨b,o,none⟩) rows.length cap)
 |emp (sz:Nat) (tight:Bool) (a:Addr) (cap:Nat) (ht:tight=true->cap=0):eW I (.slice sz tight []) (.slice (some a) 0 cap)
 |dc (row:List bL) (off:Nat) (b o:Nat) (cv:Nat->Value)
   (hI:∀ (k:Nat) v,row[k]?=some v->I.cell b (o+k)=some (cv k))
   (hv:∀ (k:Nat) v,row[k]?=some v->eW I v (cv k)) :
   eW I (.dc row off) (.pointer (some ⟨b,o+off,none⟩))
def eW.mono{I J:eK}(h:I.le J){p:bL}{v:Value}(hp:eW I p v):eW J p v:=by
 induction hp with
 |bool b=>exact .bool b
 |int k n=>exact .int k n
 |sym k i off lo hi n hn hb=>exact .sym k i off lo hi n hn hb
 |str s b e=>exact .str s b e
 |mC=>exact .mC
 |bq=>exact .bq
 |pw=>exact .pw
 |kf=>exact .kf
 |ke=>exact .ke
 |slice sz tight rows b o cap cv ht hc hs hI hv A=>exact .slice sz tight rows b o cap cv ht hc hs (λi r k v a e=>h.1 _ _ _ (hI i r k v a e)) A
 |emp sz tight a cap ht=>exact .emp sz tight a cap ht
 |dc row off b o cv hI hv A=>exact .dc row off b o cv (λk v e=>h.1 _ _ _ (hI k v e)) A
def eW.one{I:eK}{p:bL}{v:Value}(hp:eW I p v):pX v=true:=by cases hp <;> rfl
def qE(l:Loc):Value:=.pointer (some ⟨l.fg,l.base,none⟩)
inductive cD (ρ:Env) (I:eK):Cell->Value->Prop
 |p (x:bL) (v:Value) (h:eW I x v):cD ρ I (.p x) v
 |ptr (r:Ref) (off:Nat) (l:Loc) (h:ρ r=some l):cD ρ I (.ptr r off) (.pointer (some ⟨l.fg,l.base+off,none⟩))
 |cf (r:Ref) (off len:Nat) (cap:Option Nat) (sz cc:Nat) (l:Loc) (h:ρ r=some l) (hl:len<=cc) (ht:l.base+off+cc*sz<=l.B5)
   (hc:∀ c,cap=some c->cc=c):cD ρ I (.cf r off len cap sz) (.slice (some ⟨l.fg,l.base+off,none⟩) len cc)
 |func (f:FuncId) (dD:List Ref) (ls:List Loc) (h:cS (λr l=>ρ r=some l) dD ls):cD ρ I (.func f dD) (.func (.func f) #[] (ls.map qE).toArray)
 |gm (sz:Nat) (rows:List (List bL)) (r:Ref) (b o cap:Nat) (l:Loc) (hp:eW I (.slice sz false rows) (.slice (some ⟨b,o,none⟩) rows.length cap))
   (h:ρ r=some l) (hb:l.fg=b) (ho:o+rows.length*sz=l.base) (ht:o+cap*sz<=l.B5) :
   cD ρ I (.gm sz rows r) (.slice (some ⟨b,o,none⟩) rows.length cap)
 |jd (v:Value) (h:pX v=true):cD ρ I .jd v
def cD.mono{ρ σ:Env}{I J:eK}(A:ρ.le σ)(h:I.le J){c:Cell}{v:Value}(hc:cD ρ I c v):cD σ J c v:=by
 cases hc with
 |p x v hp=>exact .p x v (hp.mono h)
 |ptr r off l e=>exact .ptr r off l (A _ _ e)
 |cf r off len cap sz cc l e hl ht hc=>exact .cf r off len cap sz cc l (A _ _ e) hl ht hc
 |func f dD ls e=>exact .func f dD ls (e.mono λr l x=>A r l x)
 |gm sz rows r b o cap l hp e hb ho ht=>exact .gm sz rows r b o cap l (hp.mono h) (A _ _ e) hb ho ht
 |jd v e=>exact .jd v e
def cD.one{ρ:Env}{I:eK}{c:Cell}{v:Value}(hc:cD ρ I c v):pX v=true:=by
 cases hc with
 |p x v hp=>exact hp.one
 |jd v e=>exact e
 |_=>rfl
def dV(ρ:Env)(I:eK):cN->Value->Prop
 |.c x,v=>cD ρ I x v
 |.agg cs,v=>∃ arr:Array Value,v = .agg arr/\cS (cD ρ I) cs arr.toList
def fq(ρ:Env)(I:eK):bt->Value->Prop
 |.v x,v=>dV ρ I x v
 |.dq vs,v=>∃ arr:Array Value,v = .tuple arr/\cS (dV ρ I) vs arr.toList
def dV.mono{ρ σ:Env}{I J:eK}(A:ρ.le σ)(h:I.le J){c:cN}{v:Value}(hc:dV ρ I c v):dV σ J c v:=by
 cases c with
 |c x=>exact cD.mono A h hc
 |agg cs=>obtain⟨arr,e,M⟩:=hc; exact⟨arr,e,M.mono λ_ _=>cD.mono A h⟩
def fq.mono{ρ σ:Env}{I J:eK}(A:ρ.le σ)(h:I.le J){c:bt}{v:Value}(hc:fq ρ I c v):fq σ J c v:=by
 cases c with
 |v x=>exact dV.mono A h hc
 |dq vs=>obtain⟨arr,e,M⟩:=hc; exact⟨arr,e,M.mono λ_ _=>dV.mono A h⟩
def dV.cells{ρ:Env}{I:eK}{c:cN}{v:Value}(h:dV ρ I c v):cS (cD ρ I) c.cells v.cells.toList:=by
 cases c with
 |c x =>
  have h1:v.cells=#[v]:=by have:=cD.one h; cases v <;> first|rfl|cases this
  rw[h1]; exact⟨h,bB⟩
 |agg cs=>obtain⟨arr,rfl,A⟩:=h; exact A
def iH(ρ:Env)(I:eK)(w:World)(l:Loc):bG->Prop
 |.cells cs imm=>∃ arr elem lo hi,w.heap[l.fg]?=some (.cells arr elem (lo,hi))/\arr.size=l.B5/\l.base+cs.length<=l.B5 /\
   (∀ (k:Nat) c,cs[k]?=some c->∃ v,arr[l.base+k]?=some v/\cD ρ I c v)/\(∀ o,l.base+imm<=o->o<l.B5->¬ (lo<=o/\o<hi))
 |.gO s pos=>∃ b:ByteArray,w.heap[l.fg]?=some (.stringIter b pos)/\b.data.toList=s/\l.base=0
 |.dead=>True
def iz(l:Loc):bG->Nat
 |.cells _ imm=>l.base+imm
 |_=>0
structure eC (ρ:Env) (I:eK) (h:bm) (w:World):Prop where
 live:∀ r o,h.get r=some o->∃ l,ρ r=some l/\iH ρ I w l o
 inj:∀ r r' o o' l l',h.get r=some o->h.get r'=some o'->ρ r=some l->ρ r'=some l'->r≠r'->l.fg≠l'.fg
 gQ:∀ b o v,I.cell b o=some v->w.cell? ⟨b,o,none⟩=some v
 sd:∀ b arr c,I.map b=some (arr,c)->w.heap[b]?=some (.map arr c)
 apart:∀ r o l,h.get r=some o->ρ r=some l->∀ b k v,I.cell b k=some v->b=l.fg->k<iz l o
 jW:∀ r o l,h.get r=some o->ρ r=some l->I.map l.fg=none
 fresh:∀ d g l,ρ (.own d g)=some l->g<=h.gen d
 jf:∀ i l,ρ (.im i)=some l->i<h.bY.length
def owned(ρ:Env)(h:bm)(b:Nat):Prop:=∃ r o l,h.get r=some o/\ρ r=some l/\l.fg=b
structure qbj (S:Nat->Prop) (w w':World):Prop where
 os:w'.os=w.os
 tape:w'.tape=w.tape
 output:w'.output=w.output
 size:w.heap.size<=w'.heap.size
 block:∀ b,b<w.heap.size->¬ S b->w'.heap[b]?=w.heap[b]?
structure Good (ρ:Env) (I:eK) (h:bm) (w:World) (dL:Env) (I':eK) (h':bm) (w':World):Prop where
 env:ρ.le dL
 imm:I.le I'
 dY:qbj (owned ρ h) w w'
 own:∀ b,owned dL h' b->owned ρ h b\/w.heap.size<=b
 Cm:∀ b k v,I'.cell b k=some v->I.cell b k=some v\/owned ρ h b\/w.heap.size<=b
 Cl:∀ b v,I'.map b=some v->I.map b=some v\/owned ρ h b\/w.heap.size<=b
def Good.refl(ρ:Env)(I:eK)(h:bm)(w:World):Good ρ I h w ρ I h w :=
 ⟨Env.le_refl _,eK.le_refl _,⟨rfl,rfl,rfl,cB _,λ_ _ _=>rfl⟩,λ_ h=>.inl h,λ_ _ _ h=>.inl h,λ_ _ h=>.inl h⟩
def Good.trans{ρ:Env}{I:eK}{h:bm}{w:World}{dL:Env}{I':eK}{h':bm}{w':World}{M:Env}{U:eK}{aa:bm}{ab:World}
  (a:Good ρ I h w dL I' h' w') (b:Good dL I' h' w' M U aa ab):Good ρ I h w M U aa ab where
 env:=Env.le_trans a.env b.env
 imm:=eK.le_trans a.imm b.imm
 dY:=⟨b.dY.os.trans a.dY.os,b.dY.tape.trans a.dY.tape,b.dY.output.trans a.dY.output,qa a.dY.size b.dY.size,
  λk A hn=>(b.dY.block k (Fw A a.dY.size) λho=>(a.own k ho).elim hn λhle=>absurd A bn).trans (a.dY.block k A hn)⟩
 own:=λk A=>(b.own k A).elim (a.own k) λhle=>.inr (qa a.dY.size hle)
 Cm:=λk j v A=>(b.Cm k j v A).elim (a.Cm k j v) λA=>.inr (A.elim (a.own k) λhle=>.inr (qa a.dY.size hle))
 Cl:=λk v A=>(b.Cl k v A).elim (a.Cl k v) λA=>.inr (A.elim (a.own k) λhle=>.inr (qa a.dY.size hle))
structure nr (nt:Nat) (ρ:Env) (I:eK) (st:St) (a:Act) (w:World):Prop where
 heap:eC ρ I st.h w
 tm:∀ t v,st.tm.get t=some v->fq ρ I v (a.tmps.getD t undef)
 size:a.tmps.size=nt
 defers:a.defers=[]
end Go.AI
namespace Go.AI
variable [Sym]
def bm.Bk(h:bm)(d g:Nat)(o:bG)(hd:d+1<1048576):({ h with cW:=h.cW.set (g,o) d }:bm).gen d=g:=by
 unfold bm.gen; simp only[TM.iE _ _ _ hd]
def bm.si(h:bm)(d g e:Nat)(o:bG)(hd:d≠e):({ h with cW:=h.cW.set (g,o) d }:bm).gen e=h.gen e:=by
 unfold bm.gen; simp only[TM.ez _ _ _ _ hd]
def bm.sV(h:bm)(d g:Nat)(o:bG)(r:Ref)(x:bG)
  (hx:({ h with cW:=h.cW.set (g,o) d }:bm).get r=some x):(r = .own d g/\x=o)\/((∀ U,r ≠ .own d U)/\h.get r=some x):=by
 cases r with
 |im i=>exact .inr ⟨(λ_ e=>by cases e),hx⟩
 |own e U =>
  by_cases A:d=e
  ·subst A;refine .inl ?_;unfold bm.get at hx;simp only at hx;cases hg:TM.get (h.cW.set (g,o) d) d with
   |none=>rw[hg] at hx; cases hx
   |some p =>
    have hp:=TM.jq _ _ _ _ hg;subst hp;rw[hg] at hx;simp only[pN] at hx;by_cases M:U=g
    ·subst M;simp only[rT,iv] at hx;cases o <;> simp_all
    ·rw[de M] at hx; cases hx
  ·refine .inr ⟨λaa e'=>by cases e'; exact A rfl,?_⟩;unfold bm.get at hx ⊢;simp only[TM.ez _ _ _ _ A] at hx;exact hx
def bm.DY(h:bm)(o:bG)(r:Ref)(x:bG)
  (hx:({ h with bY:=h.bY++[o] }:bm).get r=some x):(r = .im h.bY.length/\x=o)\/(r ≠ .im h.bY.length/\h.get r=some x):=by
 cases r with
 |own e g=>exact .inr ⟨(by intro e; cases e),hx⟩
 |im i =>
  unfold bm.get at hx;simp only at hx;by_cases hi:i<h.bY.length
  ·rw[j5 hi] at hx;exact .inr ⟨λe=>by cases e; omega,hx⟩
  ·by_cases he:i=h.bY.length
   ·subst he;rw[kz (cB _)] at hx;simp only[rS,vk] at hx;refine .inl ⟨rfl,?_⟩;cases o <;> simp_all
   ·rw[ky cM] at hx;cases hx
def bm.lk{h:bm}{r:Ref}{x:bG}(hx:h.get r=some x):x ≠ .dead:=by
 intro e;subst e;cases r with
 |im i =>
  unfold bm.get at hx;simp only at hx;split at hx
  ·cases hx
  ·rename_i h1; exact h1 hx
 |own d g =>
  unfold bm.get at hx;simp only at hx;split at hx
  ·rename_i A o h1;cases hb:Nat.beq g A <;> rw[hb] at hx
   ·cases hx
   ·simp only[iv] at hx; split at hx
    ·cases hx
    ·rename_i M; simp at hx; exact M hx
  ·cases hx
def bm.je{h:bm}{d g:Nat}{x:bG}(hx:h.get (.own d g)=some x):h.gen d=g/\h.cW.get d=some (g,x):=by
 unfold bm.get at hx;unfold bm.gen;simp only at hx;cases M:h.cW.get d with
 |none=>rw[M] at hx; cases hx
 |some p =>
  obtain⟨U,o⟩:=p;rw[M] at hx;simp only[pN] at hx;by_cases A:g=U
  ·subst A;simp only[rT,iv] at hx;refine⟨rfl,?_⟩;cases o <;> simp_all
  ·rw[de A] at hx; cases hx
def bm.pQ(h:bm)(r:Ref)(o:bG)(r':Ref)(x:bG)(hx:(h.put r o).get r'=some x) :
  (r'=r/\x=o)\/(r'≠r/\h.get r'=some x):=by
 cases r with
 |own d g =>
  rcases bm.sV h d g o r' x hx with ⟨a,b⟩|⟨a,b⟩
  ·exact .inl ⟨a,b⟩
  ·exact .inr ⟨a g,b⟩
 |im i =>
  cases r' with
  |own e g=>exact .inr ⟨(by intro e; cases e),hx⟩
  |im j =>
   unfold bm.put bm.get at hx;simp only at hx;by_cases A:i=j
   ·subst A;refine .inl ⟨rfl,?_⟩;by_cases hl:i<h.bY.length
    ·rw[BO hl] at hx; cases o <;> simp_all
    ·rw[ky cM] at hx; cases hx
   ·rw[Lu A] at hx;exact .inr ⟨λe=>by cases e; exact A rfl,hx⟩
def bm.ry{h:bm}{r:Ref}{x:bG}(hx:h.get r=some x)(o:bG)(d:Nat):h.gen d<=(h.put r o).gen d:=by
 cases r with
 |im i=>exact cB _
 |own e g =>
  by_cases M:e=d
  ·subst M;have:=(bm.je hx);unfold bm.put;simp only;unfold bm.gen;cases hg:(TM.set (g,o) h.cW e).get e with
   |none =>
    exfalso
    -- ab is there stays there
    have A:∀ (t:TM (Nat×bG)) (n:Nat) a,(t.get n).isSome=true->((TM.set a t n).get n).isSome=true:=by
     intro t
     induction t with
     |nil=>intro n a h; cases h
     |node l v r U aa =>
      intro n a h;rw[TM.pn];rw[TM.dZ] at h;by_cases h0:n=0
      ·subst h0; simp[TM.dZ]
      ·rw[bA h0] at h ⊢;by_cases ho:n % 2=1
       ·rw[bF ho] at h ⊢; rw[TM.dZ,bA h0,bF ho]; exact U _ _ h
       ·rw[bA ho] at h ⊢; rw[TM.dZ,bA h0,bA ho]; exact aa _ _ h
    have:=A h.cW e (g,o) (by rw[this.2]; rfl);rw[hg] at this;cases this
   |some p =>
    have hp:=TM.jq _ _ _ _ hg;subst hp;rw[this.2];exact cB _
  ·unfold bm.put;simp only;rw[bm.si _ _ _ _ _ M];exact cB _
def bm.mV(h:bm)(r:Ref)(o:bG):(h.put r o).bY.length=h.bY.length:=by
 cases r <;> simp[bm.put]
def iH.rl{ρ:Env}{I:eK}{w w':World}{l:Loc}{o:bG}(h:w'.heap[l.fg]?=w.heap[l.fg]?)(ho:iH ρ I w l o):iH ρ I w' l o:=by
 cases o <;> simp only[iH,h] at * <;> exact ho
def iH.mono{ρ σ:Env}{I J:eK}(A:ρ.le σ)(hI:I.le J){w:World}{l:Loc}{o:bG}(ho:iH ρ I w l o):iH σ J w l o:=by
 cases o with
 |cells cs imm =>
  obtain⟨arr,elem,lo,hi,h1,M,U,h4,h5⟩:=ho;exact⟨arr,elem,lo,hi,h1,M,U,λk c hk=>let ⟨v,a,b⟩:=h4 k c hk; ⟨v,a,b.mono A hI⟩,h5⟩
 |gO s pos=>exact ho
 |dead=>trivial
def iH.lt{ρ:Env}{I:eK}{w:World}{l:Loc}{o:bG}(hd:o ≠ .dead)(ho:iH ρ I w l o):l.fg<w.heap.size:=by
 have:∃ x,w.heap[l.fg]?=some x:=by
  cases o with
  |cells cs imm=>obtain⟨arr,elem,lo,hi,h1,_⟩:=ho; exact⟨_,h1⟩
  |gO s pos=>obtain⟨b,h1,_⟩:=ho; exact⟨_,h1⟩
  |dead=>exact absurd rfl hd
 obtain⟨x,hx⟩:=this;exact(vd.1 hx).1
def qDO{w w':World}{b o:Nat}(h:w'.heap[b]?=w.heap[b]?):w'.cell? ⟨b,o,none⟩=w.cell? ⟨b,o,none⟩:=by simp[World.cell?,h]
def Se{w:World}{b o:Nat}{v:Value}(h:w.cell? ⟨b,o,none⟩=some v):b<w.heap.size:=World.block_lt_of_cell? w ⟨b,o,none⟩ h
def eC.lt{ρ:Env}{I:eK}{h:bm}{w:World}(H:eC ρ I h w){r:Ref}{o:bG}{l:Loc}(A:h.get r=some o)(hl:ρ r=some l):l.fg<w.heap.size:=by
 obtain⟨l',e,ho⟩:=H.live r o A;rw[hl] at e;cases e;exact ho.lt (bm.lk A)
def eC.same{ρ:Env}{I:eK}{h:bm}{w w':World}(H:eC ρ I h w)(hw:w'.heap=w.heap):eC ρ I h w' where
 live r o A:=let ⟨l,a,b⟩:=H.live r o A; ⟨l,a,b.rl (by rw[hw])⟩
 inj:=H.inj
 gQ b o v e:=(qDO (by rw[hw])).trans (H.gQ b o v e)
 sd b arr c e:=by rw[hw]; exact H.sd b arr c e
 apart:=H.apart
 jW:=H.jW
 fresh:=H.fresh
 jf:=H.jf
def eC.one{ρ:Env}{I:eK}{h:bm}{w:World}(H:eC ρ I h w){dL:Env}{I':eK}{h':bm}{w':World}(r0:Ref)(obj:bG)(l0:Loc)
  (hw:∀ b,b≠l0.fg->w'.heap[b]?=w.heap[b]?)
  (U:dL r0=some l0) (M:∀ r,r≠r0->dL r=ρ r) (hle:ρ.le dL)
  (A:∀ r o,h'.get r=some o->(r=r0/\o=obj)\/(r≠r0/\h.get r=some o))
  (ab:∀ r o l,r≠r0->h'.get r=some o->ρ r=some l->l.fg≠l0.fg)
  (hI:I.le I') (ag:∀ b k v,I'.cell b k=some v->b≠l0.fg->I.cell b k=some v)
  (ah:∀ k v,I'.cell l0.fg k=some v->k<iz l0 obj/\w'.cell? ⟨l0.fg,k,none⟩=some v)
  (ai:I'.map=I.map) (af:I.map l0.fg=none)
  (aj:iH dL I' w' l0 obj)
  (ak:∀ d,h.gen d<=h'.gen d) (al:h.bY.length<=h'.bY.length)
  (hf:∀ d g,r0 = .own d g->g<=h'.gen d) (an:∀ i,r0 = .im i->i<h'.bY.length):eC dL I' h' w' where
 live r o hr:=by
  rcases A r o hr with ⟨rfl,rfl⟩|⟨ae,aa⟩
  ·exact⟨l0,U,aj⟩
  ·obtain⟨l,a,b⟩:=H.live r o aa;exact⟨l,(M r ae).trans a,(b.mono hle hI).rl (hw _ (ab r o l ae hr a))⟩
 inj r r' o o' l l' hr aa hl ad ae:=by
  by_cases h1:r=r0
  ·subst h1;have h2:r'≠r:=oC ae;rw[U] at hl;cases hl;rw[M r' h2] at ad;exact(ab r' o' l' h2 aa ad).symm
  ·by_cases h2:r'=r0
   ·subst h2;rw[U] at ad;cases ad;rw[M r h1] at hl;exact ab r o l h1 hr hl
   ·rw[M r h1] at hl;rw[M r' h2] at ad
    rcases A r o hr with ⟨a,_⟩|⟨_,ao⟩
    ·exact absurd a h1
    ·rcases A r' o' aa with ⟨a,_⟩|⟨_,aq⟩
     ·exact absurd a h2
     ·exact H.inj r r' o o' l l' ao aq hl ad ae
 gQ b o v e:=by
  by_cases hb:b=l0.fg
  ·subst hb; exact(ah o v e).2
  ·exact(qDO (hw b hb)).trans (H.gQ b o v (ag b o v e hb))
 sd b arr c e:=by
  rw[ai] at e;have hb:b≠l0.fg:=λx=>by subst x; rw[af] at e; cases e
  rw[hw b hb];exact H.sd b arr c e
 apart r o l hr hl b k v hv hb:=by
  by_cases h1:r=r0
  ·subst h1;rw[U] at hl;cases hl
   rcases A r o hr with ⟨_,rfl⟩|⟨a,_⟩
   ·subst hb; exact(ah k v hv).1
   ·exact absurd rfl a
  ·rw[M r h1] at hl
   rcases A r o hr with ⟨a,_⟩|⟨_,aa⟩
   ·exact absurd a h1
   ·exact H.apart r o l aa hl b k v (ag b k v hv (by rw[hb]; exact ab r o l h1 hr hl)) hb
 jW r o l hr hl:=by
  rw[ai];by_cases h1:r=r0
  ·subst h1; rw[U] at hl; cases hl; exact af
  ·rw[M r h1] at hl
   rcases A r o hr with ⟨a,_⟩|⟨_,aa⟩
   ·exact absurd a h1
   ·exact H.jW r o l aa hl
 fresh d g l e:=by
  by_cases h1:Ref.own d g=r0
  ·exact hf d g h1.symm
  ·rw[M _ h1] at e; exact qa (H.fresh d g l e) (ak d)
 jf i l e:=by
  by_cases h1:Ref.im i=r0
  ·exact an i h1.symm
  ·rw[M _ h1] at e; exact Fw (H.jf i l e) al
end Go.AI
namespace Go.AI
variable [Sym]
def nv(G:Nat->Option (List bL))(I:eK):Prop :=
 ∀ g row,G g=some row->∃ cv:Nat->Value,∀ (k:Nat) v,row[k]?=some v->I.cell g k=some (cv k)/\eW I v (cv k)
def nv.mono{G:Nat->Option (List bL)}{I J:eK}(h:I.le J)(A:nv G I):nv G J:=λg row e =>
 let ⟨cv,hc⟩:=A g row e
 ⟨cv,λk v hv=>⟨h.1 _ _ _ (hc k v hv).1,(hc k v hv).2.mono h⟩⟩
def fy(ρ:Env)(I:eK)(h:bm)(w:World)(r:Result Next)(v:bt)(h':bm):Prop :=
 ∃ w' dL I',((∃ cv,r = .ok (.value cv) w'/\fq dL I' v cv)\/(r = .ok .skip w'/\v = .undef))/\eC dL I' h' w'/\Good ρ I h w dL I' h' w'
def fy.pure{ρ:Env}{I:eK}{h:bm}{w:World}(H:eC ρ I h w){r:Result Next}{v:bt}{cv:Value}(A:r = .ok (.value cv) w)(hv:fq ρ I v cv):fy ρ I h w r v h :=
 ⟨w,ρ,I,.inl ⟨cv,A,hv⟩,H,Good.refl _ _ _ _⟩
def qFY{v A:bt}{d:Nat}{h h':bm}{t:Touch}(e:fN [] (λ_=>some ⟨λ_=>v,[],none,false⟩) d h=some (A,h',t)):A=v/\h'=h:=by
 simp[fN] at e; exact⟨e.1.symm,e.2.1.symm⟩
def qIH{I:eK}{v:Value}{p:bL}(h:sC v=some p):eW I p v:=by
 unfold sC at h;split at h <;> simp at h <;> subst h
 ·exact .bool _
 ·exact .int _ _
 ·exact .str _ _ rfl
 ·exact .mC
 ·exact .bq
 ·exact .pw
 ·exact .kf
 ·exact .ke
def qQa{α β:Type}{f:α->Option β}{R:β->α->Prop}(M:∀ a b,f a=some b->R b a):∀ {l:List α}{m:List β},l.mapM f=some m->cS R m l:=by
 intro l
 induction l with
 |nil=>intro m h; simp at h; subst h; trivial
 |cons a l U =>
  intro m h;simp only[ek,rL,rK] at h;obtain⟨b,hb,bs,A,e⟩:=h;simp at e; subst e;exact⟨M a b hb,U A⟩
def OD{ρ:Env}{I:eK}{v:Value}{c:cN}(h:qJ v=some c):dV ρ I c v:=by
 unfold qJ at h;split at h
 ·rename_i cs;cases hm:cs.toList.mapM sC with
  |none=>rw[hm] at h; cases h
  |some l =>
   rw[hm] at h; simp at h; subst h;refine⟨cs,rfl,?_⟩;have:=qQa (R:=λp v=>eW I p v) (λa b e=>qIH e) hm;exact this.ur λp v e=>cD.p p v e
 ·cases hp:sC v with
  |none=>rw[hp] at h; cases h
  |some p=>rw[hp] at h; simp at h; subst h; exact cD.p _ _ (qIH hp)
def qOW{ρ:Env}{I:eK}{v:Value}{t:bt}(h:wT v=some t):fq ρ I t v:=by
 unfold wT at h;split at h
 ·simp at h; subst h; exact⟨#[],rfl,bB⟩
 ·cases hc:qJ v with
  |none=>rw[hc] at h; cases h
  |some c=>rw[hc] at h; simp at h; subst h; exact OD hc
section
variable {P:Program} {G:Nat->Option (List bL)} {ρ:Env} {I:eK} {tm:TM bt} {a:Act}
def qWU(hG:nv G I)(A:∀ t v,tm.get t=some v->fq ρ I v (a.tmps.getD t undef)){x:Operand}{U:X}(hx:cG G x=some U){v:bt}(hv:U.ev tm=some v) :
  fq ρ I v (a.eval x):=by
 cases x with
 |tmp t=>simp[cG] at hx; subst hx; exact A t v hv
 |const c =>
  cases hc:wT c with
  |none=>simp[cG,hc] at hx
  |some t=>simp[cG,hc] at hx; subst hx; simp[X.ev] at hv; subst hv; exact qOW hc
 |global g =>
  cases M:G g with
  |none=>simp[cG,M] at hx
  |some row =>
   simp[cG,M] at hx; subst hx; simp[X.ev] at hv; subst hv;obtain⟨cv,hc⟩:=hG g row M;show cD ρ I (.p (.dc row 0)) _;refine .p _ _ ?_;have:=eW.dc (I:=I) row 0 g 0 cv (λk v hv=>by simpa using (hc k v hv).1) (λk v hv=>(hc k v hv).2)
   simpa [Act.eval] using this
 |func f =>
  simp[cG] at hx; subst hx; simp[X.ev] at hv; subst hv;show cD ρ I (.func f []) _;exact cD.func f [] [] trivial
end
def qEB:∀ (a b:List UInt8),Op.bytesLess a b=cX a b
 |_,[]=>by cases ‹List UInt8› <;> rfl
 |[],_::_=>rfl
 |a::x,b::y=>by simp[Op.bytesLess,cX,qEB x y]
def qMG(b:ByteArray):b.toList=b.data.toList:=by
 exact ByteArray.toList_eq b
def qHy{ρ:Env}{I:eK}{op:BinOp}{k:IntKind}{x y:Int}{p:bL}(h:iD op k x y=some p)(P:Program)(w:World)(t:TypeId) :
  ∃ cv,(binOp op t (.int k x) (.int k y)).run P w = .ok cv w/\cD ρ I (.p p) cv:=by
 unfold iD at h;cases op <;> simp only at h
 case quo =>
  split at h
  ·cases h
  ·rename_i A; cases h; exact⟨_,by simp[binOp,Op.intDiv,A],.p _ _ (.int _ _)⟩
 case rem =>
  split at h
  ·cases h
  ·rename_i A; cases h; exact⟨_,by simp[binOp,Op.intDiv,A],.p _ _ (.int _ _)⟩
 case shl=>cases h
 case shr=>cases h
 all_goals
  cases h
  first
   |exact⟨_,by simp only[binOp,ne_eq,not_true_eq_false,fC]; rfl,.p _ _ (.int _ _)⟩
   |exact⟨_,by simp only[binOp,ne_eq,not_true_eq_false,fC]; rfl,.p _ _ (.bool _)⟩
def qKL{ρ:Env}{I:eK}{op:BinOp}{k k':IntKind}{x y:Int}{p:bL}(h:nF op k x y=some p)(P:Program)(w:World)(t:TypeId) :
  ∃ cv,(binOp op t (.int k x) (.int k' y)).run P w = .ok cv w/\cD ρ I (.p p) cv:=by
 unfold nF at h;split at h
 ·cases h
 ·rename_i A;cases op <;> simp only at h <;> cases h
  ·exact⟨_,by simp[binOp,Op.shift,A],.p _ _ (.int _ _)⟩
  ·exact⟨_,by simp[binOp,Op.shift,A],.p _ _ (.int _ _)⟩
def qNy{ρ:Env}{I:eK}{op:BinOp}{x y:ByteArray}{p:bL}(h:ix op x.data.toList y.data.toList=some p)(P:Program)(w:World)(t:TypeId) :
  ∃ cv,(binOp op t (.string x) (.string y)).run P w = .ok cv w/\cD ρ I (.p p) cv:=by
 unfold ix at h;cases op <;> simp only at h
 case add =>
  split at h
  ·rename_i hl;cases h;refine⟨.string (x++y),?_,.p _ _ (.str _ _ bR)⟩;have h1:¬ ((x.size+y.size:Nat):Int)>IntKind.i64.max:=by
    have A:x.data.toList.length=x.size:=bR
    have M:y.data.toList.length=y.size:=bR
    have:IntKind.i64.max=9223372036854775807:=bu
    rw[this]; omega
   simp only[binOp,Op.stringOp];rw[bA h1]; rfl
  ·cases h
 all_goals first|(cases h; done)|skip
 all_goals
  cases h;refine⟨_,by simp only[binOp,Op.stringOp,qMG,qEB]; rfl,.p _ _ (.bool _)⟩
def qFO{ρ:Env}{I:eK}{c:Cell}{v:Value}(h:cD ρ I c v)(b:Bool)(hb:isNil c=some b) :
  (kg c=1/\∃ a:Option Addr,v = .pointer a/\b=a.isNone)\/(kg c=2/\∃ (a:Option Addr) (n k:Nat),v = .slice a n k/\b=a.isNone) \/
  (kg c=3/\∃ a:Option Nat,v = .map a/\b=a.isNone)\/(kg c=4/\((v = .nilFunc/\b=true)\/(∃ f x y,v = .func f x y/\b=false))):=by
 cases h with
 |p x v hp=>cases hp <;> simp_all [isNil,kg]
 |ptr r off l e=>simp_all [isNil,kg]
 |cf r off len cap sz cc l e hl ht hc=>simp_all [isNil,kg]
 |func f dD ls e=>simp_all [isNil,kg]
 |gm sz rows r b o cap l hp e hb ho ht=>simp_all [isNil,kg]
 |jd v e=>simp[isNil] at hb
def Vr(P:Program)(t:TypeId)(A:Array Field)(n:Nat)(h:qt P t A=n):n=0\/8<=n:=by
 unfold qt at h;split at h
 ·split at h
  ·exact .inr bn
  ·exact .inl h.symm
 ·exact .inl h.symm
def qNs{P:Program}{t:TypeId}(h:kindOf P t=1):∃ e,P.underlying t=some (.pointer e):=by
 unfold kindOf at h; split at h <;> first|(cases h; done)|(have:=Vr _ _ _ _ h; omega)|exact⟨_,‹_›⟩
def qKN{P:Program}{t:TypeId}(h:kindOf P t=2):∃ e,P.underlying t=some (.slice e):=by
 unfold kindOf at h; split at h <;> first|(cases h; done)|(have:=Vr _ _ _ _ h; omega)|exact⟨_,‹_›⟩
def qOP{P:Program}{t:TypeId}(h:kindOf P t=3):∃ e f,P.underlying t=some (.map e f):=by
 unfold kindOf at h; split at h <;> first|(cases h; done)|(have:=Vr _ _ _ _ h; omega)|exact⟨_,_,‹_›⟩
def qLk{P:Program}{t:TypeId}(h:kindOf P t=4):∃ e f g,P.underlying t=some (.func e f g):=by
 unfold kindOf at h; split at h <;> first|(cases h; done)|(have:=Vr _ _ _ _ h; omega)|exact⟨_,_,_,‹_›⟩
def qL3{P:Program}{t:TypeId}(h:kindOf P t=5):P.underlying t=some .bool:=by
 unfold kindOf at h; split at h <;> first|(cases h; done)|(have:=Vr _ _ _ _ h; omega)|assumption
def qQT{P:Program}{t e:TypeId}(h:P.underlying t=some (.pointer e))(a b:Option Addr)(A:a=none\/b=none)(w:World) :
  (Op.equal t (.pointer a) (.pointer b)).run P w = .ok (a.isNone&&b.isNone) w:=by
 obtain⟨d,hd⟩:∃ d,Op.maxDepth=d+1:=⟨9999,rfl⟩;unfold Op.equal; rw[hd];cases a <;> cases b <;> simp[Op.equalIn,run_underlying h] <;> simp at A
def qLr{P:Program}{t e:TypeId}(h:P.underlying t=some (.slice e))(a b:Option Addr)(n k m l:Nat)(A:a=none\/b=none)(w:World) :
  (Op.equal t (.slice a n k) (.slice b m l)).run P w = .ok (a.isNone&&b.isNone) w:=by
 obtain⟨d,hd⟩:∃ d,Op.maxDepth=d+1:=⟨9999,rfl⟩;unfold Op.equal; rw[hd];cases a <;> cases b <;> simp[Op.equalIn,run_underlying h] <;> simp at A
def qPm{P:Program}{t e f:TypeId}(h:P.underlying t=some (.map e f))(a b:Option Nat)(A:a=none\/b=none)(w:World) :
  (Op.equal t (.map a) (.map b)).run P w = .ok (a.isNone&&b.isNone) w:=by
 obtain⟨d,hd⟩:∃ d,Op.maxDepth=d+1:=⟨9999,rfl⟩;unfold Op.equal; rw[hd];cases a <;> cases b <;> simp[Op.equalIn,run_underlying h] <;> simp at A
def qOs{P:Program}{t:TypeId}{e f g}(h:P.underlying t=some (.func e f g))(x y:Value)(A b':Bool)
  (hx:(x = .nilFunc/\A=true)\/(∃ f c d,x = .func f c d/\A=false)) (U:(y = .nilFunc/\b'=true)\/(∃ f c d,y = .func f c d/\b'=false)) (M:A=true\/b'=true) (w:World) :
  (Op.equal t x y).run P w = .ok (A&&b') w:=by
 obtain⟨d,hd⟩:∃ d,Op.maxDepth=d+1:=⟨9999,rfl⟩;unfold Op.equal; rw[hd]
 rcases hx with ⟨rfl,rfl⟩|⟨_,_,_,rfl,rfl⟩ <;> rcases U with ⟨rfl,rfl⟩|⟨_,_,_,rfl,rfl⟩ <;> simp[Op.equalIn,run_underlying h] <;> simp at M
def qH4{P:Program}{t:TypeId}(h:P.underlying t=some .bool)(a b:Bool)(w:World) :
  (Op.equal t (.bool a) (.bool b)).run P w = .ok (a==b) w:=by
 obtain⟨d,hd⟩:∃ d,Op.maxDepth=d+1:=⟨9999,rfl⟩;unfold Op.equal; rw[hd];simp[Op.equalIn,run_underlying h]
def Ss{P:Program}{t:TypeId}{x y:Value}{b:Bool}{w:World}(h:(Op.equal t x y).run P w = .ok b w)
  (A:∀ op,op = .eql\/op = .neq->binOp op t x y=(if op = .eql then (Op.equal t x y).bind (λb=>.pure (.bool b)) else (Op.equal t x y).bind (λb=>.pure (.bool (!b))))) :
  (binOp .eql t x y).run P w = .ok (.bool b) w/\(binOp .neq t x y).run P w = .ok (.bool (!b)) w:=by
 have M:=A .eql (.inl rfl);have U:=A .neq (.inr rfl);rw[bF rfl] at M;rw[bA bu] at U;rw[M,U];constructor
 ·rw[Sem.run_bind',h]; rfl
 ·rw[Sem.run_bind',h]; rfl
def qJL{ρ:Env}{I:eK}{P:Program}{t:TypeId}{x y:Cell}{A vy:Value}{b:Bool}(hx:cD ρ I x A)(hy:cD ρ I y vy)(h:wm (kindOf P t) x y=some b)(w:World) :
  ((binOp .eql t A vy).run P w = .ok (.bool b) w/\(binOp .neq t A vy).run P w = .ok (.bool (!b)) w)/\pX A=true/\A ≠ .nilIface:=by
 unfold wm at h;split at h
 ·rename_i hk;have main:∀ bx by',isNil x=some bx->isNil y=some by'->(bx=true\/by'=true)->b=(bx&&by') ->
    ((binOp .eql t A vy).run P w = .ok (.bool b) w/\(binOp .neq t A vy).run P w = .ok (.bool (!b)) w)/\pX A=true/\A ≠ .nilIface:=by
   intro bx by' h1 h2 h3 h4;subst h4
   rcases qFO hx bx h1 with ⟨k1,a1,M,b1⟩|⟨k1,a1,n1,c1,M,b1⟩|⟨k1,a1,M,b1⟩|⟨k1,M⟩ <;>
   rcases qFO hy by' h2 with ⟨k2,a2,U,b2⟩|⟨k2,a2,n2,c2,U,b2⟩|⟨k2,a2,U,b2⟩|⟨k2,U⟩ <;>
   first
    |(exfalso; omega)
    |skip
   ·obtain⟨e,he⟩:=qNs (hk.1.symm.trans k1);subst M U b1 b2;exact⟨Ss (qQT he a1 a2 (by simpa using h3) w) (λop ho=>by rcases ho with rfl|rfl <;> rfl),rfl,bR⟩
   ·obtain⟨e,he⟩:=qKN (hk.1.symm.trans k1);subst M U b1 b2;exact⟨Ss (qLr he a1 a2 _ _ _ _ (by simpa using h3) w) (λop ho=>by rcases ho with rfl|rfl <;> rfl),rfl,bR⟩
   ·obtain⟨e,f,he⟩:=qOP (hk.1.symm.trans k1);subst M U b1 b2;exact⟨Ss (qPm he a1 a2 (by simpa using h3) w) (λop ho=>by rcases ho with rfl|rfl <;> rfl),rfl,bR⟩
   ·obtain⟨e,f,g,he⟩:=qLk (hk.1.symm.trans k1);have hr:=qOs he A vy bx by' M U h3 w
    rcases M with ⟨rfl,rfl⟩|⟨f1,x1,y1,rfl,rfl⟩ <;> rcases U with ⟨rfl,rfl⟩|⟨f2,x2,y2,rfl,rfl⟩ <;>
     exact⟨Ss hr (λop ho=>by rcases ho with rfl|rfl <;> rfl),rfl,bR⟩
  split at h
  ·rename_i h1 h2; cases h; exact main _ _ h1 h2 (.inl rfl) bR
  ·rename_i h1 h2; cases h; exact main _ _ h1 h2 (.inr rfl) bR
  ·cases h
 ·cases h
def qJm(P:Program)(w:World)(op:BinOp)(t:TypeId)(x y:Operand)(a b:Value)(A:pX a=true)(hn:a ≠ .nilIface):(eqGuard op t x y a b).run P w = .ok () w:=by
 unfold eqGuard;cases op <;> simp
 all_goals (cases a <;> simp_all [pX])
def qN3{ρ:Env}{I:eK}{op:BinOp}{k k':IntKind}{i:Nat}{off lo hi b n:Int}{c:Cell}(hn:n=Sym.num i+off)(hb:lo<=hi->lo<=n/\n<=hi)(h:Dv op k i off lo hi k' b=some c) :
  k=k'/\∃ p,iD op k n b=some p/\∀ cv,cD ρ I (.p p) cv->cD ρ I c cv:=by cases h
def qST{ρ:Env}{I:eK}{P:Program}{t:TypeId}{op:BinOp}{x y c:Cell}{M U:Value}(hx:cD ρ I x M)(hy:cD ρ I y U)(h:pB op (kindOf P t) x y=some c)(w:World)(X Y:Operand) :
  ∃ cv,(do eqGuard op t X Y M U; binOp op t M U:Sem Value).run P w = .ok cv w/\cD ρ I c cv:=by
 have step:∀ cv,pX M=true->M ≠ .nilIface->(binOp op t M U).run P w = .ok cv w->(do eqGuard op t X Y M U; binOp op t M U:Sem Value).run P w = .ok cv w:=by
  intro cv h1 A h3;simp[qJm P w op t X Y M U h1 A,h3]
 unfold pB at h;split at h
 ·rename_i k a k' b;cases hx with|p _ _ hp=>cases hy with|p _ _ hq =>
  cases hp; cases hq;have go:∀ p,(nF op k a b=some p\/(k=k'/\iD op k a b=some p))->c = .p p->∃ cv,(do eqGuard op t X Y (.int k a) (.int k' b); binOp op t (.int k a) (.int k' b):Sem Value).run P w = .ok cv w/\cD ρ I c cv:=by
   intro p hp hc;subst hc
   rcases hp with hp|⟨rfl,hp⟩
   ·obtain⟨cv,h1,A⟩:=qKL (ρ:=ρ) (I:=I) (k':=k') hp P w t;exact⟨cv,step cv rfl bR h1,A⟩
   ·obtain⟨cv,h1,A⟩:=qHy (ρ:=ρ) (I:=I) hp P w t;exact⟨cv,step cv rfl bR h1,A⟩
  have fin:∀ (o:Option bL),o.map Cell.p=some c->∃ p,o=some p/\c = .p p:=by
   intro o ho;cases o with
   |none=>cases ho
   |some p=>simp at ho; exact⟨p,rfl,ho.symm⟩
  cases op <;> simp only at h
  case shl=>obtain⟨p,h1,A⟩:=fin _ h; exact go p (.inl h1) A
  case shr=>obtain⟨p,h1,A⟩:=fin _ h; exact go p (.inl h1) A
  all_goals
   split at h
   ·rename_i hk;obtain⟨p,h1,A⟩:=fin _ h; exact go p (.inr ⟨hk,h1⟩) A
   ·cases h
 ·rename_i a b;cases hx with|p _ _ hp=>cases hy with|p _ _ hq =>
  cases hp with|str _ x ex=>cases hq with|str _ y ey =>
  subst ex ey;cases hs:ix op x.data.toList y.data.toList with
  |none=>rw[hs] at h; cases h
  |some p =>
   rw[hs] at h; simp at h; subst h;obtain⟨cv,h1,A⟩:=qNy (ρ:=ρ) (I:=I) hs P w t;exact⟨cv,step cv rfl bR h1,A⟩
 ·rename_i a b;cases hx with|p _ _ hp=>cases hy with|p _ _ hq =>
  cases hp; cases hq;split at h
  ·rename_i hk;have hu:=qL3 hk;cases op <;> simp only at h <;> first|(cases h; done)|skip
   ·cases h;exact⟨_,step _ rfl bR (Ss (qH4 hu a b w) (λop ho=>by rcases ho with rfl|rfl <;> rfl)).1,.p _ _ (.bool _)⟩
   ·cases h;exact⟨_,step _ rfl bR (Ss (qH4 hu a b w) (λop ho=>by rcases ho with rfl|rfl <;> rfl)).2,.p _ _ (.bool _)⟩
  ·cases h
 ·rename_i k i off lo hi k' b;cases hx with|p _ _ hp=>cases hy with|p _ _ hq =>
  cases hp with|sym _ _ _ _ _ n hn hb =>
  cases hq;obtain⟨rfl,p,h1,A⟩:=qN3 (ρ:=ρ) (I:=I) hn hb h;obtain⟨cv,h3,h4⟩:=qHy (ρ:=ρ) (I:=I) h1 P w t;exact⟨cv,step cv rfl bR h3,A cv h4⟩
 ·split at h
  ·cases he:wm (kindOf P t) x y with
   |none=>rw[he] at h; cases h
   |some b =>
    rw[he] at h; simp at h; subst h;obtain⟨⟨h1,A⟩,h3,h4⟩:=qJL hx hy he w;exact⟨.bool b,step _ h3 h4 h1,.p _ _ (.bool _)⟩
  ·cases he:wm (kindOf P t) x y with
   |none=>rw[he] at h; cases h
   |some b =>
    rw[he] at h; simp at h; subst h;obtain⟨⟨h1,A⟩,h3,h4⟩:=qJL hx hy he w;exact⟨.bool (!b),step _ h3 h4 A,.p _ _ (.bool _)⟩
  ·cases h
def qNe{ρ:Env}{I:eK}{P:Program}{t:TypeId}{op:BinOp}{xs U:List Cell}{c:Cell}{A M:Value}(hx:dV ρ I (.agg xs) A)(hy:dV ρ I (.agg U) M)(h:uT op (kindOf P t) xs U=some c)(w:World)(X Y:Operand) :
  ∃ cv,(do eqGuard op t X Y A M; binOp op t A M:Sem Value).run P w = .ok cv w/\cD ρ I c cv:=by cases h
def qUI{ρ:Env}{I:eK}{P:Program}{op:UnOp}{x c:Cell}{A:Value}(hx:cD ρ I x A)(h:W2 op x=some c)(w:World) :
  ∃ cv,(Op.unary op A).run P w = .ok cv w/\cD ρ I c cv:=by
 unfold W2 at h;split at h
 ·cases hx with|p _ _ hp=>cases hp; cases h; exact⟨_,rfl,.p _ _ (.int _ _)⟩
 ·rename_i k n;cases hx with|p _ _ hp =>
  cases hp;cases hi:iD .xor k (if k.signed=true then -1 else k.max) n with
  |none=>rw[hi] at h; cases h
  |some p=>rw[hi] at h; simp at h; subst h; simp[iD] at hi; subst hi; exact⟨_,rfl,.p _ _ (.int _ _)⟩
 ·cases hx with|p _ _ hp=>cases hp; cases h; exact⟨_,rfl,.p _ _ (.bool _)⟩
 ·cases h
end Go.AI
namespace Go.AI
variable [Sym]
noncomputable def place(h1:bm)(n g d:Nat)(obj:bG)(push:Bool):Ref×bm :=
 bif push then (.im n,{ h1 with bY:=h1.bY++[obj] }) else (.own d (g+1),{ h1 with cW:=h1.cW.set (g+1,obj) d })
def Sh{h1:bm}{n g d:Nat}{obj:bG}{push:Bool}(hn:n=h1.bY.length){r:Ref}{o:bG}(A:(place h1 n g d obj push).2.get r=some o) :
  (r=(place h1 n g d obj push).1/\o=obj)\/(r≠(place h1 n g d obj push).1/\h1.get r=some o):=by
 cases push
 ·rcases bm.sV h1 d (g+1) obj r o A with ⟨a,b⟩|⟨a,b⟩
  ·exact .inl ⟨a,b⟩
  ·exact .inr ⟨a _,b⟩
 ·subst hn;exact bm.DY h1 obj r o A
def qJg{h1:bm}{n d:Nat}{obj:bG}{push:Bool}{h:bm}(hd:d+1<1048576)(M:∀ e,h.gen e<=h1.gen e)(e:Nat):h.gen e<=(place h1 n (h.gen d) d obj push).2.gen e:=by
 cases push
 ·show h.gen e<=({ h1 with cW:=h1.cW.set (h.gen d+1,obj) d }:bm).gen e;by_cases A:d=e
  ·subst A; rw[bm.Bk _ _ _ _ hd]; omega
  ·rw[bm.si _ _ _ _ _ A]; exact M e
 ·exact M e
def qJF{h1:bm}{n g d:Nat}{obj:bG}{push:Bool}:h1.bY.length<=(place h1 n g d obj push).2.bY.length:=by
 cases push <;> simp[place]
def qJM{h1:bm}{n g d:Nat}{obj:bG}{push:Bool}(hd:d+1<1048576):∀ e A,(place h1 n g d obj push).1 = .own e A->A<=(place h1 n g d obj push).2.gen e:=by
 intro e A he;cases push
 ·simp[place] at he;obtain⟨rfl,rfl⟩:=he;show g+1<=({ h1 with cW:=h1.cW.set (g+1,obj) d }:bm).gen d;rw[bm.Bk _ _ _ _ hd]; omega
 ·simp[place] at he
def qKK{h1:bm}{n g d:Nat}{obj:bG}{push:Bool}(hn:n=h1.bY.length):∀ i,(place h1 n g d obj push).1 = .im i->i<(place h1 n g d obj push).2.bY.length:=by
 intro i he;cases push
 ·simp[place] at he
 ·simp[place] at he;subst he hn;simp[place]
def qHY{ρ:Env}{I:eK}{h h1:bm}{w:World}(H:eC ρ I h w){n d:Nat}{obj:bG}{push:Bool}(hn:n=h.bY.length):ρ (place h1 n (h.gen d) d obj push).1=none:=by
 cases push
 ·show ρ (.own d (h.gen d+1))=none;cases e:ρ (.own d (h.gen d+1)) with
  |none=>rfl
  |some l=>have:=H.fresh _ _ _ e; omega
 ·show ρ (.im n)=none;cases e:ρ (.im n) with
  |none=>rfl
  |some l=>have:=H.jf _ _ e; omega
def N1(ρ:Env)(r:Ref)(l:Loc):Env:=λr'=>if r'=r then some l else ρ r'
def Sr(ρ:Env)(r:Ref)(l:Loc):N1 ρ r l r=some l:=by simp[N1]
def UQ(ρ:Env)(r:Ref)(l:Loc)(r':Ref)(h:r'≠r):N1 ρ r l r'=ρ r':=by simp[N1,h]
def qPN{ρ:Env}{r:Ref}{l:Loc}(h:ρ r=none):ρ.le (N1 ρ r l):=λr' l' e=>by
 by_cases A:r'=r
 ·subst A; rw[h] at e; cases e
 ·rw[UQ _ _ _ _ A]; exact e
structure nu (h h1:bm) (gone:Option Ref):Prop where
 get:∀ r o,h1.get r=some o->h.get r=some o/\gone≠some r
 gen:∀ d,h.gen d<=h1.gen d
 bY:h1.bY.length=h.bY.length
def nu.refl(h:bm):nu h h none:=⟨λ_ _ e=>⟨e,bR⟩,λ_=>cB _,rfl⟩
def nu.kill{h:bm}{r:Ref}{x:bG}(A:h.get r=some x):nu h (h.put r .dead) (some r) where
 get r' o e:=by
  rcases bm.pQ h r .dead r' o e with ⟨_,a⟩|⟨a,b⟩
  ·subst a; exact absurd rfl (bm.lk e)
  ·exact⟨b,λe'=>a (by cases e'; rfl)⟩
 gen d:=bm.ry A _ d
 bY:=bm.mV _ _ _
def XK{ρ:Env}{I:eK}{h h1:bm}{w w':World}{gone:Option Ref}(H:eC ρ I h w)(hl:nu h h1 gone){d:Nat}(hd:d+1<1048576)(obj:bG)(push:Bool)(A:Loc)(hb:A.fg=w.heap.size){I':eK}
  (hw:∀ b,b≠w.heap.size->w'.heap[b]?=w.heap[b]?) (kJ:w.heap.size<=w'.heap.size) (aa:w'.os=w.os/\w'.tape=w.tape/\w'.output=w.output)
  (hI:I.le I') (ae:∀ b k v,I'.cell b k=some v->b≠A.fg->I.cell b k=some v)
  (ai:∀ k v,I'.cell A.fg k=some v->k<iz A obj/\w'.cell? ⟨A.fg,k,none⟩=some v) (af:I'.map=I.map)
  (ag:∀ dL,ρ.le dL->iH dL I' w' A obj) :
  let p:=place h1 h.bY.length (h.gen d) d obj push
  ∃ dL,dL p.1=some A/\eC dL I' p.2 w'/\Good ρ I h w dL I' p.2 w':=by
 intro p;have ab:ρ p.1=none:=qHY H rfl;have aj:I.map A.fg=none:=by
  cases e:I.map A.fg with
  |none=>rfl
  |some x =>
   have:=H.sd A.fg x.1 x.2 (by rw[e]);rw[hb] at this;simp at this
 have U:∀ r o l,r≠p.1->p.2.get r=some o->ρ r=some l->l.fg≠A.fg:=by
  intro r o l ak hr M e
  rcases Sh hl.bY.symm hr with ⟨a,_⟩|⟨_,b⟩
  ·exact ak a
  ·have:=H.lt (hl.get r o b).1 M;omega
 have hle:=qPN (l:=A) ab;refine⟨N1 ρ p.1 A,Sr _ _ _,?_,?_⟩
 ·refine eC.one H p.1 obj A (λb e=>hw b (by rw[<- hb]; exact e)) (Sr _ _ _) (UQ _ _ _) hle (λr o hr=>?_) U hI ae ai af aj (ag _ hle)
   (λe=>qa (cB _) (qJg hd hl.gen e)) (by rw[<- hl.bY]; exact qJF) (qJM hd) (qKK hl.bY.symm)
  rcases Sh hl.bY.symm hr with a|⟨a,b⟩
  ·exact .inl a
  ·exact .inr ⟨a,(hl.get r o b).1⟩
 ·refine⟨hle,hI,⟨aa.1,aa.2.1,aa.2.2,kJ,λb ah _=>hw b bn⟩,λb ho=>?_,λb k v e=>?_,λb v e=>.inl (by rw[af] at e; exact e)⟩;obtain⟨r,o,l,hr,M,e⟩:=ho;by_cases ad:r=p.1
  ·subst ad; rw[Sr] at M; cases M; exact .inr bn
  ·rw[UQ _ _ _ _ ad] at M
   rcases Sh hl.bY.symm hr with ⟨a,_⟩|⟨_,b'⟩
   ·exact absurd a ad
   ·exact .inl ⟨r,o,l,(hl.get r o b').1,M,e⟩
  by_cases ah:b=A.fg
  ·exact .inr (.inr bn)
  ·exact .inl (ae b k v e ah)
def qQO{ρ:Env}{I:eK}{h h1:bm}{w w':World}(H:eC ρ I h w){r:Ref}{x:bG}{l:Loc}(hr:h.get r=some x)(U:ρ r=some l)(hl:nu h h1 (some r)){d:Nat}(hd:d+1<1048576)(obj:bG)(push:Bool)(M:Loc)(hb:M.fg=l.fg){I':eK}
  (hw:∀ b,b≠l.fg->w'.heap[b]?=w.heap[b]?) (kJ:w.heap.size<=w'.heap.size) (ab:w'.os=w.os/\w'.tape=w.tape/\w'.output=w.output)
  (hI:I.le I') (ag:∀ b k v,I'.cell b k=some v->b≠M.fg->I.cell b k=some v)
  (aj:∀ k v,I'.cell M.fg k=some v->k<iz M obj/\w'.cell? ⟨M.fg,k,none⟩=some v) (ah:I'.map=I.map)
  (ai:∀ dL,ρ.le dL->iH dL I' w' M obj) :
  let p:=place h1 h.bY.length (h.gen d) d obj push
  ∃ dL,dL p.1=some M/\eC dL I' p.2 w'/\Good ρ I h w dL I' p.2 w':=by
 intro p;have ad:ρ p.1=none:=qHY H rfl;have aa:∀ r' o l',r'≠p.1->p.2.get r'=some o->ρ r'=some l'->l'.fg≠M.fg:=by
  intro r' o l' ak ae A e
  rcases Sh hl.bY.symm ae with ⟨a,_⟩|⟨_,b⟩
  ·exact ak a
  ·obtain⟨b1,b2⟩:=hl.get r' o b;exact H.inj r' r o x l' l b1 hr A U (λe'=>b2 (by rw[e'])) (by rw[e,hb])
 have hle:=qPN (l:=M) ad;refine⟨N1 ρ p.1 M,Sr _ _ _,?_,?_⟩
 ·refine eC.one H p.1 obj M (λb e=>hw b (by rw[<- hb]; exact e)) (Sr _ _ _) (UQ _ _ _) hle (λr o hr=>?_) aa hI ag aj ah (by rw[hb]; exact H.jW r x l hr U) (ai _ hle)
   (λe=>qJg hd hl.gen e) (by rw[<- hl.bY]; exact qJF) (qJM hd) (qKK hl.bY.symm)
  rcases Sh hl.bY.symm hr with a|⟨a,b⟩
  ·exact .inl a
  ·exact .inr ⟨a,(hl.get r o b).1⟩
 ·refine⟨hle,hI,⟨ab.1,ab.2.1,ab.2.2,kJ,λb _ hn=>hw b λe=>hn ⟨r,x,l,hr,U,e.symm⟩⟩,λb ho=>?_,λb k v e=>?_,λb v e=>.inl (by rw[ah] at e; exact e)⟩;obtain⟨r',o,l',ae,A,e⟩:=ho;by_cases af:r'=p.1
  ·subst af; rw[Sr] at A; cases A; exact .inl ⟨r,x,l,hr,U,bn⟩
  ·rw[UQ _ _ _ _ af] at A
   rcases Sh hl.bY.symm ae with ⟨a,_⟩|⟨_,b'⟩
   ·exact absurd a af
   ·exact .inl ⟨r',o,l',(hl.get r' o b').1,A,e⟩
  by_cases al:b=M.fg
  ·exact .inr (.inl ⟨r,x,l,hr,U,bn⟩)
  ·exact .inl (ag b k v e al)
def UR{ρ:Env}{I:eK}{h:bm}{w w':World}(H:eC ρ I h w){r:Ref}{x obj:bG}{l:Loc}(hr:h.get r=some x)(A:ρ r=some l)
  (hw:∀ b,b≠l.fg->w'.heap[b]?=w.heap[b]?) (kJ:w.heap.size<=w'.heap.size) (aa:w'.os=w.os/\w'.tape=w.tape/\w'.output=w.output)
  (af:∀ k v,I.cell l.fg k=some v->k<iz l obj/\w'.cell? ⟨l.fg,k,none⟩=some v)
  (ad:iH ρ I w' l obj):eC ρ I (h.put r obj) w'/\Good ρ I h w ρ I (h.put r obj) w':=by
 have M:∀ r' o,(h.put r obj).get r'=some o->(r'=r/\o=obj)\/(r'≠r/\h.get r'=some o):=λr' o=>bm.pQ h r obj r' o
 constructor
 ·refine eC.one H r obj l hw A (λ_ _=>rfl) (Env.le_refl _) M (λr' o l' ae ab U=>?_) (eK.le_refl _) (λ_ _ _ e _=>e) af rfl (H.jW r x l hr A) ad
   (λd=>bm.ry hr _ d) (by rw[bm.mV]; exact cB _) (λd g e=>?_) (λi e=>?_)
  ·rcases M r' o ab with ⟨a,_⟩|⟨_,b⟩
   ·exact absurd a ae
   ·exact H.inj r' r o x l' l b hr U A ae
  ·subst e; exact qa (H.fresh d g l A) (bm.ry hr _ d)
  ·subst e; rw[bm.mV]; exact H.jf i l A
 ·refine⟨Env.le_refl _,eK.le_refl _,⟨aa.1,aa.2.1,aa.2.2,kJ,λb _ hn=>hw b λe=>hn ⟨r,x,l,hr,A,e.symm⟩⟩,λb ho=>?_,λ_ _ _ e=>.inl e,λ_ _ e=>.inl e⟩;obtain⟨r',o,l',ab,U,e⟩:=ho
  rcases M r' o ab with ⟨rfl,_⟩|⟨_,b'⟩
  ·exact .inl ⟨r',x,l',hr,U,e⟩
  ·exact .inl ⟨r',o,l',b',U,e⟩
def jw(ρ:Env)(I:eK)(w:World)(b o:Nat)(cs:List Cell):Prop:=∀ (k:Nat) c,cs[k]?=some c->∃ v,w.cell? ⟨b,o+k,none⟩=some v/\cD ρ I c v
def jw.drop{ρ:Env}{I:eK}{w:World}{b o:Nat}{cs:List Cell}(h:jw ρ I w b o cs)(n:Nat):jw ρ I w b (o+n) (cs.drop n):=λk c A=>by
 rw[n6] at A;obtain⟨v,a,b'⟩:=h _ c A;exact⟨v,by rw[n5]; exact a,b'⟩
def jw.take{ρ:Env}{I:eK}{w:World}{b o:Nat}{cs:List Cell}(h:jw ρ I w b o cs)(n:Nat):jw ρ I w b o (cs.take n):=λk c A=>by
 rw[nZ] at A;split at A
 ·exact h k c A
 ·cases A
def iH.mX{ρ:Env}{I:eK}{w:World}{l:Loc}{cs:List Cell}{imm:Nat}(h:iH ρ I w l (.cells cs imm)):jw ρ I w l.fg l.base cs:=by
 obtain⟨arr,elem,lo,hi,h1,U,h3,A,h5⟩:=h;intro k c M;obtain⟨v,a,b⟩:=A k c M;exact⟨v,by simp[World.cell?,h1,a],b⟩
def jw.eM{ρ:Env}{I:eK}{w:World}{b:Nat}:∀ {o:Nat}{cs:List Cell},jw ρ I w b o cs->∃ vs:List Value,cS (cD ρ I) cs vs/\∀ (j:Nat) v,vs[j]?=some v->w.cell? ⟨b,o+j,none⟩=some v:=by
 intro o cs
 induction cs generalizing o with
 |nil=>exact λ_=>⟨[],bB,λj v e=>by simp at e⟩
 |cons c cs A =>
  intro h;obtain⟨v,a,hv⟩:=h 0 c rfl
  obtain⟨vs,h1,M⟩:=A (o:=o+1) (λk c' U=>by
   obtain⟨v',a',b'⟩:=h (k+1) c' (by simpa using U)
   exact⟨v',by rw[show o+1+k=o+(k+1) by omega]; exact a',b'⟩)
  refine⟨v::vs,⟨hv,h1⟩,λj u e=>?_⟩;cases j with
  |zero=>simp at e; subst e; exact a
  |succ j=>rw[show o+(j+1)=o+1+j by omega]; exact M j u (by simpa using e)
def Ce(b o k:Nat):(⟨b,o,none⟩:Addr).add k=⟨b,o+k,none⟩:=by
 unfold Addr.add; split
 ·subst_vars; rfl
 ·rfl
def qDN{P:Program}{w:World}{b o:Nat}(vs:List Value)(h:∀ (j:Nat) v,vs[j]?=some v->w.cell? ⟨b,o+j,none⟩=some v) :
  (loadCells ⟨b,o,none⟩ vs.length).run P w = .ok vs.toArray w :=
 run_loadCells_list w ⟨b,o,none⟩ vs (λj v e=>by rw[Ce]; exact h j v e)
def qD5{P:Program}{t:TypeId}{g:Bool}(h:Cv P t=some g)(w:World):(isAgg t).run P w = .ok g w:=by
 unfold Cv at h;cases hu:P.underlying t with
 |none=>rw[hu] at h; cases h
 |some d =>
  rw[hu] at h; simp at h; subst h;simp[isAgg,run_underlying hu];cases d <;> rfl
def FW{P:Program}{t:TypeId}{n:Nat}(h:iw P t=some n)(w:World):(sizeOf t).run P w = .ok n w:=by
 unfold iw at h;cases hi:P.info? t with
 |none=>rw[hi] at h; cases h
 |some i=>rw[hi] at h; simp at h; subst h; simp[sizeOf,typeInfo,hi]
def qGr{ρ:Env}{I:eK}{P:Program}{w:World}{b o:Nat}{cs:List Cell}(h:jw ρ I w b o cs){t:TypeId}{agg:Bool}{n off:Nat}(M:Cv P t=some agg)(hn:iw P t=some n){v:bt}
  (hp:partOf agg n cs off=some v):∃ cv,(loadVar t ⟨b,o+off,none⟩).run P w = .ok cv w/\fq ρ I v cv:=by
 unfold partOf at hp;cases agg
 ·simp only[gh,fC] at hp;split at hp
  ·rename_i x hx;cases hp;obtain⟨u,h1,A⟩:=h off x hx;exact⟨u,by simp[loadVar,qD5 M,h1],A⟩
  ·cases hp
 ·simp only[fx] at hp;split at hp
  ·rename_i hl;cases hp;obtain⟨vs,h1,A⟩:=((h.drop off).take n).eM;have hlen:vs.length=n:=by rw[<- h1.length,hl]
   have U:=qDN (P:=P) vs A;rw[hlen] at U;exact⟨.agg vs.toArray,by simp[loadVar,qD5 M,FW hn,U],vs.toArray,rfl,by simpa using h1⟩
  ·cases hp
end Go.AI
namespace Go.AI
variable [Sym]
structure RL (w:World) (b o:Nat) (vs:List Value) (w':World):Prop where
 other:∀ b',b'≠b->w'.heap[b']?=w.heap[b']?
 size:w'.heap.size=w.heap.size
 rest:w'.os=w.os/\w'.tape=w.tape/\w'.output=w.output
 row:∀ arr elem fz,w.heap[b]?=some (.cells arr elem fz)->∃ gK:Array Value,w'.heap[b]?=some (.cells gK elem fz)/\gK.size=arr.size /\
  ∀ k,gK[k]?=if o<=k/\k<o+vs.length then vs[k - o]? else arr[k]?
def qUb(v:Value):v.oneCell'=pX v:=by cases v <;> rfl
def qOH{P:Program}{w:World}{b o:Nat}{v u:Value}(hv:pX v=true)(hc:w.cell? ⟨b,o,none⟩=some u)(A:w.frozen? ⟨b,o,none⟩=false) :
  (store ⟨b,o,none⟩ v).run P w = .ok () (w.setCell ⟨b,o,none⟩ v):=by
 rw[run_store P w ⟨b,o,none⟩ v .plain (by rw[qUb]; exact hv),hc];simp[A]
def qC6{P:Program}{b o:Nat}:∀ (vs:List Value) (i:Nat) (w:World) (arr:Array Value) (elem:TypeId) (lo hi:Nat),
  w.heap[b]?=some (.cells arr elem (lo,hi))->o+i+vs.length<=arr.size->(∀ v∈vs,pX v=true)->(∀ k,o+i<=k->k<o+i+vs.length->¬ (lo<=k/\k<hi)) ->
  ∃ w',(storeCells ⟨b,o,none⟩ vs i).run P w = .ok () w'/\RL w b (o+i) vs w':=by
 intro vs
 induction vs with
 |nil =>
  intro i w arr elem lo hi M hs h1 hf;exact⟨w,by simp[storeCells],λ_ _=>rfl,rfl,⟨rfl,rfl,rfl⟩,λgK ad aj e=>⟨gK,e,rfl,λk=>by rw[bA (by simp only[fm]; omega)]⟩⟩
 |cons v vs ih =>
  intro i w arr elem lo hi M hs h1 hf;simp only[di] at hs hf;have U:o+i<arr.size:=bn
  have hc:w.cell? ⟨b,o+i,none⟩=some arr[o+i]:=by simp[World.cell?,M,U]
  have ae:w.frozen? ⟨b,o+i,none⟩=false:=by
   have:=hf (o+i) bn bn;simp only[World.frozen?,M];simp only[Bool.and_eq_false_iff,qp];omega
  have af:=qOH (P:=P) (h1 v bR) hc ae;have aa:(w.setCell ⟨b,o+i,none⟩ v).heap[b]?=some (.cells (arr.setIfInBounds (o+i) v) elem (lo,hi)):=by
   simp[World.setCell,Lt,M]
  obtain⟨w',hr,A⟩:=ih (i+1) _ _ elem lo hi aa cM (λu hu=>h1 u (by simp[hu])) (λk a b'=>hf k bn bn);refine⟨w',?_,?_⟩
  ·simp only[storeCells,Ce,Sem.run_bind,af,Result.andThen_ok];exact hr
  ·refine⟨λb' ag=>?_,?_,?_,λai ah ak e=>?_⟩
   ·rw[A.other b' ag];simp only[World.setCell,Lt];rw[bA bn]
   ·rw[A.size]; simp[World.setCell]
   ·exact⟨A.rest.1,A.rest.2.1,A.rest.2.2⟩
   ·rw[M] at e;cases e;obtain⟨gK,a1,a2,a3⟩:=A.row _ _ _ aa;refine⟨gK,a1,by rw[a2]; simp,λk=>?_⟩;rw[a3 k];simp only[di];by_cases hk:k=o+i
    ·subst hk;rw[bA bn,bF bn];simp[U]
    ·by_cases ab:o+(i+1)<=k/\k<o+(i+1)+vs.length
     ·rw[bF ab,bF bn];rw[show k - (o+i)=(k - (o+(i+1)))+1 by omega];simp
     ·rw[bA ab,bA bn];rw[BN bn]
def qHb(cs vs:List Cell)(off:Nat)(h:off+vs.length<=cs.length)(k:Nat) :
  (eY cs off vs)[k]?=if off<=k/\k<off+vs.length then vs[k - off]? else cs[k]?:=by
 unfold eY;by_cases h1:k<off
 ·rw[bA bn,eH,j5 cM,Fc h1]
 ·by_cases A:k<off+vs.length
  ·rw[bF bn,eH,kz cM,j5 cM]
   congr 1; simp; omega
  ·rw[bA bn,kz cM,n6]
   congr 1; simp; omega
def qDP(cs vs:List Cell)(off:Nat)(h:off+vs.length<=cs.length):(eY cs off vs).length=cs.length:=by
 unfold eY; simp; omega
def cS.pX{ρ:Env}{I:eK}{cs:List Cell}{vs:List Value}(h:cS (cD ρ I) cs vs):∀ v∈vs,pX v=true:=by
 intro v hv;obtain⟨i,hi,e⟩:=Ls hv;have hl:=h.length;have:cs[i]?=some cs[i]:=fQ bn;obtain⟨b,h1,A⟩:=h.get i _ this;rw[fQ hi] at h1;cases h1;rw[e] at A;exact A.one
def qHE{P:Program}{ρ:Env}{I:eK}{h:bm}{w:World}(H:eC ρ I h w){r:Ref}{cs:List Cell}{imm:Nat}{l:Loc}(hr:h.get r=some (.cells cs imm))(U:ρ r=some l)
  (off:Nat) (news:List Cell) (vs:List Value) (hv:cS (cD ρ I) news vs) (ae:imm<=off) (A:off+news.length<=cs.length) :
  ∃ w',(storeCells ⟨l.fg,l.base+off,none⟩ vs).run P w = .ok () w'/\eC ρ I (h.put r (.cells (eY cs off news) imm)) w'/\Good ρ I h w ρ I (h.put r (.cells (eY cs off news) imm)) w':=by
 obtain⟨l',e,ho⟩:=H.live r _ hr;rw[U] at e; cases e;obtain⟨arr,elem,lo,hi,h1,h2,h3,h4,h5⟩:=ho;have hlen:=hv.length;obtain⟨w',aa,hS⟩:=qC6 (P:=P) (b:=l.fg) (o:=l.base+off) vs 0 w arr elem lo hi h1 bn hv.pX (λk a b=>h5 k bn bn);obtain⟨gK,a1,a2,a3⟩:=hS.row _ _ _ h1;refine⟨w',aa,UR H hr U hS.other (by rw[hS.size]; exact cB _) hS.rest (λk v M=>?_) ?_⟩
 ·have ab:=H.apart r _ l hr U l.fg k v M rfl;refine⟨ab,?_⟩;have hc:=H.gQ _ _ _ M;simp only[World.cell?,h1,a1,BL,gh,fC] at hc ⊢;rw[a3 k,bA (by simp only[iz] at ab; omega)];exact hc
 ·refine⟨gK,elem,lo,hi,a1,bn,by rw[qDP _ _ _ A]; exact h3,λk c M=>?_,h5⟩;rw[qHb _ _ _ A] at M;rw[a3];by_cases ad:off<=k/\k<off+news.length
  ·rw[bF ad] at M;rw[bF bn];obtain⟨v,b1,b2⟩:=hv.get _ _ M;exact⟨v,by rw[show l.base+k - (l.base+off+0)=k - off by omega]; exact b1,b2⟩
  ·rw[bA ad] at M;rw[bA bn];exact h4 k c M
end Go.AI
namespace Go.AI
variable [Sym]
section
variable {P:Program} {G:Nat->Option (List bL)} {ρ:Env} {I:eK} {h:bm} {w:World} {tm:TM bt} {a:Act}
structure iZ (P:Program) (G:Nat->Option (List bL)) (ρ:Env) (I:eK) (h:bm) (w:World) (tm:TM bt) (a:Act):Prop where
 tab:nv G I
 heap:eC ρ I h w
 tm:∀ t v,tm.get t=some v->fq ρ I v (a.tmps.getD t undef)
def iZ.ev(C:iZ P G ρ I h w tm a){x:Operand}{A:X}(hx:cG G x=some A){v:bt}(hv:A.ev tm=some v):fq ρ I v (a.eval x):=qWU C.tab C.tm hx hv
noncomputable def cA.iL(p:cA)(d:Nat)(h:bm):Option (bt×bm×Touch):=match p with | .go dM k=>fN dM k d h | .call _ _=>none
def q9{v A:bt}{d:Nat}{h':bm}{t:Touch}{o:Oper}(C:iZ P G ρ I h w tm a)(M:(cA.pure v).iL d h=some (A,h',t)){cv:Value}
  (U:(execOp a.eval o).run P w = .ok (.value cv) w) (hv:fq ρ I v cv):fy ρ I h w ((execOp a.eval o).run P w) A h':=by
 obtain⟨rfl,rfl⟩:=qFY M;exact fy.pure C.heap U hv
def Su{α:Type}{x:Option α}{f:α->bt}{p:cA}(hp:x.map (λy=>cA.pure (f y))=some p):∃ y,x=some y/\p = .pure (f y):=by
 cases x with
 |none=>cases hp
 |some y=>simp at hp; exact⟨y,rfl,hp.symm⟩
def Ys{x:Option bt}{p:cA}(hp:x.map cA.pure=some p):∃ y,x=some y/\p = .pure y:=by
 cases x with
 |none=>cases hp
 |some y=>simp at hp; exact⟨y,rfl,hp.symm⟩
def qDK{r:Ref}{k:bG->Option bt}{d:Nat}{v:bt}{h':bm}{t:Touch}(A:(cA.read r k).iL d h=some (v,h',t)):h'=h/\∃ o,h.get r=some o/\k o=some v:=by
 unfold cA.iL cA.read fN at A;simp only[ek,gg] at A;cases U:h.get r with
 |none=>rw[U] at A; simp at A
 |some o =>
  rw[U] at A;simp at A;cases M:k o with
  |none=>rw[M] at A; simp at A
  |some v'=>rw[M] at A; simp at A; exact⟨A.2.1.symm,o,rfl,by rw[M,A.1]⟩
def qE2{r:Ref}{k:bG->Option (bt×bG)}{d:Nat}{v:bt}{h':bm}{t:Touch}(A:(cA.write r k).iL d h=some (v,h',t)) :
  ∃ o o',h.get r=some o/\k o=some (v,o')/\h'=h.put r o':=by
 unfold cA.iL cA.write fN at A;simp only[ek,gg] at A;cases U:h.get r with
 |none=>rw[U] at A; simp at A
 |some o =>
  rw[U] at A;simp at A;cases M:k o with
  |none=>rw[M] at A; simp at A
  |some p =>
   rw[M] at A; simp at A;obtain⟨p1,p2⟩:=p;simp at A;exact⟨o,p2,rfl,by rw[M,A.1],A.2.1.symm⟩
def Vn{obj:bG}{push:Bool}{mk:Ref->bt}{d:Nat}{v:bt}{h':bm}{t:Touch}(A:(cA.Bj obj push mk).iL d h=some (v,h',t)) :
  v=mk (place h h.bY.length (h.gen d) d obj push).1/\h'=(place h h.bY.length (h.gen d) d obj push).2:=by
 unfold cA.iL cA.Bj fN at A;simp only[gg] at A;cases push <;> simp[place] at A ⊢ <;> exact⟨A.1.symm,A.2.1.symm⟩
def X7{d:Nat}(hd:d+1<1048576)(H:eC ρ I h w){cs:List Cell}{push:Bool}{arr:Array Value}{elem:TypeId}{w':World}(hw:w'.heap=w.heap.push (.cells arr elem (0,0)))
  (A:w'.os=w.os/\w'.tape=w.tape/\w'.output=w.output) (hlen:cs.length<=arr.size) (M:∀ (k:Nat) c,cs[k]?=some c->∃ v,arr[k]?=some v/\cD ρ I c v) :
  let p:=place h h.bY.length (h.gen d) d (.cells cs 0) push
  ∃ dL,dL p.1=some ⟨w.heap.size,0,arr.size⟩/\eC dL I p.2 w'/\Good ρ I h w dL I p.2 w':=by
 refine XK H (nu.refl h) hd (.cells cs 0) push ⟨w.heap.size,0,arr.size⟩ rfl (λb hb=>?_) (by rw[hw]; simp) A (eK.le_refl _) (λ_ _ _ e _=>e) (λk v e=>?_) rfl (λdL hle=>?_)
 ·rw[hw,wv,bA hb]
 ·exact absurd (Se (H.gQ _ _ _ e)) bR
 ·refine⟨arr,elem,0,0,by rw[hw]; simp,rfl,by simpa using hlen,λk c U=>?_,λo _ _=>bn⟩;obtain⟨v,a1,a2⟩:=M k c U;exact⟨v,by simpa using a1,a2.mono hle (eK.le_refl _)⟩
def JU{ρ:Env}{I:eK}{cs:List Cell}{arr:Array Value}(hc:cS (cD ρ I) cs arr.toList):cs.length<=arr.size/\∀ (k:Nat) c,cs[k]?=some c->∃ v,arr[k]?=some v/\cD ρ I c v :=
 ⟨by have:=hc.length; simp at this; omega,λk c A=>let ⟨v,a1,a2⟩:=hc.get k c A; ⟨v,by simpa using a1,a2⟩⟩
def kM{t:TypeId}{z:cN}(hz:eQ P t=some z):∃ i zv,P.info? t=some i/\i.zero=some zv/\qJ zv=some z:=by
 unfold eQ at hz;simp only[rK] at hz;obtain⟨zv,⟨i,h1,A⟩,M⟩:=hz;exact⟨i,zv,h1,A,M⟩
def qBu{t:TypeId}{i:TypeInfo}{zv:Value}(h1:P.info? t=some i)(A:i.zero=some zv)(w:World):(zeroValue t).run P w = .ok zv w:=by
 simp[zeroValue,typeInfo,h1,A]
variable {heap:Nat->Bool} {d:Nat} {v:bt} {h':bm} {t:Touch} {o:Oper}
def qKU{x:Operand}(C:iZ P G ρ I h w tm a)(ho:o.op = .move x\/o.op = .assign x){A:X}(hx:cG G x=some A){p:cA}(hp:cH tm (.mv A)=some p)(M:p.iL d h=some (v,h',t)) :
  fy ρ I h w ((execOp a.eval o).run P w) v h':=by
 obtain⟨y,U,rfl⟩:=Ys hp;exact q9 C M (cv:=a.eval x) (by rcases ho with ho|ho <;> (unfold execOp; rw[ho]; rfl)) (C.ev hx U)
def Si{b:Bool}{v:Value}(h:fq ρ I (.v (.c (.p (.bool b)))) v):v = .bool b:=by
 cases (show cD ρ I (.p (.bool b)) v from h) with|p _ _ hp=>cases hp; rfl
def qCt{k:IntKind}{n:Int}{v:Value}(h:fq ρ I (.v (.c (.p (.int k n)))) v):v = .int k n:=by
 cases (show cD ρ I (.p (.int k n)) v from h) with|p _ _ hp=>cases hp; rfl
def qSJ{c x y:Operand}(C:iZ P G ρ I h w tm a)(ho:o.op = .pick c x y){c' M U:X}(hc:cG G c=some c')(hx:cG G x=some M)(hy:cG G y=some U){p:cA}
  (hp:cH tm (.pick c' M U)=some p) (hg:p.iL d h=some (v,h',t)):fy ρ I h w ((execOp a.eval o).run P w) v h':=by
 simp only[cH] at hp;split at hp
 ·rename_i A;obtain⟨u,hu,rfl⟩:=Ys hp;have:=Si (C.ev hc A);exact q9 C hg (cv:=a.eval x) (by unfold execOp; rw[ho]; simp[this,asBool]) (C.ev hx hu)
 ·rename_i A;obtain⟨u,hu,rfl⟩:=Ys hp;have:=Si (C.ev hc A);exact q9 C hg (cv:=a.eval y) (by unfold execOp; rw[ho]; simp[this,asBool]) (C.ev hy hu)
 ·cases hp
def qPC{ty:TypeId}{push:Bool}(C:iZ P G ρ I h w tm a)(hd:d+1<1048576)(ho:o.op = .alloc ty){z:cN}(hz:eQ P ty=some z){p:cA}(hp:cH tm (.alloc z.cells push)=some p)
  (M:p.iL d h=some (v,h',t)):fy ρ I h w ((execOp a.eval o).run P w) v h':=by
 simp only[cH,rJ] at hp;subst hp;obtain⟨rfl,rfl⟩:=Vn M;obtain⟨i,zv,h1,U,h3⟩:=kM hz;have A:dV ρ I z zv:=OD h3;have hr:(execOp a.eval o).run P w = .ok (.value (.pointer (some ⟨w.heap.size,0,none⟩))) (w.alloc (.cells zv.cells ty)):=by
  unfold execOp; rw[ho]; simp[Instr.alloc,qBu h1 U,newVar,newRow]
 obtain⟨dL,e1,e2,e3⟩:=X7 (push:=push) hd C.heap (w':=w.alloc (.cells zv.cells ty)) rfl ⟨rfl,rfl,rfl⟩ (JU A.cells).1 (JU A.cells).2;exact⟨_,dL,I,.inl ⟨_,hr,cD.ptr _ 0 _ e1⟩,e2,e3⟩
def qVc{ty:TypeId}{x:Operand}{push:Bool}(C:iZ P G ρ I h w tm a)(hd:d+1<1048576)(ho:o.op = .box ty x){M:X}(hx:cG G x=some M){p:cA}(hp:cH tm (.box M push)=some p)
  (U:p.iL d h=some (v,h',t)):fy ρ I h w ((execOp a.eval o).run P w) v h':=by
 simp only[cH] at hp;split at hp
 ·rename_i u hu;simp only[rJ] at hp;subst hp;obtain⟨rfl,rfl⟩:=Vn U;have A:dV ρ I u (a.eval x):=C.ev hx hu;have hr:(execOp a.eval o).run P w = .ok (.value (.pointer (some ⟨w.heap.size,0,none⟩))) (w.alloc (.cells (a.eval x).cells ty)):=by
   unfold execOp; rw[ho]; simp[Instr.box,newVar,newRow]
  obtain⟨dL,e1,e2,e3⟩:=X7 (push:=push) hd C.heap (w':=w.alloc (.cells (a.eval x).cells ty)) rfl ⟨rfl,rfl,rfl⟩ (JU A.cells).1 (JU A.cells).2;exact⟨_,dL,I,.inl ⟨_,hr,cD.ptr _ 0 _ e1⟩,e2,e3⟩
 ·cases hp
def qOf{row:List bL}{off:Nat}{v:Value}(hx:fq ρ I (.v (.c (.p (.dc row off)))) v)(H:eC ρ I h w):∃ b o,v = .pointer (some ⟨b,o+off,none⟩)/\jw ρ I w b o (bp row):=by
 cases (show cD ρ I (.p (.dc row off)) v from hx) with|p _ _ hp =>
 cases hp with|dc _ _ b o cv hI hv =>
 refine⟨b,o,rfl,λk c A=>?_⟩;unfold bp at A;rw[dP] at A;cases M:row[k]? with
 |none=>rw[M] at A; cases A
 |some u=>rw[M] at A; simp at A; subst A; exact⟨cv k,H.gQ _ _ _ (hI k u M),.p _ _ (hv k u M)⟩
def Sd{r:Ref}{off:Nat}{v:Value}(h:fq ρ I (.v (.c (.ptr r off))) v):∃ l,ρ r=some l/\v = .pointer (some ⟨l.fg,l.base+off,none⟩):=by
 cases (show cD ρ I (.ptr r off) v from h) with|ptr _ _ l e=>exact⟨l,e,rfl⟩
def qRQ{ty:TypeId}{x:Operand}(C:iZ P G ρ I h w tm a)(ho:o.op = .load ty x){x':X}(hx:cG G x=some x'){agg:Bool}{n:Nat}(ha:Cv P ty=some agg)(hn:iw P ty=some n){p:cA}
  (hp:cH tm (.load agg n x')=some p) (hg:p.iL d h=some (v,h',t)):fy ρ I h w ((execOp a.eval o).run P w) v h':=by
 simp only[cH] at hp;split at hp
 ·rename_i r off hu;simp only[rJ] at hp;subst hp;obtain⟨rfl,ob,h1,M⟩:=qDK hg;obtain⟨l,hl,hv⟩:=Sd (C.ev hx hu);split at M
  ·rename_i cs imm;obtain⟨l',e,U⟩:=C.heap.live r _ h1;rw[hl] at e; cases e;obtain⟨cv,hr,A⟩:=qGr (P:=P) U.mX ha hn M;exact fy.pure C.heap (cv:=cv) (by unfold execOp; rw[ho]; simp[Instr.loadAt,hv,Instr.sureAddr,hr]) A
  ·cases M
 ·rename_i row off hu;obtain⟨u,aa,rfl⟩:=Ys hp;obtain⟨b,ob,hv,hc⟩:=qOf (C.ev hx hu) C.heap;obtain⟨cv,hr,A⟩:=qGr (P:=P) hc ha hn aa;exact q9 C hg (cv:=cv) (by unfold execOp; rw[ho]; simp[Instr.loadAt,hv,Instr.sureAddr,hr]) A
 ·cases hp
def qQA{ty:TypeId}{x y:Operand}(C:iZ P G ρ I h w tm a)(ho:o.op = .store ty x y){x' y':X}(hx:cG G x=some x')(hy:cG G y=some y'){n:Nat}(hn:iw P ty=some n){p:cA}
  (hp:cH tm (.store n x' y')=some p) (hg:p.iL d h=some (v,h',t)):fy ρ I h w ((execOp a.eval o).run P w) v h':=by
 simp only[cH] at hp;split at hp
 ·rename_i r off u hu aa;simp only[rJ] at hp;subst hp;obtain⟨ob,ad,h1,U,rfl⟩:=qE2 hg;obtain⟨l,hl,hv⟩:=Sd (C.ev hx hu);have M:dV ρ I u (a.eval y):=C.ev hy aa;split at U
  ·rename_i cs imm;split at U
   ·rename_i A;simp only[rJ,fB] at U;obtain⟨rfl,rfl⟩:=U;obtain⟨w',hr,hW,ab⟩:=qHE (P:=P) C.heap h1 hl off u.cells (a.eval y).cells.toList M.cells A.1 (by rw[A.2.1]; exact A.2.2);have kJ:(a.eval y).cells.size=n:=by have:=M.cells.length; simp at this; omega
    refine⟨w',ρ,I,.inr ⟨?_,rfl⟩,hW,ab⟩;unfold execOp; rw[ho];simp[Instr.storeAt,hv,Instr.sureAddr,storeVar,FW hn,kJ,hr]
   ·cases U
  ·cases U
 ·cases hp
end
end Go.AI
namespace Go.AI
variable [Sym]
section
variable {P:Program} {G:Nat->Option (List bL)} {ρ:Env} {I:eK} {h:bm} {w:World} {tm:TM bt} {a:Act}
variable {heap:Nat->Bool} {d:Nat} {v:bt} {h':bm} {t:Touch} {o:Oper}
def qz{c:Cell}{x:Value}(hx:fq ρ I (.v (.c c)) x):cD ρ I c x:=hx
def qQN{x:Operand}(C:iZ P G ρ I h w tm a)(ho:o.op = .nilCheck x){x':X}(hx:cG G x=some x'){p:cA}(hp:cH tm (.cO x')=some p)(hg:p.iL d h=some (v,h',t)) :
  fy ρ I h w ((execOp a.eval o).run P w) v h':=by
 simp only[cH] at hp;split at hp
 ·cases hp
 ·cases hp
 ·cases hp
 ·cases hp
 ·rename_i u M U aa ab hu;simp only[rJ] at hp;subst hp;have A:=C.ev hx hu;refine q9 C hg (cv:=a.eval x) ?_ A;unfold execOp; rw[ho];dsimp only;cases u with
  |dq vs=>obtain⟨arr,e,_⟩:=A; simp[e]
  |v y =>
   cases y with
   |agg cs=>obtain⟨arr,e,_⟩:=A; simp[e]
   |c y =>
    generalize a.eval x=xv at A ⊢;cases (show cD ρ I y xv from A) with
    |p pv _ ad =>
     cases ad with
     |mC=>exact absurd rfl M
     |ke=>exact absurd rfl U
     |kf=>exact absurd rfl aa
     |_=>rfl
    |jd _ _=>exact absurd rfl ab
    |_=>rfl
 ·cases hp
def qT5{op:BinOp}{ty uy:TypeId}{x y:Operand}(C:iZ P G ρ I h w tm a)(ho:o.op = .binOp op ty x y uy){x' y':X}(hx:cG G x=some x')(hy:cG G y=some y'){p:cA}
  (hp:cH tm (.bin op (kindOf P ty) x' y')=some p) (hg:p.iL d h=some (v,h',t)):fy ρ I h w ((execOp a.eval o).run P w) v h':=by
 simp only[cH] at hp;split at hp
 ·rename_i c1 c2 h1 M;obtain⟨c,hc,rfl⟩:=Su (f:=λc=>.v (.c c)) hp;obtain⟨cv,U,A⟩:=qST (qz (C.ev hx h1)) (qz (C.ev hy M)) hc w x y;refine q9 C hg (cv:=cv) ?_ A;unfold execOp; rw[ho];show(Sem.bind _ _).run P w=_;rw[Sem.run_bind',U]; rfl
 ·rename_i c1 c2 h1 M;obtain⟨c,hc,rfl⟩:=Su (f:=λc=>.v (.c c)) hp;obtain⟨cv,U,A⟩:=qNe (C.ev hx h1) (C.ev hy M) hc w x y;refine q9 C hg (cv:=cv) ?_ A;unfold execOp; rw[ho];show(Sem.bind _ _).run P w=_;rw[Sem.run_bind',U]; rfl
 ·cases hp
def qWY{op:UnOp}{ty:TypeId}{x:Operand}(C:iZ P G ρ I h w tm a)(ho:o.op = .unOp op ty x){M:X}(hx:cG G x=some M){p:cA}
  (hp:cH tm (.un op M)=some p) (U:p.iL d h=some (v,h',t)):fy ρ I h w ((execOp a.eval o).run P w) v h':=by
 simp only[cH] at hp;split at hp
 ·rename_i c1 h1;obtain⟨c,hc,rfl⟩:=Su (f:=λc=>.v (.c c)) hp;obtain⟨cv,hr,A⟩:=qUI (P:=P) (qz (C.ev hx h1)) hc w;refine q9 C U (cv:=cv) ?_ A;unfold execOp; rw[ho];show(Sem.bind _ _).run P w=_;rw[Sem.run_bind',hr]; rfl
 ·cases hp
def qQy{src dst:TypeId}{x:Operand}(C:iZ P G ρ I h w tm a)(ho:o.op = .convert src dst x){M k:IntKind}(hs:P.underlying src=some (.int M))(hd:P.underlying dst=some (.int k)){A:X}(hx:cG G x=some A){p:cA}
  (hp:cH tm (.toInt k A)=some p) (U:p.iL d h=some (v,h',t)):fy ρ I h w ((execOp a.eval o).run P w) v h':=by
 simp only[cH] at hp;split at hp
 ·rename_i k0 n h1;simp only[rJ] at hp;subst hp;have hv:=qCt (C.ev hx h1);refine q9 C U (cv:=.int k (k.wrap n)) ?_ (cD.p _ _ (.int _ _));unfold execOp; rw[ho];simp[hv,convert,run_underlying hs,run_underlying hd,Conv.intToInt]
 ·cases hp
def Yr{s:List UInt8}{v:Value}(h:fq ρ I (.v (.c (.p (.str s)))) v):∃ b:ByteArray,v = .string b/\b.data.toList=s:=by
 cases (show cD ρ I (.p (.str s)) v from h) with|p _ _ hp=>cases hp with|str _ b e=>exact⟨b,rfl,e⟩
def qPj{x:bt}{r:Ref}{v:Value}(A:wb x=some r)(hx:fq ρ I x v):∃ l,ρ r=some l/\v=qE l:=by
 unfold wb at A;split at A
 ·simp at A; subst A;obtain⟨l,h1,M⟩:=Sd hx;exact⟨l,h1,by rw[M]; rfl⟩
 ·cases A
def wc{α β:Type}{f:α->Option β}:∀ {l:List α}{m:List β},l.mapM f=some m->cS (λa b=>f a=some b) l m:=by
 intro l
 induction l with
 |nil=>intro m h; simp at h; subst h; trivial
 |cons a l M =>
  intro m h;simp only[ek,rL,rK] at h;obtain⟨b,hb,U,A,e⟩:=h;simp at e; subst e;exact⟨hb,M A⟩
def qSh{f:FuncId}{dD:Array Operand}(C:iZ P G ρ I h w tm a)(ho:o.op = .makeFunc (.func f) #[] dD){xs:List X}(hx:dD.toList.mapM (cG G)=some xs){p:cA}
  (hp:cH tm (.qD f xs)=some p) (hg:p.iL d h=some (v,h',t)):fy ρ I h w ((execOp a.eval o).run P w) v h':=by
 simp only[cH,rL,rK] at hp;obtain⟨rs,A,e⟩:=hp;simp only[rM,rJ] at e;subst e;have h1:=wc hx;have h2:=wc A;have key:∀ (os:List Operand) (xs:List X) (rs:List Ref),cS (λa b=>cG G a=some b) os xs->cS (λa b=>(a.ev tm).bind wb=some b) xs rs ->
   ∃ ls:List Loc,cS (λr l=>ρ r=some l) rs ls/\os.map a.eval=ls.map qE:=by
  intro os
  induction os with
  |nil =>
   intro xs rs a1 a2;cases xs with
   |nil=>cases rs with
    |nil=>exact⟨[],bB,rfl⟩
    |cons _ _=>exact a2.elim
   |cons _ _=>exact a1.elim
  |cons x os ih =>
   intro xs rs a1 a2;cases xs with
   |nil=>exact a1.elim
   |cons y xs=>cases rs with
    |nil=>exact a2.elim
    |cons r rs =>
     obtain⟨ls,M,U⟩:=ih xs rs a1.2 a2.2;obtain⟨u,aa,ab⟩:=yZ.1 a2.1;obtain⟨l,c1,c2⟩:=qPj ab (C.ev a1.1 aa);exact⟨l::ls,⟨c1,M⟩,by simp[U,c2]⟩
 obtain⟨ls,M,U⟩:=key _ _ _ h1 h2;refine q9 C hg (cv:=.func (.func f) #[] (ls.map qE).toArray) ?_ (cD.func f rs ls M);unfold execOp; rw[ho];have:dD.map a.eval=(ls.map qE).toArray:=by
  apply vc;simp[<- U]
 simp[Instr.makeFunc,this]
def qRO{s:TypeId}{x:Operand}{fi:Nat}(C:iZ P G ρ I h w tm a)(ho:o.op = .fieldAddr s x fi){fields:Array Field}(hs:P.underlying s=some (.struct fields)){fd:Field}(hf:fields[fi]?=some fd){n:Nat}(hn:iw P fd.type=some n)(A:n≠0)
  {x':X} (hx:cG G x=some x') {p:cA} (hp:cH tm (.dG fd.offset x')=some p) (hg:p.iL d h=some (v,h',t)):fy ρ I h w ((execOp a.eval o).run P w) v h':=by
 have run:∀ b off,a.eval x = .pointer (some ⟨b,off,none⟩)->(execOp a.eval o).run P w = .ok (.value (.pointer (some ⟨b,off+fd.offset,none⟩))) w:=by
  intro b off e;unfold execOp; rw[ho];simp[Instr.fieldAt,run_underlying hs,hf,e,Instr.sureAddr,fieldPlace,FW hn,A,Ce]
 simp only[cH] at hp;split at hp
 ·rename_i r off h1;simp only[rJ] at hp;subst hp;obtain⟨l,hl,e⟩:=Sd (C.ev hx h1);exact q9 C hg (run _ _ e) (by rw[n5]; exact cD.ptr r _ l hl)
 ·rename_i row off h1;simp only[rJ] at hp;subst hp;have:=qz (C.ev hx h1);generalize hv:a.eval x=xv at this;cases this with|p _ _ M =>
  cases M with|dc _ _ b ob cv hI U =>
  exact q9 C hg (run _ _ hv) (by rw[n5]; exact cD.p _ _ (.dc row _ b ob cv hI U))
 ·cases hp
def JH{x:bt}{n:Nat}{v:Value}(hn:tM x=some n)(hx:fq ρ I x v):∃ k,v = .int k (n:Int):=by
 unfold tM at hn;split at hn
 ·rename_i k m;split at hn
  ·simp at hn; subst hn;exact⟨k,by rw[qCt hx]; congr 1; omega⟩
  ·cases hn
 ·cases hn
def Ob{A:X}{n:Nat}(h:(A.ev tm).bind tM=some n):∃ u,A.ev tm=some u/\tM u=some n:=yZ.1 h
def qQ2{ty e:TypeId}{x i:Operand}(C:iZ P G ρ I h w tm a)(ho:o.op = .indexAddr ty x i)(hs:P.underlying ty=some (.slice e)){sz:Nat}(hn:iw P e=some sz)(ai:sz≠0)
  {x' i':X} (hx:cG G x=some x') (hi:cG G i=some i') {p:cA} (hp:cH tm (.il sz x' i')=some p) (hg:p.iL d h=some (v,h',t)):fy ρ I h w ((execOp a.eval o).run P w) v h':=by
 have run:∀ b off len cap k ik,a.eval x = .slice (some ⟨b,off,none⟩) len cap->a.eval i = .int ik (k:Nat)->k<len->(execOp a.eval o).run P w = .ok (.value (.pointer (some ⟨b,off+k*sz,none⟩))) w:=by
  intro b off len cap k ik e1 e2 hk;have aj:(0:Int)<=(k:Int)/\(k:Int)<(len:Int):=bn
  unfold execOp; rw[ho];simp[Instr.indexAt,e1,e2,asIntOf,run_underlying hs,hk,FW hn,Ce]
 have M:∀ (tight:Bool) (rows:List (List bL)) (row:List bL) (k:Nat),fq ρ I (.v (.c (.p (.slice sz tight rows)))) (a.eval x)->(i'.ev tm).bind tM=some k->rows[k]?=some row->p = .pure (.pv (.dc row 0)) ->
   fy ρ I h w ((execOp a.eval o).run P w) v h':=by
  intro tight rows row k A hk gY ae;subst ae;obtain⟨u,U,aa⟩:=Ob hk;obtain⟨ik,e2⟩:=JH aa (C.ev hi U);have A:=qz A;generalize hv:a.eval x=xv at A;cases A with|p _ _ af =>
  cases af with|emp=>(simp at gY)|slice _ _ _ b ob cap cv ht hc kJ hI ag =>
  refine q9 C hg (run _ _ _ _ _ _ hv e2 (cQ.1 gY).1) (cD.p _ _ ?_);have:=eW.dc (I:=I) row 0 b (ob+k*sz) (cv k) (λj u hu=>hI k row j u gY hu) (λj u hu=>ag k row j u gY hu)
  simpa using this
 simp only[cH] at hp;split at hp
 ·rename_i ad tight rows k h1 h2;split at hp
  ·rename_i kJ;subst kJ;split at hp
   ·rename_i row gY;simp only[rJ] at hp;exact M tight rows row k (C.ev hx h1) h2 gY hp.symm
   ·cases hp
  ·cases hp
 ·rename_i ad rows r k h1 h2;split at hp
  ·rename_i kJ;subst kJ;split at hp
   ·rename_i row gY;simp only[rJ] at hp;have A:=qz (C.ev hx h1);generalize hv:a.eval x=xv at A;cases A with|gm _ _ _ b ob cap l ah e1 e2 e3 e4 =>
    exact M false rows row k (by rw[hv]; exact cD.p _ _ ah) h2 gY hp.symm
   ·cases hp
  ·cases hp
 ·rename_i r off len cap ad k h1 h2;split at hp
  ·rename_i ab;obtain⟨rfl,hk⟩:=ab;simp only[rJ] at hp;subst hp;obtain⟨u,U,aa⟩:=Ob h2;obtain⟨ik,e2⟩:=JH aa (C.ev hi U);have A:=qz (C.ev hx h1);generalize hv:a.eval x=xv at A;cases A with|cf _ _ _ _ _ cc l hl a1 a2 a3 =>
   refine q9 C hg (run _ _ _ _ _ _ hv e2 hk) ?_;rw[n5];exact cD.ptr r _ l hl
  ·cases hp
 ·cases hp
def qOj{ty e:TypeId}{len:Nat}{x i:Operand}(C:iZ P G ρ I h w tm a)(ho:o.op = .indexAddr ty x i)(hs:P.underlying ty=some (.array len e)){sz:Nat}(hn:iw P e=some sz)(ad:sz≠0)
  {x' i':X} (hx:cG G x=some x') (hi:cG G i=some i') {p:cA} (hp:cH tm (.lE len sz x' i')=some p) (hg:p.iL d h=some (v,h',t)):fy ρ I h w ((execOp a.eval o).run P w) v h':=by
 have run:∀ b off k ik,a.eval x = .pointer (some ⟨b,off,none⟩)->a.eval i = .int ik (k:Nat)->k<len->(execOp a.eval o).run P w = .ok (.value (.pointer (some ⟨b,off+k*sz,none⟩))) w:=by
  intro b off k ik e1 e2 hk;unfold execOp; rw[ho];simp[Instr.indexAt,e1,e2,asIntOf,run_underlying hs,Instr.sureAddr,hk,FW hn,Ce]
 simp only[cH] at hp;split at hp
 ·rename_i r off k h1 h2;split at hp
  ·rename_i hk;simp only[rJ] at hp;subst hp;obtain⟨u,M,U⟩:=Ob h2;obtain⟨ik,e2⟩:=JH U (C.ev hi M);obtain⟨l,hl,e1⟩:=Sd (C.ev hx h1);refine q9 C hg (run _ _ _ _ e1 e2 hk) ?_;rw[n5];exact cD.ptr r _ l hl
  ·cases hp
 ·rename_i row off k h1 h2;split at hp
  ·rename_i hk;simp only[rJ] at hp;subst hp;obtain⟨u,M,U⟩:=Ob h2;obtain⟨ik,e2⟩:=JH U (C.ev hi M);have A:=qz (C.ev hx h1);generalize hv:a.eval x=xv at A;cases A with|p _ _ aa =>
   cases aa with|dc _ _ b ob cv hI ab =>
   refine q9 C hg (run _ _ _ _ hv e2 hk) ?_;rw[n5];exact cD.p _ _ (.dc row _ b ob cv hI ab)
  ·cases hp
 ·cases hp
def qRA{ty:TypeId}{x i:Operand}(C:iZ P G ρ I h w tm a)(ho:o.op = .index ty x i)(hs:P.underlying ty=some .string)
  {x' i':X} (hx:cG G x=some x') (hi:cG G i=some i') {p:cA} (hp:cH tm (.index x' i')=some p) (hg:p.iL d h=some (v,h',t)):fy ρ I h w ((execOp a.eval o).run P w) v h':=by
 simp only[cH] at hp;split at hp
 ·rename_i s k h1 M;split at hp
  ·rename_i b hb;simp only[rJ] at hp;subst hp;obtain⟨u,U,aa⟩:=Ob M;obtain⟨ik,e2⟩:=JH aa (C.ev hi U);obtain⟨ba,e1,ab⟩:=Yr (C.ev hx h1);refine q9 C hg (cv:=.int .u8 b.toNat) ?_ (cD.p _ _ (.int _ _));subst ab;have hk:=(cQ.1 hb).1;have ad:k<ba.size:=by simpa using hk
   have A:ba[k]?=some b:=by
    have M:=(cQ.1 hb).2;rw[getElem?_pos ba k ad,<- M];rfl
   unfold execOp; rw[ho];simp[Instr.index,e1,e2,asIntOf,run_underlying hs,A]
  ·cases hp
 ·cases hp
def qMJ{x:Operand}{i:Nat}(C:iZ P G ρ I h w tm a)(ho:o.op = .extract x i){A:X}(hx:cG G x=some A){p:cA}(hp:cH tm (.extract A i)=some p)(M:p.iL d h=some (v,h',t)) :
  fy ρ I h w ((execOp a.eval o).run P w) v h':=by
 simp only[cH] at hp;split at hp
 ·rename_i vs h1;split at hp
  ·rename_i u hu;simp only[rJ] at hp;subst hp;obtain⟨arr,e,hc⟩:=C.ev hx h1;obtain⟨cv,c1,c2⟩:=hc.get i u hu;refine q9 C M (cv:=cv) ?_ c2;unfold execOp; rw[ho];have:arr[i]?=some cv:=by simpa using c1
   simp[Instr.extract,e,this]
  ·cases hp
 ·cases hp
end
end Go.AI
namespace Go.AI
variable [Sym]
section
variable {P:Program} {G:Nat->Option (List bL)} {ρ:Env} {I:eK} {h:bm} {w:World} {tm:TM bt} {a:Act}
variable {heap:Nat->Bool} {d:Nat} {v:bt} {h':bm} {t:Touch} {o:Oper}
def qBV{c:Call}{b:Builtin}(ho:o.op = .call c)(hb:c.callee = .builtin b) :
  execOp a.eval o=builtin b c.argTypes o.type (c.args.map λ| .const _=>true|_=>false) (c.args.map a.eval):=by
 unfold execOp; rw[ho];dsimp only;unfold resolve;rw[hb];rfl
def ye{c:Call}{xs:List X}(h:c.args.toList.mapM (cG G)=some xs){A:X}(hx:xs=[A]):∃ x,c.args=#[x]/\cG G x=some A:=by
 have h1:=wc h;subst hx;cases hl:c.args.toList with
 |nil=>rw[hl] at h1; exact h1.elim
 |cons x l =>
  rw[hl] at h1;cases l with
  |nil=>exact⟨x,by apply vc; simpa using hl,h1.1⟩
  |cons _ _=>exact h1.2.elim
def qTs{c:Call}{xs:List X}(h:c.args.toList.mapM (cG G)=some xs){A M:X}(hx:xs=[A,M]):∃ x y,c.args=#[x,y]/\cG G x=some A/\cG G y=some M:=by
 have h1:=wc h;subst hx;cases hl:c.args.toList with
 |nil=>rw[hl] at h1; exact h1.elim
 |cons x l =>
  rw[hl] at h1;cases l with
  |nil=>exact h1.2.elim
  |cons y l =>
   cases l with
   |nil=>exact⟨x,y,by apply vc; simpa using hl,h1.1,h1.2.1⟩
   |cons _ _=>exact h1.2.2.elim
def qIY{c:Call}{ty:TypeId}{x:Operand}(C:iZ P G ρ I h w tm a)(ho:o.op = .call c)(hb:c.callee = .builtin .len)(ha:c.args=#[x])(ht:c.argTypes=#[ty]){kd:Nat}
  (U:(kd=0/\P.underlying ty=some .string)\/(kd=2/\∃ e,P.underlying ty=some (.slice e)))
  {x':X} (hx:cG G x=some x') {p:cA} (hp:cH tm (.len kd x')=some p) (hg:p.iL d h=some (v,h',t)):fy ρ I h w ((execOp a.eval o).run P w) v h':=by
 have hex:execOp a.eval o=(do pure (.value (<- Builtin.len_ #[ty] o.type #[a.eval x])):Sem Next):=by rw[qBV ho hb,ha,ht]; simp only[Fb,dr,kL]; rfl
 simp only[cH] at hp;split at hp
 ·rename_i s h1;simp only[rJ] at hp;subst hp;obtain⟨b,e,hs⟩:=Yr (C.ev hx h1);have hu:P.underlying ty=some .string:=by rcases U with ⟨_,h⟩|⟨h,_⟩ <;> first|exact h|cases h
  exact q9 C hg (cv:=.int .i64 s.length) (by rw[hex]; subst hs; simp[Builtin.len_,e,run_underlying hu,goInt]) (cD.p _ _ (.int _ _))
 ·rename_i h1;simp only[rJ] at hp;subst hp;obtain⟨e,hu⟩:∃ e,P.underlying ty=some (.slice e):=by rcases U with ⟨h,_⟩|⟨_,h⟩ <;> first|exact h|cases h
  have A:=qz (C.ev hx h1);generalize hv:a.eval x=xv at A;cases A with|p _ _ M =>
  cases M;exact q9 C hg (cv:=.int .i64 0) (by rw[hex]; simp[Builtin.len_,hv,run_underlying hu,goInt]) (cD.p _ _ (.int _ _))
 ·rename_i rows h1;simp only[rJ] at hp;subst hp;obtain⟨e,hu⟩:∃ e,P.underlying ty=some (.slice e):=by rcases U with ⟨h,_⟩|⟨_,h⟩ <;> first|exact h|cases h
  have A:=qz (C.ev hx h1);generalize hv:a.eval x=xv at A;cases A with|p _ _ M =>
  cases M <;> exact q9 C hg (cv:=.int .i64 _) (by rw[hex]; simp[Builtin.len_,hv,run_underlying hu,goInt]) (cD.p _ _ (.int _ _))
 ·rename_i rows r h1;simp only[rJ] at hp;subst hp;obtain⟨e,hu⟩:∃ e,P.underlying ty=some (.slice e):=by rcases U with ⟨h,_⟩|⟨_,h⟩ <;> first|exact h|cases h
  have A:=qz (C.ev hx h1);generalize hv:a.eval x=xv at A;cases A;exact q9 C hg (cv:=.int .i64 rows.length) (by rw[hex]; simp[Builtin.len_,hv,run_underlying hu,goInt]) (cD.p _ _ (.int _ _))
 ·rename_i len cap sz h1;simp only[rJ] at hp;subst hp;obtain⟨e,hu⟩:∃ e,P.underlying ty=some (.slice e):=by rcases U with ⟨h,_⟩|⟨_,h⟩ <;> first|exact h|cases h
  have A:=qz (C.ev hx h1);generalize hv:a.eval x=xv at A;cases A;exact q9 C hg (cv:=.int .i64 len) (by rw[hex]; simp[Builtin.len_,hv,run_underlying hu,goInt]) (cD.p _ _ (.int _ _))
 ·cases hp
def qSO{c:Call}{ty e:TypeId}{n:Nat}{x:Operand}(C:iZ P G ρ I h w tm a)(ho:o.op = .call c)(hb:c.callee = .builtin .len)(A:c.args=#[x])(ht:c.argTypes=#[ty])(hu:P.underlying ty=some (.array n e))
  {p:cA} (hp:cH tm (.mv (.k (.pv (.int .i64 n))))=some p) (M:p.iL d h=some (v,h',t)):fy ρ I h w ((execOp a.eval o).run P w) v h':=by
 have hex:execOp a.eval o=(do pure (.value (<- Builtin.len_ #[ty] o.type #[a.eval x])):Sem Next):=by rw[qBV ho hb,A,ht]; simp only[Fb,dr,kL]; rfl
 simp only[cH,X.ev,iO,rJ] at hp;subst hp;refine q9 C M (cv:=.int .i64 n) ?_ (cD.p _ _ (.int _ _));rw[hex];simp[Builtin.len_,run_underlying hu,goInt]
def qFp:∀ {cs:List Cell}{vs:List Value}{s:List UInt8},cS (cD ρ I) cs vs->bytesOf cs=some s->∃ ns:List Int,vs=ns.map (Value.int .u8)/\s=ns.map λn=>UInt8.ofNat n.toNat:=by
 intro cs
 induction cs with
 |nil=>intro vs s h e; cases vs with
  |nil=>simp[bytesOf] at e; subst e; exact⟨[],rfl,rfl⟩
  |cons _ _=>exact h.elim
 |cons c cs A =>
  intro vs s h e;cases vs with
  |nil=>exact h.elim
  |cons x vs =>
   unfold bytesOf at e;split at e
   ·rename_i h0; cases h0
   ·rename_i n M heq;obtain⟨rfl,rfl⟩:=List.cons.inj heq;cases hb:bytesOf cs with
    |none=>rw[hb] at e; cases e
    |some s' =>
     rw[hb] at e;simp at e;subst e;obtain⟨ns,h1,U⟩:=A h.2 hb;have:=qCt (ρ:=ρ) (I:=I) h.1;exact⟨n::ns,by simp[this,h1],by simp[U]⟩
   ·cases e
def qGT:∀ {rows:List (List bL)}{s:List UInt8},fP rows=some s->bytesOf (bp rows.flatten)=some s/\∀ (i:Nat) r,rows[i]?=some r->r.length=1:=by
 intro rows
 induction rows with
 |nil=>intro s e; simp[fP] at e; subst e; exact⟨rfl,λi r h=>by simp at h⟩
 |cons r rows M =>
  intro s e;unfold fP at e;split at e
  ·rename_i h0; cases h0
  ·rename_i n cs heq;obtain⟨rfl,rfl⟩:=List.cons.inj heq;cases hb:fP rows with
   |none=>rw[hb] at e; cases e
   |some s' =>
    rw[hb] at e;simp at e;subst e;obtain⟨h1,U⟩:=M hb;refine⟨?_,λi r A=>?_⟩
    ·show(bytesOf (bp rows.flatten)).map (UInt8.ofNat n.toNat::·)=_;rw[h1]; rfl
    ·cases i with
     |zero=>simp at A; subst A; rfl
     |succ i=>exact U i r (by simpa using A)
  ·cases e
def qL7:∀ (ns:List Int) (acc:ByteArray) (w:World),Sem.run P (forIn (ns.map (Value.int .u8)) acc λc s=>(match c with
   |.int .u8 n=>pure (ForInStep.yield (s.push (UInt8.ofNat n.toNat)))
   |x=>do
    stuck "bytesToString: byte expected"
    pure (ForInStep.yield s):Sem (ForInStep ByteArray))) w = .ok ⟨(acc.data.toList++ns.map λn=>UInt8.ofNat n.toNat).toArray⟩ w:=by
 intro ns
 induction ns with
 |nil=>intro acc w; simp
 |cons n ns A =>
  intro acc w;simp only[dr,List.forIn_cons,Sem.run_bind,Sem.run_pure,Result.andThen_ok];rw[A];simp
def qDR{b off n cap:Nat}{ns:List Int}(hn:ns.length=n)(hc:∀ (j:Nat) v,(ns.map (Value.int .u8))[j]?=some v->w.cell? ⟨b,off+j,none⟩=some v) :
  (Conv.bytesToString (.slice (some ⟨b,off,none⟩) n cap)).run P w = .ok (.string ⟨(ns.map λn=>UInt8.ofNat n.toNat).toArray⟩) w:=by
 have A:=qDN (P:=P) (ns.map (Value.int .u8)) hc;subst hn;rw[dj] at A;unfold Conv.bytesToString;simp only[Sem.run_bind,A,Result.andThen_ok];rw[List.forIn_toArray];refine jD (dh (λr=>Result.andThen r (λa w'=>Sem.run P (pure (Value.string a)) w')) (qL7 (P:=P) ns ByteArray.empty w)) ?_;rfl
def qEV(A:Addr):(loadCells A 0).run P w = .ok #[] w:=by
 simp[loadCells,loadCellsFrom]
def qF7{A:Addr}{b off n cap:Nat}{ns:List Int}(hn:ns.length=n)(hc:∀ (j:Nat) v,(ns.map (Value.int .u8))[j]?=some v->w.cell? ⟨b,off+j,none⟩=some v)(he:n=0\/A=⟨b,off,none⟩) :
  (Conv.bytesToString (.slice (some A) n cap)).run P w = .ok (.string ⟨(ns.map λn=>UInt8.ofNat n.toNat).toArray⟩) w:=by
 rcases he with rfl|rfl
 ·obtain rfl:ns=[]:=Fa hn;unfold Conv.bytesToString;simp only[Sem.run_bind,qEV,Result.andThen_ok];rfl
 ·exact qDR hn hc
end
end Go.AI
