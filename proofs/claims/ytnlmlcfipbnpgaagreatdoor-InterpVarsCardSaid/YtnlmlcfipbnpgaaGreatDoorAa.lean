/- An abstract interpreter of the model's code,shown sound. Own work. Condition: what each theorem names. -/
import Derived.Orders
import Derived.Scope
import Derived.Laws.Append
import Derived.Laws.CopyRow
import Derived.Laws.IdiomCopy
import Derived.Laws.Slices
import Derived.Laws.Strings
import Derived.Laws.Tables
import Derived.Laws.Rows
import Derived.Laws.StructEq
set_option linter.all false
set_option linter.unusedVariables false
set_option linter.unusedSimpArgs false
set_option linter.unusedSectionVars false
namespace Go.AI
noncomputable section
inductive TM (α:Type) where
 |nil
 |node (l:TM α) (v:Option α) (r:TM α)
namespace TM
variable {α:Type}
def get(t:TM α):Nat->Option α :=
 TM.rec (motive:=λ_=>Nat->Option α) (λ_=>none) (λ_ v _ gl gr n=>Nat.rec (motive:=λ_=>Option α) v (λm _=>Nat.rec (motive:=λ_=>Option α) (gl (Nat.div m 2)) (λ_ _=>gr (Nat.div m 2)) (Nat.mod m 2)) n) t
def new(a:α)(f:Nat):Nat->TM α :=
 Nat.rec (motive:=λ_=>Nat->TM α) (λ_ => .nil) (λ_ ih n=>Nat.rec (motive:=λ_=>TM α) (.node .nil (some a) .nil) (λm _=>Nat.rec (motive:=λ_=>TM α) (.node (ih (Nat.div m 2)) none .nil) (λ_ _ => .node .nil none (ih (Nat.div m 2))) (Nat.mod m 2)) n) f
def set(a:α)(t:TM α):Nat->TM α :=
 TM.rec (motive:=λ_=>Nat->TM α) (λn=>new a 20 n) (λl v r sl sr n=>Nat.rec (motive:=λ_=>TM α) (.node l (some a) r) (λm _=>Nat.rec (motive:=λ_=>TM α) (.node (sl (Nat.div m 2)) v r) (λ_ _ => .node l v (sr (Nat.div m 2))) (Nat.mod m 2)) n) t
end TM
inductive Ref where
 |im (i:Nat)
 |own (d g:Nat)
 deriving DecidableEq
inductive Site where
 |im (i:Nat)
 |own (d:Nat)
 deriving DecidableEq
def Ref.site:Ref->Site
 |.im i => .im i
 |.own d _ => .own d
inductive PVal where
 |bool (b:Bool)
 |int (k:IntKind) (n:Int)
 |str (s:List UInt8)
 |nilptr|nilslice|nilmap|nilfunc|niliface
 |slice (sz:Nat) (tight:Bool) (rows:List (List PVal))
 |pptr (row:List PVal) (off:Nat)
 |pmap (es:List (PVal×Bool×List PVal))
 |sym (k:IntKind) (i:Nat) (off lo hi:Int)
inductive Cell where
 |p (v:PVal)
 |ptr (r:Ref) (off:Nat)
 |sref (r:Ref) (off len:Nat) (cap:Option Nat) (sz:Nat)
 |mref (r:Ref)
 |func (f:FuncId) (caps:List Ref)
 |tsl (sz:Nat) (rows:List (List PVal)) (r:Ref)
 |junk
inductive Comp where
 |c (x:Cell)
 |agg (cs:List Cell)
inductive TVal where
 |v (x:Comp)
 |tup (vs:List Comp)
def TVal.undef:TVal := .tup []
abbrev TVal.cell(x:Cell):TVal := .v (.c x)
abbrev TVal.pv(x:PVal):TVal := .v (.c (.p x))
inductive AObj where
 |cells (cs:List Cell) (imm:Nat)
 |map (es:List (PVal×Comp×Nat)) (clock:Nat)
 |siter (s:List UInt8) (pos:Nat)
 |dead
structure Heap where
 ims:List AObj
 owns:TM (Nat×AObj)
namespace Heap
def gen(h:Heap)(d:Nat):Nat:=match h.owns.get d with|some (g,_)=>g|none=>0
def get(h:Heap):Ref->Option AObj
 |.im i=>match h.ims[i]? with|some .dead=>none|o=>o
 |.own d g=>match h.owns.get d with
  |some (g',o)=>bif Nat.beq g g' then (match o with | .dead=>none|o=>some o) else none
  |none=>none
def put(h:Heap)(r:Ref)(o:AObj):Heap :=
 match r with
 |.im i=>{ h with ims:=h.ims.set i o }
 |.own d g=>{ h with owns:=h.owns.set (g,o) d }
end Heap
inductive X where
 |t (n:Nat)
 |k (v:TVal)
inductive AOp where
 |mv (x:X)
 |pick (c a b:X)
 |alloc (zero:List Cell) (push:Bool)
 |box (x:X) (push:Bool)
 |build (zero:List Cell) (parts:List (Nat×Nat×X))
 |bslice (sz n:Nat) (zero:List Cell) (parts:List (Nat×X)) (heap:Bool)
 |load (agg:Bool) (n:Nat) (x:X)
 |store (n:Nat) (a v:X)
 |nilck (x:X)
 |bin (op:BinOp) (kd:Nat) (x y:X)
 |un (op:UnOp) (x:X)
 |toInt (k:IntKind) (x:X)
 |toStr (x:X)
 |toBytes (x:X)
 |same (x:X)
 |mkfn (f:FuncId) (caps:List X)
 |mkmap
 |mkslice (sz:Nat) (bytes:Nat) (zero:List Cell) (len cap:X) (pu:Bool)
 |slice (sz:Nat) (str:Bool) (x:X) (lo hi mx:Option X)
 |sliceA (n sz:Nat) (x:X) (lo hi:Option X)
 |faddr (off:Nat) (x:X)
 |field (off n:Nat) (agg:Bool) (x:X)
 |iaddr (sz:Nat) (x i:X)
 |iaddrA (n sz:Nat) (x i:X)
 |index (x i:X)
 |lookup (kk:Nat) (zero:Comp) (x i:X) (ok:Bool)
 |mapup (kk:Nat) (m k v:X)
 |rangeS (x:X)
 |nextS (x:X)
 |extract (x:X) (i:Nat)
 |call (f:X) (args:List X)
 |len (kd:Nat) (x:X)
 |cap (x:X)
 |append (sz bytes:Nat) (heap:Bool) (a b:X)
 |copy (sz:Nat) (a b:X)
 |minmax (mx:Bool) (xs:List X)
 |bad
structure AOper where
 dst:Option Nat
 op:AOp
 guard:Option (Nat×Bool)
inductive ACode where
 |skip
 |reg (ops:List AOper) (pairs:List (Nat×Nat))
 |seq (a b:ACode)
 |cond (c:X) (thn els:ACode)
 |block (id:Nat) (body:ACode)
 |loop (body:ACode)
 |exit (id:Nat)
 |scope (body:ACode)
 |ret
 |bad
inductive ARes where
 |t (n:Nat)
 |cell (n:Nat) (agg:Bool) (size:Nat)
structure AFunc where
 np:Nat
 res:List ARes
 frz:Bool
 body:ACode
abbrev Oracle:=FuncId->List TVal->List AObj->Option (TVal×List AObj)
structure St where
 tm:TM TVal
 h:Heap
structure Res where
 out:Ref->TVal
 ups:List (Ref×AObj)
 new:Option AObj
 push:Bool
inductive Plan where
 |go (needs:List Ref) (k:List AObj->Option Res)
 |call (f:FuncId) (args:List TVal)
def Plan.pure(v:TVal):Plan := .go [] λ_=>some ⟨λ_=>v,[],none,false⟩
def Plan.mk1(o:AObj)(push:Bool)(mk:Ref->TVal):Plan := .go [] λ_=>some ⟨mk,[],some o,push⟩
def Plan.read(r:Ref)(k:AObj->Option TVal):Plan := .go [r] λ
 |[o]=>(k o).map λv=>⟨λ_=>v,[],none,false⟩
 |_=>none
def Plan.write(r:Ref)(k:AObj->Option (TVal×AObj)):Plan := .go [r] λ
 |[o]=>(k o).map λp=>⟨λ_=>p.1,[(r,p.2)],none,false⟩
 |_=>none
def X.ev(tm:TM TVal):X->Option TVal
 |.t n=>tm.get n
 |.k v=>some v
def intBin(op:BinOp)(k:IntKind)(x y:Int):Option PVal :=
 match op with
 |.add=>some (.int k (k.wrap (x+y)))
 |.sub=>some (.int k (k.wrap (x - y)))
 |.mul=>some (.int k (k.wrap (x*y)))
 |.quo=>if y=0 then none else some (.int k (k.wrap (x.tdiv y)))
 |.rem=>if y=0 then none else some (.int k (x.tmod y))
 |.and=>some (.int k (k.wrap (BitVec.ofInt k.bits x &&& BitVec.ofInt k.bits y).toNat))
 |.or=>some (.int k (k.wrap (BitVec.ofInt k.bits x ||| BitVec.ofInt k.bits y).toNat))
 |.xor=>some (.int k (k.wrap (BitVec.ofInt k.bits x ^^^ BitVec.ofInt k.bits y).toNat))
 |.andNot=>some (.int k (k.wrap (BitVec.ofInt k.bits x &&& ~~~BitVec.ofInt k.bits y).toNat))
 |.eql=>some (.bool (x==y))
 |.neq=>some (.bool (x != y))
 |.lss=>some (.bool (x<y))
 |.leq=>some (.bool (x<=y))
 |.gtr=>some (.bool (x>y))
 |.geq=>some (.bool (x>=y))
 |.shl | .shr=>none
def shiftBin(op:BinOp)(k:IntKind)(x y:Int):Option PVal :=
 if y<0 then none else
 match op with
 |.shl=>some (.int k (k.wrap (x*2 ^ (min y.toNat k.bits))))
 |.shr=>some (.int k (x.fdiv (2 ^ (min y.toNat k.bits))))
 |_=>none
def bless:List UInt8->List UInt8->Bool
 |_,[]=>false
 |[],_::_=>true
 |a::x,b::y=>a<b||(a==b&&bless x y)
def strBin(op:BinOp)(x y:List UInt8):Option PVal :=
 match op with
 |.add=>if x.length+y.length<=2 ^ 62 then some (.str (x++y)) else none
 |.eql=>some (.bool (x==y))
 |.neq=>some (.bool (!(x==y)))
 |.lss=>some (.bool (bless x y))
 |.leq=>some (.bool (bless x y||x==y))
 |.gtr=>some (.bool (!(bless x y||x==y)))
 |.geq=>some (.bool (!(bless x y)))
 |_=>none
def isNil:Cell->Option Bool
 |.p .nilptr | .p .nilslice | .p .nilmap | .p .nilfunc=>some true
 |.p (.slice ..) | .p (.pptr ..) | .p (.pmap ..) | .ptr .. | .sref .. | .tsl .. | .mref .. | .func .. => some false
 |_=>none
def nilKind:Cell->Nat
 |.p .nilptr | .p (.pptr ..) | .ptr .. => 1
 |.p .nilslice | .p (.slice ..) | .sref .. | .tsl .. => 2
 |.p .nilmap | .p (.pmap ..) | .mref .. => 3
 |.p .nilfunc | .func .. => 4
 |_=>0
def eqNil(kd:Nat)(x y:Cell):Option Bool :=
 if nilKind x=kd/\nilKind y=kd then
  match isNil x,isNil y with
  |some true,some b=>some b
  |some b,some true=>some b
  |_,_=>none
 else none
def symBin(op:BinOp)(k:IntKind)(i:Nat)(off lo hi:Int)(k':IntKind)(c:Int):Option Cell :=
 if k=k'/\lo<=hi then
  match op with
  |.add=>if k.min<=lo+c/\hi+c<=k.max then some (.p (.sym k i (off+c) (lo+c) (hi+c))) else none
  |.sub=>if k.min<=lo - c/\hi - c<=k.max then some (.p (.sym k i (off - c) (lo - c) (hi - c))) else none
  |.lss=>if hi<c then some (.p (.bool true)) else if c<=lo then some (.p (.bool false)) else none
  |.leq=>if hi<=c then some (.p (.bool true)) else if c<lo then some (.p (.bool false)) else none
  |.gtr=>if c<lo then some (.p (.bool true)) else if hi<=c then some (.p (.bool false)) else none
  |.geq=>if c<=lo then some (.p (.bool true)) else if hi<c then some (.p (.bool false)) else none
  |.eql=>if hi<c\/c<lo then some (.p (.bool false)) else none
  |.neq=>if hi<c\/c<lo then some (.p (.bool true)) else none
  |_=>none
 else none
def binV(op:BinOp)(kd:Nat)(x y:Cell):Option Cell :=
 match x,y with
 |.p (.int k a),.p (.int k' b) =>
  match op with
  |.shl | .shr=>(shiftBin op k a b).map .p
  |_=>if k=k' then (intBin op k a b).map .p else none
 |.p (.str a),.p (.str b)=>(strBin op a b).map .p
 |.p (.bool a),.p (.bool b)=>if kd=5 then (match op with
  |.eql=>some (.p (.bool (a==b)))
  |.neq=>some (.p (.bool (!(a==b))))
  |_=>none) else none
 |.p (.sym k i off lo hi),.p (.int k' c)=>symBin op k i off lo hi k' c
 |x,y=>match op with
  |.eql=>(eqNil kd x y).map λb => .p (.bool b)
  |.neq=>(eqNil kd x y).map λb => .p (.bool (!b))
  |_=>none
def eqCells:Nat->List Cell->List Cell->Option Bool
 |n,[],[]=>if n=0 then some true else none
 |n,.p (.int k a)::xs,.p (.int k' b)::ys=>if n % 4=1/\k=k' then (eqCells (n / 4) xs ys).map λr=>(a==b)&&r else none
 |n,.p (.str a)::xs,.p (.str b)::ys=>if n % 4=2 then (eqCells (n / 4) xs ys).map λr=>(a==b)&&r else none
 |n,.p (.bool a)::xs,.p (.bool b)::ys=>if n % 4=3 then (eqCells (n / 4) xs ys).map λr=>(a==b)&&r else none
 |_,_,_=>none
def binAgg(op:BinOp)(kd:Nat)(xs ys:List Cell):Option Cell :=
 if 8<=kd then
  match op with
  |.eql=>(eqCells (kd - 8) xs ys).map λb => .p (.bool b)
  |.neq=>(eqCells (kd - 8) xs ys).map λb => .p (.bool (!b))
  |_=>none
 else none
def unV(op:UnOp)(x:Cell):Option Cell :=
 match op,x with
 |.neg,.p (.int k n)=>some (.p (.int k (k.wrap (0 - n))))
 |.xor,.p (.int k n)=>(intBin .xor k (if k.signed then -1 else k.max) n).map .p
 |.not,.p (.bool b)=>some (.p (.bool !b))
 |_,_=>none
def splice(cs:List Cell)(off:Nat)(vs:List Cell):List Cell :=
 cs.take off++vs++cs.drop (off+vs.length)
def Comp.cells:Comp->List Cell
 |.c x=>[x]
 |.agg cs=>cs
def partOf(agg:Bool)(n:Nat)(cs:List Cell)(off:Nat):Option TVal :=
 if agg then (let row:=(cs.drop off).take n; if row.length=n then some (.v (.agg row)) else none)
 else match cs[off]? with
  |some x=>some (.v (.c x))
  |none=>none
def pcells(ps:List PVal):List Cell:=ps.map .p
def unp:Cell->Option PVal
 |.p v=>some v
 |_=>none
def unps(cs:List Cell):Option (List PVal):=cs.mapM unp
def asN(v:TVal):Option Nat:=match v with | .v (.c (.p (.int _ n)))=>if 0<=n then some n.toNat else none|_=>none
def bytesOf:List Cell->Option (List UInt8)
 |[]=>some []
 |.p (.int .u8 n)::cs=>(bytesOf cs).map (UInt8.ofNat n.toNat::·)
 |_=>none
def bytesOfRows:List (List PVal)->Option (List UInt8)
 |[]=>some []
 |[.int .u8 n]::cs=>(bytesOfRows cs).map (UInt8.ofNat n.toNat::·)
 |_=>none
def byteCells(s:List UInt8):List Cell:=s.map λb => .p (.int .u8 b.toNat)
def chunk(sz:Nat):Nat->List Cell->Option (List (List PVal))
 |0,_=>some []
 |n+1,cs=>do
  let row <- unps (cs.take sz)
  if row.length=sz then pure (row::(<- chunk sz n (cs.drop sz))) else none
def fillA(cells:List Cell):List (Nat×Nat×Comp)->Option (List Cell)
 |[]=>some cells
 |(off,size,v)::rest =>
  if v.cells.length=size/\off+size<=cells.length then fillA (splice cells off v.cells) rest else none
def rep(n:Nat)(zero:List Cell):List Cell :=
 match n with
 |0=>[]
 |n+1=>zero++rep n zero
def srcRef:TVal->Option Ref
 |.v (.c (.sref r ..))=>some r
 |_=>none
def dstRef:TVal->Option Ref
 |.v (.c (.sref r ..))=>some r
 |.v (.c (.tsl _ _ r))=>some r
 |_=>none
def srcCells(sz:Nat)(b:TVal)(o:Option AObj):Option (List Cell×Nat) :=
 match b,o with
 |.v (.c (.p .nilslice)),none=>some ([],0)
 |.v (.c (.p (.str s))),none=>if sz=1 then some (byteCells s,s.length) else none
 |.v (.c (.p (.slice sz' _ rows))),none=>if sz'=sz then some (pcells rows.flatten,rows.length) else none
 |.v (.c (.tsl sz' rows _)),none=>if sz'=sz then some (pcells rows.flatten,rows.length) else none
 |.v (.c (.sref _ off len _ sz')),some (.cells cs _) =>
  if sz'=sz/\off+len*sz<=cs.length then some ((cs.drop off).take (len*sz),len) else none
 |_,_=>none
def freshRow(sz bytes:Nat)(push:Bool)(cs:List Cell)(len:Nat)(ups:List (Ref×AObj)):Option Res :=
 if len*bytes<=2 ^ 47 then some ⟨λr => .v (.c (.sref r 0 len none sz)),ups,some (.cells cs 0),push⟩ else none
def growRow(sz bytes:Nat)(rows:List (List PVal))(new:List Cell)(n:Nat)(ups:List (Ref×AObj)):Option Res :=
 match chunk sz n new with
 |some rs=>if (rows.length+n)*bytes<=2 ^ 47 then some ⟨λr => .v (.c (.tsl sz (rows++rs) r)),ups,some (.cells [] 0),false⟩ else none
 |none=>none
def isSl:TVal->Bool
 |.v (.c (.p .nilslice)) | .v (.c (.p (.slice ..))) | .v (.c (.tsl ..)) | .v (.c (.sref ..))=>true
 |_=>false
def appendTo(sz bytes:Nat)(heap:Bool)(a:TVal)(o:Option AObj)(new:List Cell)(n:Nat):Option Res :=
 if n=0 then (if isSl a then some ⟨λ_=>a,[],none,false⟩ else none) else
 match a,o with
 |.v (.c (.p .nilslice)),none=>if heap then freshRow sz bytes true new n [] else growRow sz bytes [] new n []
 |.v (.c (.p (.slice sz' true rows))),none=>if sz'=sz then
   (if heap then freshRow sz bytes true (pcells rows.flatten++new) (rows.length+n) [] else growRow sz bytes rows new n []) else none
 |.v (.c (.tsl sz' rows r)),some (.cells [] 0)=>if sz'=sz then growRow sz bytes rows new n [(r,.dead)] else none
 |.v (.c (.sref r off len (some cap) sz')),some (.cells cs imm) =>
  if sz'=sz/\off+len*sz<=cs.length then
   if len+n<=cap then
    if imm<=off+len*sz/\off+(len+n)*sz<=cs.length then
     some ⟨λ_ => .v (.c (.sref r off (len+n) (some cap) sz)),[(r,.cells (splice cs (off+len*sz) new) imm)],none,false⟩
    else none
   else freshRow sz bytes heap ((cs.drop off).take (len*sz)++new) (len+n) []
  else none
 |.v (.c (.sref r off len none sz')),some (.cells cs imm) =>
  if sz'=sz/\off+len*sz<=cs.length/\imm<=off+len*sz then
   if (len+n)*bytes<=2 ^ 47 then
    some ⟨λr => .v (.c (.sref r 0 (len+n) none sz)),[(r,.dead)],some (.cells ((cs.drop off).take (len*sz)++new) (imm - off)),heap⟩
   else none
  else none
 |_,_=>none
def zipNeeds:Option Ref->Option Ref->List Ref
 |none,none=>[]
 |some r,none|none,some r=>[r]
 |some r,some s=>[r,s]
def splitNeeds:Option Ref->Option Ref->List AObj->Option (Option AObj×Option AObj)
 |none,none,[]=>some (none,none)
 |some _,none,[a]=>some (some a,none)
 |none,some _,[b]=>some (none,some b)
 |some _,some _,[a,b]=>some (some a,some b)
 |_,_,_=>none
def tightOf(t:Bool)(h:Nat):Option Nat->Bool
 |none=>t
 |some m=>h==m
def sliceV(tsz:Nat)(str:Bool)(x:Cell)(lo hi:Option Nat)(mx:Option Nat):Option Cell :=
 let l:=lo.getD 0
 if mx.isSome&&hi.isNone then none else
 if str then
 match x with
 |.p (.str s)=>let h:=hi.getD s.length
  if mx.isNone/\l<=h/\h<=s.length then some (.p (.str ((s.take h).drop l))) else none
 |_=>none
 else match x with
 |.p .nilslice=>if l=0/\hi.getD 0=0/\mx.getD 0=0 then some (.p .nilslice) else none
 |.p (.slice sz tight rows)=>let h:=hi.getD rows.length
  if sz=tsz/\l<=h/\h<=mx.getD rows.length/\mx.getD rows.length<=rows.length then
   some (.p (.slice sz (tightOf (tight&&h==rows.length) h mx) ((rows.take h).drop l)))
  else none
 |.tsl sz rows r=>let h:=hi.getD rows.length
  if sz=tsz/\l<=h/\h<=mx.getD rows.length/\mx.getD rows.length<=rows.length then
   if mx.isNone/\h=rows.length/\l<h then some (.tsl sz (rows.drop l) r)
   else some (.p (.slice sz (tightOf false h mx) ((rows.take h).drop l)))
  else none
 |.sref r off len cap sz=>let h:=hi.getD len
  if sz=tsz then
  if h=l/\h<=len/\mx.isNone/\0<l then some (.p (.slice sz false [])) else
  match mx with
  |none=>if l<=h/\h<=cap.getD len/\(l=0\/l<cap.getD len) then some (.sref r (off+l*sz) (h - l) (cap.map (· - l)) sz) else none
  |some m=>if l<=h/\h<=m/\m<=cap.getD len/\l<m then some (.sref r (off+l*sz) (h - l) (some (m - l)) sz) else none
  else none
 |_=>none
def keyEq(kk:Nat):PVal->PVal->Option Bool
 |.int k a,.int k' b=>if kk=1/\k=k' then some (a==b) else none
 |.str a,.str b=>if kk=2 then some (a==b) else none
 |.bool a,.bool b=>if kk=3 then some (a==b) else none
 |_,_=>none
def findE{α:Type}(kk:Nat)(key:PVal):List (PVal×α)->Nat->Option (Option (Nat×α))
 |[],_=>some none
 |(k,v)::es,i=>match keyEq kk key k with
  |some true=>some (some (i,v))
  |some false=>findE kk key es (i+1)
  |none=>none
def pmComp(e:PVal×Bool×List PVal):PVal×Comp:=(e.1,if e.2.1 then .agg (pcells e.2.2) else match e.2.2 with|[x] => .c (.p x)|l => .agg (pcells l))
def found(zero:Comp)(ok:Bool):Option (Nat×Comp)->TVal
 |some (_,v)=>if ok then .tup [v,.c (.p (.bool true))] else .v v
 |none=>if ok then .tup [zero,.c (.p (.bool false))] else .v zero
def optN(tm:TM TVal):Option X->Option (Option Nat)
 |none=>some none
 |some x=>match x.ev tm with
  |some v=>(asN v).map some
  |none=>none
def refOf:TVal->Option Ref
 |.v (.c (.ptr r 0))=>some r
 |_=>none
def utf8At(s:List UInt8)(pos:Nat):Nat×Nat:=Utf8.decode ⟨s.toArray⟩ pos
def tInt:Option TVal->Option (IntKind×Int)
 |some (.v (.c (.p (.int k n))))=>some (k,n)
 |_=>none
def foldMM(mx:Bool):Int->List (Option TVal)->Option Int
 |m,[]=>some m
 |m,x::xs=>match tInt x with
  |some (_,n)=>foldMM mx (if mx then (if m<n then n else m) else (if n<m then n else m)) xs
  |none=>none
def symMM(mx:Bool)(k:IntKind)(i:Nat)(off lo hi:Int)(k':IntKind)(c:Int):Option PVal :=
 if k=k'/\lo<=hi then
  if mx then (if c<=lo then some (.sym k i off lo hi) else if hi<=c then some (.int k c) else none)
  else (if hi<=c then some (.sym k i off lo hi) else if c<=lo then some (.int k c) else none)
 else none
def minmaxV(mx:Bool)(vs:List (Option TVal)):Option PVal:=match vs with
 |x::rest=>match tInt x with
  |some (k,n)=>(foldMM mx n rest).map λm => .int k m
  |none=>match x,rest with
   |some (.v (.c (.p (.sym k i off lo hi)))),[some (.v (.c (.p (.int k' c))))]=>symMM mx k i off lo hi k' c
   |_,_=>none
 |[]=>none
def plan(tm:TM TVal):AOp->Option Plan
 |.mv x=>(x.ev tm).map .pure
 |.same x=>match x.ev tm with
  |some (.v (.c (.p (.str s))))=>some (.pure (.pv (.str s)))
  |_=>none
 |.pick c a b=>match c.ev tm with
  |some (.v (.c (.p (.bool true))))=>(a.ev tm).map .pure
  |some (.v (.c (.p (.bool false))))=>(b.ev tm).map .pure
  |_=>none
 |.alloc zero push=>some (.mk1 (.cells zero 0) push λr => .v (.c (.ptr r 0)))
 |.box x push=>match x.ev tm with
  |some (.v v)=>some (.mk1 (.cells v.cells 0) push λr => .v (.c (.ptr r 0)))
  |_=>none
 |.build zero parts=>do
  let ps <- parts.mapM λp=>match p.2.2.ev tm with|some (.v v)=>some (p.1,p.2.1,v)|_=>none
  let cs <- fillA zero ps
  pure (.pure (.v (.agg cs)))
 |.bslice sz n zero parts heap=>do
  let ps <- parts.mapM λp=>match p.2.ev tm with|some (.v v)=>some (p.1*sz,sz,v)|_=>none
  let cs <- fillA (rep n zero) ps
  match (if heap then none else chunk sz n cs) with
  |some rows=>pure (.pure (.v (.c (.p (.slice sz true rows)))))
  |none=>pure (.mk1 (.cells cs 0) heap λr => .v (.c (.sref r 0 n (some n) sz)))
 |.load agg n x=>match x.ev tm with
  |some (.v (.c (.ptr r off)))=>some (.read r λ| .cells cs _=>partOf agg n cs off|_=>none)
  |some (.v (.c (.p (.pptr row off))))=>(partOf agg n (pcells row) off).map .pure
  |_=>none
 |.store n a v=>match a.ev tm,v.ev tm with
  |some (.v (.c (.ptr r off))),some (.v x)=>some (.write r λ
   |.cells cs imm=>if imm<=off/\x.cells.length=n/\off+n<=cs.length then some (.undef,.cells (splice cs off x.cells) imm) else none
   |_=>none)
  |_,_=>none
 |.nilck x=>match x.ev tm with
  |some (.v (.c (.p .nilptr)))|some (.v (.c (.p .niliface)))|some (.v (.c (.p .nilfunc)))|some (.v (.c .junk))=>none
  |some v=>some (.pure v)
  |none=>none
 |.bin op kd x y=>match x.ev tm,y.ev tm with
  |some (.v (.c a)),some (.v (.c b))=>(binV op kd a b).map λc => .pure (.v (.c c))
  |some (.v (.agg a)),some (.v (.agg b))=>(binAgg op kd a b).map λc => .pure (.v (.c c))
  |_,_=>none
 |.un op x=>match x.ev tm with
  |some (.v (.c a))=>(unV op a).map λc => .pure (.v (.c c))
  |_=>none
 |.toInt k x=>match x.ev tm with
  |some (.v (.c (.p (.int _ n))))=>some (.pure (.pv (.int k (k.wrap n))))
  |_=>none
 |.toStr x=>match x.ev tm with
  |some (.v (.c (.p .nilslice)))=>some (.pure (.pv (.str [])))
  |some (.v (.c (.p (.slice 1 _ rows))))|some (.v (.c (.tsl 1 rows _)))=>(bytesOfRows rows).map λs => .pure (.pv (.str s))
  |some (.v (.c (.sref r off len _ 1)))=>some (.read r λ
   |.cells cs _=>if off+len<=cs.length then (bytesOf ((cs.drop off).take len)).map λs => .pv (.str s) else none
   |_=>none)
  |_=>none
 |.toBytes x=>match x.ev tm with
  |some (.v (.c (.p (.str s))))=>if s.length<=2 ^ 40 then some (.mk1 (.cells (byteCells s) 0) false λr => .v (.c (.sref r 0 s.length none 1))) else none
  |_=>none
 |.mkfn f caps=>do
  let rs <- caps.mapM λx=>(x.ev tm).bind refOf
  pure (.pure (.v (.c (.func f rs))))
 |.mkmap=>some (.mk1 (.map [] 0) false λr => .v (.c (.mref r)))
 |.mkslice sz bytes zero len cap pu=>match (len.ev tm).bind asN,(cap.ev tm).bind asN with
  |some l,some c=>if l<=c/\c*bytes<=2 ^ 40/\c<=2 ^ 40 then (match (bif pu&&Nat.beq l c then chunk sz c (rep c zero) else none) with
   |some rows=>some (.pure (.v (.c (.p (.slice sz true rows)))))
   |none=>some (.mk1 (.cells (rep c zero) 0) false λr => .v (.c (.sref r 0 l (some c) sz)))) else none
  |_,_=>none
 |.slice sz str x lo hi mx=>match x.ev tm,optN tm lo,optN tm hi,optN tm mx with
  |some (.v (.c a)),some l,some h,some m=>(sliceV sz str a l h m).map λc => .pure (.v (.c c))
  |_,_,_,_=>none
 |.sliceA n sz x lo hi=>match x.ev tm,optN tm lo,optN tm hi with
  |some (.v (.c (.ptr r off))),some l,some h =>
   if l.getD 0<=h.getD n/\h.getD n<=n/\l.getD 0<n then some (.read r λ
    |.cells cs _=>if off+n*sz<=cs.length then some (.v (.c (.sref r (off+l.getD 0*sz) (h.getD n - l.getD 0) (some (n - l.getD 0)) sz))) else none
    |_=>none) else none
  |_,_,_=>none
 |.faddr off x=>match x.ev tm with
  |some (.v (.c (.ptr r o)))=>some (.pure (.v (.c (.ptr r (o+off)))))
  |some (.v (.c (.p (.pptr row o))))=>some (.pure (.pv (.pptr row (o+off))))
  |_=>none
 |.field off n agg x=>match x.ev tm with
  |some (.v (.agg cs))=>(partOf agg n cs off).map .pure
  |_=>none
 |.iaddr sz x i=>match x.ev tm,(i.ev tm).bind asN with
  |some (.v (.c (.p (.slice sz' _ rows)))),some k =>
   if sz'=sz then (match rows[k]? with|some row=>some (.pure (.pv (.pptr row 0)))|none=>none) else none
  |some (.v (.c (.tsl sz' rows _))),some k =>
   if sz'=sz then (match rows[k]? with|some row=>some (.pure (.pv (.pptr row 0)))|none=>none) else none
  |some (.v (.c (.sref r off len _ sz'))),some k=>if sz'=sz/\k<len then some (.pure (.v (.c (.ptr r (off+k*sz))))) else none
  |_,_=>none
 |.iaddrA n sz x i=>match x.ev tm,(i.ev tm).bind asN with
  |some (.v (.c (.ptr r off))),some k=>if k<n then some (.pure (.v (.c (.ptr r (off+k*sz))))) else none
  |some (.v (.c (.p (.pptr row off)))),some k=>if k<n then some (.pure (.pv (.pptr row (off+k*sz)))) else none
  |_,_=>none
 |.index x i=>match x.ev tm,(i.ev tm).bind asN with
  |some (.v (.c (.p (.str s)))),some k=>match s[k]? with|some b=>some (.pure (.pv (.int .u8 b.toNat)))|none=>none
  |_,_=>none
 |.lookup kk zero x i ok=>match x.ev tm,i.ev tm with
  |some (.v (.c (.p .nilmap))),some (.v (.c (.p _)))=>some (.pure (found zero ok none))
  |some (.v (.c (.p (.pmap es)))),some (.v (.c (.p key)))=>(findE kk key (es.map pmComp) 0).map λe => .pure (found zero ok e)
  |some (.v (.c (.mref r))),some (.v (.c (.p key)))=>some (.read r λ
   |.map es _=>(findE kk key (es.map λe=>(e.1,e.2.1)) 0).map (found zero ok)
   |_=>none)
  |_,_=>none
 |.mapup kk m k v=>match m.ev tm,k.ev tm,v.ev tm with
  |some (.v (.c (.mref r))),some (.v (.c (.p key))),some (.v x)=>some (.write r λ
   |.map es clock=>match findE kk key (es.map λe=>(e.1,e.2.1)) 0 with
    |some (some (i,_))=>some (.undef,.map (es.modify i λe=>(key,x,e.2.2)) clock)
    |some none=>some (.undef,.map (es++[(key,x,clock)]) (clock+1))
    |none=>none
   |_=>none)
  |_,_,_=>none
 |.rangeS x=>match x.ev tm with
  |some (.v (.c (.p (.str s))))=>some (.mk1 (.siter s 0) false λr => .v (.c (.ptr r 0)))
  |_=>none
 |.nextS x=>match x.ev tm with
  |some (.v (.c (.ptr r 0)))=>some (.write r λ
   |.siter s pos=>if pos<s.length then
     let cw:=utf8At s pos
     some (.tup [.c (.p (.bool true)),.c (.p (.int .i64 pos)),.c (.p (.int .i32 cw.1))],.siter s (pos+cw.2))
    else some (.tup [.c (.p (.bool false))],.siter s pos)
   |_=>none)
  |_=>none
 |.extract x i=>match x.ev tm with
  |some (.tup vs)=>match vs[i]? with|some v=>some (.pure (.v v))|none=>none
  |_=>none
 |.call f args=>match f.ev tm with
  |some (.v (.c (.func g caps)))=>do
   let as <- args.mapM λx=>x.ev tm
   pure (.call g (as++caps.map λr => .v (.c (.ptr r 0))))
  |_=>none
 |.len kd x=>match kd,x.ev tm with
  |0,some (.v (.c (.p (.str s))))=>some (.pure (.pv (.int .i64 s.length)))
  |2,some (.v (.c (.p .nilslice)))=>some (.pure (.pv (.int .i64 0)))
  |2,some (.v (.c (.p (.slice _ _ rows))))|2,some (.v (.c (.tsl _ rows _)))=>some (.pure (.pv (.int .i64 rows.length)))
  |2,some (.v (.c (.sref _ _ len _ _)))=>some (.pure (.pv (.int .i64 len)))
  |3,some (.v (.c (.p .nilmap)))=>some (.pure (.pv (.int .i64 0)))
  |3,some (.v (.c (.p (.pmap es))))=>some (.pure (.pv (.int .i64 es.length)))
  |3,some (.v (.c (.mref r)))=>some (.read r λ| .map es _=>some (.pv (.int .i64 es.length))|_=>none)
  |_,_=>none
 |.cap x=>match x.ev tm with
  |some (.v (.c (.p .nilslice)))=>some (.pure (.pv (.int .i64 0)))
  |some (.v (.c (.p (.slice _ true rows))))=>some (.pure (.pv (.int .i64 rows.length)))
  |some (.v (.c (.sref _ _ _ (some c) _)))=>some (.pure (.pv (.int .i64 c)))
  |_=>none
 |.append sz bytes heap a b=>match a.ev tm,b.ev tm with
  |some x,some y=>some (.go (zipNeeds (dstRef x) (srcRef y)) λos=>do
   let (oa,ob) <- splitNeeds (dstRef x) (srcRef y) os
   let (new,n) <- srcCells sz y ob
   appendTo sz bytes heap x oa new n)
  |_,_=>none
 |.copy sz a b=>match a.ev tm,b.ev tm with
  |some (.v (.c (.sref r off len cap sz'))),some y=>some (.go (zipNeeds (some r) (srcRef y)) λos=>do
   let (oa,ob) <- splitNeeds (some r) (srcRef y) os
   let (new,n) <- srcCells sz y ob
   match oa with
   |some (.cells cs imm) =>
    let m:=min n len
    if sz'=sz/\off+len*sz<=cs.length/\imm<=off then
     some ⟨λ_ => .pv (.int .i64 m),[(r,.cells (splice cs off (new.take (m*sz))) imm)],none,false⟩
    else none
   |_=>none)
  |_,_=>none
 |.minmax mx xs=>(minmaxV mx (xs.map λx=>x.ev tm)).map λv => .pure (.pv v)
 |.bad=>none
def Cell.refs:Cell->List Ref
 |.ptr r _ | .sref r .. | .mref r | .tsl _ _ r=>[r]
 |.func _ caps=>caps
 |_=>[]
def Comp.refs:Comp->List Ref
 |.c x=>x.refs
 |.agg cs=>cs.flatMap Cell.refs
def TVal.refs:TVal->List Ref
 |.v x=>x.refs
 |.tup vs=>vs.flatMap Comp.refs
def AObj.refs:AObj->List Ref
 |.cells cs _=>cs.flatMap Cell.refs
 |.map es _=>es.flatMap λe=>e.2.1.refs
 |_=>[]
def reach(h:Heap):Nat->List Ref->List Ref->List Ref
 |0,_,seen=>seen
 |_+1,[],seen=>seen
 |n+1,r::todo,seen =>
  bif seen.contains r then reach h n todo seen else
  match h.get r with
  |some o=>reach h n (o.refs++todo) (seen++[r])
  |none=>reach h n todo seen
def Cell.ren(σ:Ref->Option Ref):Cell->Cell
 |.ptr r off=>match σ r with|some s => .ptr s off|none => .junk
 |.sref r off len cap sz=>match σ r with|some s => .sref s off len cap sz|none => .junk
 |.mref r=>match σ r with|some s => .mref s|none => .junk
 |.tsl sz rows r=>match σ r with|some s => .tsl sz rows s|none => .p (.slice sz false rows)
 |.func f caps=>match caps.mapM σ with|some rs => .func f rs|none => .junk
 |c=>c
def Comp.ren(σ:Ref->Option Ref):Comp->Comp
 |.c x => .c (x.ren σ)
 |.agg cs => .agg (cs.map (Cell.ren σ))
def TVal.ren(σ:Ref->Option Ref):TVal->TVal
 |.v x => .v (x.ren σ)
 |.tup vs => .tup (vs.map (Comp.ren σ))
def AObj.ren(σ:Ref->Option Ref):AObj->AObj
 |.cells cs imm => .cells (cs.map (Cell.ren σ)) imm
 |.map es clock => .map (es.map λe=>(e.1,e.2.1.ren σ,e.2.2)) clock
 |o=>o
def idx(r:Ref):List Ref->Nat->Option Nat
 |[],_=>none
 |s::rs,i=>bif decide (r=s) then some i else idx r rs (i+1)
def Cell.strip:Cell->Cell
 |.tsl sz rows _ => .p (.slice sz false rows)
 |c=>c
def Comp.strip:Comp->Comp
 |.c x => .c x.strip
 |.agg cs => .agg (cs.map Cell.strip)
def TVal.strip:TVal->TVal
 |.v x => .v x.strip
 |.tup vs => .tup (vs.map Comp.strip)
def inn(rs:List Ref)(r:Ref):Option Ref:=(idx r rs 0).map .im
def back(rs:List Ref)(m:Nat)(new:Nat->Ref):Ref->Option Ref
 |.im i=>match rs[i]? with
  |some r=>some r
  |none=>bif Nat.blt i m then some (new (i - rs.length)) else none
 |.own .. => none
def newRef(n:Nat)(j:Nat):Ref := .im (n+j)
def putAll(h:Heap):List Ref->List AObj->Heap
 |r::rs,o::os=>putAll (h.put r o) rs os
 |_,_=>h
structure Touch where
 rd:List Site
 wr:List Site
 wild:Bool
def fuelReach:Nat:=400
def callOp(O:Oracle)(f:FuncId)(args0:List TVal)(d:Nat)(h:Heap):Option (TVal×Heap×Touch) :=
 let args:=args0.map TVal.strip
 let rs:=reach h fuelReach (args.flatMap TVal.refs) []
 match rs.mapM h.get with
 |none=>none
 |some objs =>
  match O f (args.map (TVal.ren (inn rs))) (objs.map (AObj.ren (inn rs))) with
  |none=>none
  |some (v,objs') =>
   if objs'.length<rs.length then none else
   let n:=h.ims.length
   let σ:=back rs objs'.length (newRef n)
   let os:=objs'.map (AObj.ren σ)
   let h1:=putAll h rs (os.take rs.length)
   let new:=os.drop rs.length
   let h2:=match new with
    |[]=>h1
    |_=>{ ims:=h1.ims++new,owns:=h1.owns }
   some (v.ren σ,h2,{ rd:=(args.flatMap TVal.refs++objs.flatMap AObj.refs++rs).map Ref.site,wr:=rs.map Ref.site++(List.range new.length).map λj => .im (n+j),wild:=Nat.blt 0 new.length })
def goOp(needs:List Ref)(k:List AObj->Option Res)(d:Nat)(h:Heap):Option (TVal×Heap×Touch) :=
 match needs.mapM h.get with
 |none=>none
 |some os=>match k os with
  |none=>none
  |some res =>
   bif !res.ups.all (λp=>needs.contains p.1) then none else
   let g:=h.gen d+1
   let h1:=res.ups.foldl (λh p=>h.put p.1 p.2) h
   match res.new with
   |none=>some (res.out (.own d 0),h1,{ rd:=needs.map Ref.site,wr:=res.ups.map (·.1.site),wild:=false })
   |some o=>bif res.push then some (res.out (.im h.ims.length),{ h1 with ims:=h1.ims++[o] },{ rd:=needs.map Ref.site,wr := .im h.ims.length::res.ups.map (·.1.site),wild:=true })
    else some (res.out (.own d g),{ h1 with owns:=h1.owns.set (g,o) d },{ rd:=needs.map Ref.site,wr := .own d::res.ups.map (·.1.site),wild:=false })
def noTouch:Touch:=⟨[],[],false⟩
def setDst(tm:TM TVal)(d:Option Nat)(v:TVal):TM TVal:=match d with|some d=>tm.set v d|none=>tm
def Plan.exec(O:Oracle)(p:Plan)(d:Nat)(h:Heap):Option (TVal×Heap×Touch) :=
 match p with | .go needs k=>goOp needs k d h | .call f args=>callOp O f args d h
def doOp(O:Oracle)(o:AOper)(st:St):Option (St×Touch) :=
 match plan st.tm o.op with
 |none=>none
 |some p =>
  match p.exec O (o.dst.getD 1000000) st.h with
  |none=>none
  |some (v,h,t)=>some ({ tm:=setDst st.tm o.dst v,h },t)
def stepOp(O:Oracle)(o:AOper)(st:St):Option (St×Touch) :=
 match o.guard with
 |none=>doOp O o st
 |some (t,want)=>match st.tm.get t with
  |some (.v (.c (.p (.bool b))))=>bif b==want then doOp O o st else some ({ st with tm:=setDst st.tm o.dst .undef },noTouch)
  |some (.tup [])=>some ({ st with tm:=setDst st.tm o.dst .undef },noTouch)
  |_=>none
def runOps(O:Oracle):List AOper->St->Option (St×List Touch)
 |[],st=>some (st,[])
 |o::os,st=>match stepOp O o st with
  |none=>none
  |some (st',t)=>match runOps O os st' with
   |none=>none
   |some (st'',ts)=>some (st'',t::ts)
def AOp.xs:AOp->List X
 |.mv x | .same x | .box x _ | .load _ _ x | .nilck x | .un _ x | .toInt _ x | .toStr x | .toBytes x | .faddr _ x | .field _ _ _ x | .rangeS x | .nextS x | .extract x _ | .len _ x | .cap x=>[x]
 |.pick a b c=>[a,b,c]
 |.store _ a b | .bin _ _ a b | .iaddr _ a b | .iaddrA _ _ a b | .index a b | .append _ _ _ a b | .copy _ a b=>[a,b]
 |.call f as=>f::as
 |.minmax _ xs=>xs
 |.lookup _ _ a b _=>[a,b]
 |.mapup _ a b c=>[a,b,c]
 |.slice _ _ x lo hi mx=>x::(lo.toList++hi.toList++mx.toList)
 |.sliceA _ _ x lo hi=>x::(lo.toList++hi.toList)
 |.mkslice _ _ _ a b _=>[a,b]
 |.bslice _ _ _ ps _=>ps.map (·.2)
 |.build _ ps=>ps.map (·.2.2)
 |.mkfn _ xs=>xs
 |.alloc _ _ | .mkmap | .bad=>[]
def X.slot:X->Option Nat
 |.t n=>some n
 |.k _=>none
def AOper.looks(o:AOper):List Nat:=o.op.xs.filterMap X.slot++(match o.guard with|some (t,_)=>[t]|none=>[])
def AOp.weight:AOp->Nat
 |.mv _ | .same _ | .pick .. | .build .. | .nilck _ | .bin .. | .un .. | .toInt .. | .mkfn .. | .slice .. | .faddr .. | .field .. | .iaddr .. | .iaddrA .. | .index .. | .extract .. | .cap _ | .minmax .. | .bad=>0
 |.load .. | .lookup .. | .len .. | .toStr _ | .sliceA .. => 1
 |_=>2
def sees(a b:AOper):Bool:=match a.dst with
 |some d=>b.looks.contains d
 |none=>false
def sApart(a b:AOper):Bool := !(sees a b) && !(sees b a)&&(match a.dst,b.dst with|some d,some e => !(d==e)|_,_=>true)
def heavy(a b:AOper):Bool:=Nat.blt 0 a.op.weight&&Nat.blt 0 b.op.weight&&Nat.blt 2 (a.op.weight+b.op.weight)
def disj(a b:List Site):Bool:=a.all λs => !b.contains s
def Touch.apart(a b:Touch):Bool:=disj a.wr b.wr&&disj a.wr b.rd&&disj b.wr a.rd && !(a.wild&&b.wild)
def apartAll(ts:List Touch)(pairs:List (Nat×Nat)):Bool :=
 pairs.all λp=>match ts[p.1]?,ts[p.2]? with
  |some a,some b=>a.apart b
  |_,_=>false
def runReg(O:Oracle)(ops:List AOper)(pairs:List (Nat×Nat))(st:St):Option St :=
 match runOps O ops st with
 |none=>none
 |some (st',ts)=>bif apartAll ts pairs then some st' else none
inductive AExit where
 |norm
 |exit (id:Nat)
 |ret
def runF(O:Oracle)(rec:ACode->St->Option (AExit×St)):ACode->St->Option (AExit×St)
 |.skip,st=>some (.norm,st)
 |.reg ops pairs,st=>match runReg O ops pairs st with|some st'=>some (.norm,st')|none=>none
 |.seq a b,st=>match runF O rec a st with|some (.norm,st')=>runF O rec b st'|r=>r
 |.cond c a b,st=>match c.ev st.tm with
  |some (.v (.c (.p (.bool true))))=>runF O rec a st
  |some (.v (.c (.p (.bool false))))=>runF O rec b st
  |_=>none
 |.block id c,st=>match runF O rec c st with
  |some (.exit j,st')=>bif Nat.beq j id then some (.norm,st') else some (.exit j,st')
  |r=>r
 |.loop c,st=>match runF O rec c st with|some (.norm,st')=>rec (.loop c) st'|r=>r
 |.exit id,st=>some (.exit id,st)
 |.scope c,st=>runF O rec c st
 |.ret,st=>some (.ret,st)
 |.bad,_=>none
def run(O:Oracle):Nat->ACode->St->Option (AExit×St)
 |0=>λ_ _=>none
 |n+1=>runF O (run O n)
def freeze(h:Heap):Nat->Cell->Option (PVal×List Ref)
 |0,_=>none
 |n+1,c=>match c with
  |.p v=>some (v,[])
  |.tsl sz rows _=>some (.slice sz false rows,[])
  |.sref r off len cap sz=>match h.get r with
   |some (.cells cs _)=>do
    let vs <- ((cs.drop off).take (len*sz)).mapM (freeze h n)
    let rows <- chunk sz len (vs.map λx => .p x.1)
    pure (.slice sz (cap==some len) rows,r::vs.flatMap (·.2))
   |_=>none
  |.ptr r off=>match h.get r with
   |some (.cells cs _)=>do
    let vs <- cs.mapM (freeze h n)
    pure (.pptr (vs.map (·.1)) off,r::vs.flatMap (·.2))
   |_=>none
  |.mref r=>match h.get r with
   |some (.map es _)=>do
    let vs <- es.mapM λe=>match e.2.1 with
     |.c x=>(freeze h n x).map λy=>((e.1,false,[y.1]),y.2)
     |.agg cs=>(cs.mapM (freeze h n)).map λys=>((e.1,true,ys.map (·.1)),ys.flatMap (·.2))
    pure (.pmap (vs.map (·.1)),r::vs.flatMap (·.2))
   |_=>none
  |_=>none
def fuelFreeze:Nat:=30
def freezeC(h:Heap):Comp->Option (Comp×List Ref)
 |.c x=>(freeze h fuelFreeze x).map λy=>(.c (.p y.1),y.2)
 |.agg cs=>(cs.mapM (freeze h fuelFreeze)).map λys=>(.agg (ys.map λy => .p y.1),ys.flatMap (·.2))
def freezeT(h:Heap):TVal->Option (TVal×List Ref)
 |.v x=>(freezeC h x).map λy=>(.v y.1,y.2)
 |.tup vs=>(vs.mapM (freezeC h)).map λys=>(.tup (ys.map (·.1)),ys.flatMap (·.2))
def settle(h:Heap):List Ref->Heap
 |[]=>h
 |r::rs=>match h.get r with
  |some (.cells cs imm)=>settle (h.put r (.cells cs (max imm cs.length))) rs
  |some (.map ..)=>settle (h.put r .dead) rs
  |_=>settle h rs
def getRes(st:St):ARes->Option Comp
 |.t n=>match st.tm.get n with|some (.v x)=>some x|_=>none
 |.cell n agg size=>match st.tm.get n with
  |some (.v (.c (.ptr r off)))=>match st.h.get r with
   |some (.cells cs _)=>match partOf agg size cs off with|some (.v x)=>some x|_=>none
   |_=>none
  |_=>none
def ims(k:Nat):List Ref:=(List.range k).map .im
def oneOf:List Comp->TVal
 |[x] => .v x
 |vs => .tup vs
def finish(F:AFunc)(st:St)(k:Nat):Option (TVal×List AObj) :=
 match F.res.mapM (getRes st) with
 |none=>none
 |some vs =>
  let v:TVal:=oneOf vs
  match (if F.frz then freezeT st.h v else some (v,[])) with
  |none=>none
  |some (v',fr) =>
   let h:=settle st.h fr
   let from':=reach h fuelReach ((ims k).flatMap (λr=>match h.get r with|some o=>o.refs|none=>[])++v'.refs) (ims k)
   let objs:=from'.map λr=>match h.get r with|some o=>o.ren (inn from')|none => .dead
   some (v'.ren (inn from'),objs)
def setArgs:List TVal->Nat->TM TVal->TM TVal
 |[],_,tm=>tm
 |v::vs,i,tm=>setArgs vs (i+1) (tm.set v i)
def call1(O:Oracle)(n:Nat)(F:AFunc)(args:List TVal)(objs:List AObj):Option (TVal×List AObj) :=
 if args.length=F.np then
  match run O n F.body { tm:=setArgs args 0 .nil,h:={ ims:=objs,owns := .nil } } with
  |some (.norm,st)|some (.ret,st)=>finish F st objs.length
  |_=>none
 else none
def full(T:FuncId->Option AFunc)(S:Oracle):Nat->Oracle
 |0=>λ_ _ _=>none
 |n+1=>λf args objs=>match S f args objs with
  |some r=>some r
  |none=>match T f with
   |some F=>call1 (full T S n) n F args objs
   |none=>none
end
end Go.AI
namespace Go.AI
def constP:Value->Option PVal
 |.bool b=>some (.bool b)
 |.int k n=>some (.int k n)
 |.string s=>some (.str s.data.toList)
 |.pointer none=>some .nilptr
 |.slice none 0 0=>some .nilslice
 |.map none=>some .nilmap
 |.nilFunc=>some .nilfunc
 |.nilIface=>some .niliface
 |_=>none
def constC:Value->Option Comp
 |.agg cs=>(cs.toList.mapM constP).map λl => .agg (pcells l)
 |v=>(constP v).map λx => .c (.p x)
def constT:Value->Option TVal
 |.tuple ⟨[]⟩=>some (.tup [])
 |v=>(constC v).map .v
section
variable (P:Program) (G:Nat->Option (List PVal))
def compX:Operand->Option X
 |.tmp t=>some (.t t)
 |.const v=>(constT v).map .k
 |.global g=>(G g).map λrow => .k (.pv (.pptr row 0))
 |.func f=>some (.k (.v (.c (.func f []))))
def szOf(t:TypeId):Option Nat:=(P.info? t).map (·.size)
def bytesT(t:TypeId):Option Nat:=(P.info? t).map (·.bytes)
def aggT(t:TypeId):Option Bool:=(P.underlying t).map λ| .struct _ | .array _ _=>true|_=>false
def zeroT(t:TypeId):Option Comp:=((P.info? t).bind (·.zero)).bind constC
def fieldDigit(f:Field):Nat:=match P.underlying f.type with
 |some (.int _)=>1|some .string=>2|some .bool=>3|_=>0
def fieldsCode:List Field->Nat->Option Nat
 |[],_=>some 0
 |f::fs,i=>if f.name ≠ "_" /\ f.offset=i/\fieldDigit P f≠0 then (fieldsCode fs (i+1)).map λn=>4*n+fieldDigit P f else none
def structKind(t:TypeId)(fs:Array Field):Nat :=
 if P.stoodInHeld t=false/\P.eqGuardType P.depth t=false then (match fieldsCode P fs.toList 0 with|some n=>n+8|none=>0) else 0
def kindOf(t:TypeId):Nat:=match P.underlying t with
 |some (.pointer _)=>1|some (.slice _)=>2|some (.map _ _)=>3|some (.func _ _ _)=>4|some .bool=>5|some (.struct fs)=>structKind P t fs|_=>0
def keyKind(t:TypeId):Option Nat:=match P.underlying t with
 |some (.int _)=>some 1|some .string=>some 2|some .bool=>some 3|_=>none
def optX:Option Operand->Option (Option X)
 |none=>some none
 |some x=>(compX G x).map some
def compCall(heap:Nat->Bool)(c:Call):Option AOp :=
 match c.callee with
 |.value f=>do
  let f <- compX G f
  let args <- c.args.toList.mapM (compX G)
  pure (.call f args)
 |.invoke .. => none
 |.builtin b=>do
  let args <- c.args.toList.mapM (compX G)
  match b,args,c.argTypes.toList with
  |.len,[x],[t]=>match P.underlying t with
   |some .string=>pure (.len 0 x)
   |some (.slice _)=>pure (.len 2 x)
   |some (.map _ _)=>pure (.len 3 x)
   |some (.array n _)=>pure (.mv (.k (.pv (.int .i64 n))))
   |_=>none
  |.cap,[x],[t]=>match P.underlying t with
   |some (.slice _)=>pure (.cap x)
   |_=>none
  |.append,[a,b],[t,u]=>match P.underlying t,P.underlying u with
   |some (.slice e),some (.slice _)|some (.slice e),some .string=>do
    let sz <- szOf P e
    let by' <- bytesT P e
    let z <- zeroT P e
    if sz=0\/by'=0\/z.cells.length≠sz then none else pure (.append sz by' (heap sz) a b)
   |_,_=>none
  |.copy,[a,b],t::_=>match P.underlying t with
   |some (.slice e)=>do
    let sz <- szOf P e
    if sz=0 then none else pure (.copy sz a b)
   |_=>none
  |.min,xs,_=>pure (.minmax false xs)
  |.max,xs,_=>pure (.minmax true xs)
  |_,_,_=>none
def compOp(heap:Nat->Bool):Op->Option AOp
 |.move x | .assign x=>(compX G x).map .mv
 |.pick c a b=>do pure (.pick (<- compX G c) (<- compX G a) (<- compX G b))
 |.alloc t=>do pure (.alloc (<- zeroT P t).cells (heap 0))
 |.box _ x=>do pure (.box (<- compX G x) (heap 0))
 |.build t parts=>do
  let z <- zeroT P t
  match P.underlying t with
  |some (.struct fields)=>do
   let places <- fields.toList.mapM λf=>(P.info? f.type).map λi=>(f.offset,i.size)
   let ps <- parts.toList.mapM λp=>do
    let q <- places[p.1]?
    pure (q.1,q.2,<- compX G p.2)
   pure (.build z.cells ps)
  |some (.array _ e)=>do
   let sz <- szOf P e
   let ps <- parts.toList.mapM λp=>do pure (p.1*sz,sz,<- compX G p.2)
   pure (.build z.cells ps)
  |_=>none
 |.buildSlice t n parts=>do
  match P.underlying t with
  |some (.slice e)=>do
   let sz <- szOf P e
   let z <- zeroT P e
   if sz=0\/n*sz>100000\/z.cells.length≠sz then none else
   let ps <- parts.toList.mapM λp=>do pure (p.1,<- compX G p.2)
   pure (.bslice sz n z.cells ps (heap (3000000+sz)))
  |_=>none
 |.load t a=>do pure (.load (<- aggT P t) (<- szOf P t) (<- compX G a))
 |.store t a v=>do pure (.store (<- szOf P t) (<- compX G a) (<- compX G v))
 |.nilCheck x=>do pure (.nilck (<- compX G x))
 |.binOp op t x y _=>do pure (.bin op (kindOf P t) (<- compX G x) (<- compX G y))
 |.unOp op _ x=>do pure (.un op (<- compX G x))
 |.convert src dst x=>match P.underlying src,P.underlying dst with
  |some (.int _),some (.int k)=>do pure (.toInt k (<- compX G x))
  |some .string,some .string=>do pure (.same (<- compX G x))
  |some (.slice e),some .string=>match P.underlying e with
   |some (.int .u8)=>do pure (.toStr (<- compX G x))
   |_=>none
  |some .string,some (.slice e)=>match P.underlying e with
   |some (.int .u8)=>do pure (.toBytes (<- compX G x))
   |_=>none
  |_,_=>none
 |.makeFunc (.func f) first captured=>if first.size=0 then (do pure (.mkfn f (<- captured.toList.mapM (compX G)))) else none
 |.makeMap _ none=>some .mkmap
 |.makeSlice t l c=>match P.underlying t with
  |some (.slice e)=>do
   let sz <- szOf P e
   let z <- zeroT P e
   if sz=0\/z.cells.length≠sz then none else
   pure (.mkslice sz (<- bytesT P e) z.cells (<- compX G l) (<- compX G c) (heap (1000000+sz)))
  |_=>none
 |.slice t x lo hi mx=>match P.underlying t with
  |some (.array n e)=>match mx with
   |none=>do pure (.sliceA n (<- szOf P e) (<- compX G x) (<- optX G lo) (<- optX G hi))
   |_=>none
  |some .string=>do pure (.slice 0 true (<- compX G x) (<- optX G lo) (<- optX G hi) (<- optX G mx))
  |some (.slice e)=>do pure (.slice (<- szOf P e) false (<- compX G x) (<- optX G lo) (<- optX G hi) (<- optX G mx))
  |_=>none
 |.fieldAddr s x f=>match P.underlying s with
  |some (.struct fields)=>do
   let fd <- fields[f]?
   if (<- szOf P fd.type)=0 then none else pure (.faddr fd.offset (<- compX G x))
  |_=>none
 |.field s x f=>match P.underlying s with
  |some (.struct fields)=>do
   let fd <- fields[f]?
   pure (.field fd.offset (<- szOf P fd.type) (<- aggT P fd.type) (<- compX G x))
  |_=>none
 |.indexAddr t x i=>match P.underlying t with
  |some (.slice e)=>do
   let sz <- szOf P e
   if sz=0 then none else pure (.iaddr sz (<- compX G x) (<- compX G i))
  |some (.array n e)=>do
   let sz <- szOf P e
   if sz=0 then none else pure (.iaddrA n sz (<- compX G x) (<- compX G i))
  |_=>none
 |.index t x i=>match P.underlying t with
  |some .string=>do pure (.index (<- compX G x) (<- compX G i))
  |_=>none
 |.lookup t x i ok=>match P.underlying t with
  |some (.map kt e)=>do
   let kk <- keyKind P kt
   pure (.lookup kk (<- zeroT P e) (<- compX G x) (<- compX G i) ok)
  |_=>none
 |.mapUpdate t m k v=>match P.underlying t with
  |some (.map kt _)=>do
   let kk <- keyKind P kt
   pure (.mapup kk (<- compX G m) (<- compX G k) (<- compX G v))
  |_=>none
 |.range t x=>match P.underlying t with
  |some .string=>do pure (.rangeS (<- compX G x))
  |_=>none
 |.next x true=>do pure (.nextS (<- compX G x))
 |.extract x i=>do pure (.extract (<- compX G x) i)
 |.call c=>compCall P G heap c
 |_=>none
def compOper(nt:Nat)(heap:Nat->Bool)(ops:Array Oper)(o:Oper):Option AOper:=do
 let guard <- match o.guard with
  |none=>some none
  |some (j,want)=>match (ops[j]?).bind (·.dst) with
   |some t=>some (some (t,want))
   |none=>none
 if o.dst.all (·<nt) then
  pure { dst:=o.dst,op:=(compOp P G heap o.op).getD .bad,guard }
 else none
def rowOf(acc:List Nat):List Edge->Nat
 |[]=>0
 |e::es=>(if Region.binds .any e then 2 ^ e.on ||| acc.getD e.on 0 else 0) ||| rowOf acc es
def befs:List Oper->List Nat->List Nat
 |[],acc=>acc
 |o::os,acc=>befs os (acc++[rowOf acc o.after.toList])
def openPairs(bs:List Nat)(n:Nat):List (Nat×Nat) :=
 (List.range n).flatMap λj=>((List.range j).filter λi => !(bs.getD j 0).testBit i).map λi=>(i,j)
def backward:List Oper->Nat->Bool
 |[],_=>true
 |o::os,i=>o.after.toList.all (λe => !Region.binds .any e||Nat.blt e.on i)&&backward os (i+1)
def nop:AOper:=⟨none,.bad,none⟩
def compReg(nt:Nat)(heap:Nat->Bool)(ops:Array Oper)(draw:Bool):Option ACode:=do
 let l <- ops.toList.mapM (compOper P G nt heap ops)
 if draw then
  let ps:=openPairs (befs ops.toList []) ops.size
  if backward ops.toList 0&&ps.all λp=>sApart (l.getD p.1 nop) (l.getD p.2 nop) then
   pure (.reg l (ps.filter λp=>heavy (l.getD p.1 nop) (l.getD p.2 nop)))
  else none
 else pure (.reg l [])
def comp(nt:Nat)(heap:Nat->Bool):Code->ACode
 |.skip => .skip
 |.label _ => .skip
 |.region _ ops draw=>(compReg P G nt heap ops draw).getD .bad
 |.seq a b => .seq (comp nt heap a) (comp nt heap b)
 |.cond c a b=>match compX G c with
  |some c => .cond c (comp nt heap a) (comp nt heap b)
  |none => .bad
 |.block id c => .block id (comp nt heap c)
 |.loop c => .loop (comp nt heap c)
 |.exit id => .exit id
 |.scope c => .scope (comp nt heap c)
 |.ret => .ret
 |_ => .bad
def compRes:ResultVar->Option ARes
 |.tmp t=>some (.t t)
 |.cell n t=>do pure (.cell n (<- aggT P t) (<- szOf P t))
def compF(heap:Nat->Bool)(frz:Bool)(fn:Func):Option AFunc:=do
 let c <- fn.body
 let rs <- fn.results.toList.mapM (compRes P)
 if fn.name == "runtime.NumGoroutine" then none else
 if fn.ntmps>999999\/fn.params.size+fn.nfree>fn.ntmps then none else
 pure { np:=fn.params.size+fn.nfree,res:=rs,frz,body:=comp P G fn.ntmps heap c }
end
theorem qAH(n m:Nat):Nat.beq n m=decide (n=m):=by
 cases h:Nat.beq n m with
 |true=>exact(decide_eq_true (Nat.eq_of_beq_eq_true h)).symm
 |false=>exact(decide_eq_false (Nat.ne_of_beq_eq_false h)).symm
namespace TM
variable {α:Type}
theorem qDg{β:Type}(x:β)(y z:Nat->β)(n:Nat) :
  (Nat.rec (motive:=λ_=>β) x (λm _=>Nat.rec (motive:=λ_=>β) (y (Nat.div m 2)) (λ_ _=>z (Nat.div m 2)) (Nat.mod m 2)) n:β)=if n=0 then x else if n % 2=1 then y (n / 2) else z (n / 2 - 1):=by
 cases n with
 |zero=>rfl
 |succ m =>
  show(Nat.rec (motive:=λ_=>β) (y (m / 2)) (λ_ _=>z (m / 2)) (m % 2):β)=_;rw[if_neg (Nat.succ_ne_zero m)]
  rcases Nat.mod_two_eq_zero_or_one m with h|h
  ·rw[h,if_pos (by omega),show(m+1) / 2=m / 2 by omega]; rfl
  ·rw[h,if_neg (by omega),show(m+1) / 2 - 1=m / 2 by omega]; rfl
theorem get_node(l:TM α)(v:Option α)(r:TM α)(n:Nat) :
  (TM.node l v r).get n=if n=0 then v else if n % 2=1 then l.get (n / 2) else r.get (n / 2 - 1) :=
 qDg v l.get r.get n
theorem get_nil(n:Nat):(TM.nil:TM α).get n=none:=rfl
theorem qHf(a:α)(f n:Nat):new a (f+1) n =
  if n=0 then .node .nil (some a) .nil else if n % 2=1 then .node (new a f (n / 2)) none .nil else .node .nil none (new a f (n / 2 - 1)) :=
 qDg (TM.node .nil (some a) .nil) (λk => .node (new a f k) none .nil) (λk => .node .nil none (new a f k)) n
theorem set_node(a:α)(l:TM α)(v:Option α)(r:TM α)(n:Nat):set a (.node l v r) n =
  if n=0 then .node l (some a) r else if n % 2=1 then .node (set a l (n / 2)) v r else .node l v (set a r (n / 2 - 1)) :=
 qDg (TM.node l (some a) r) (λk => .node (set a l k) v r) (λk => .node l v (set a r k)) n
theorem qN7(a:α):∀ (f n m:Nat),n+1<2 ^ f->(new a f n).get m=if n=m then some a else none:=by
 intro f
 induction f with
 |zero=>intro n m h; simp at h
 |succ f ih =>
  intro n m h;rw[Nat.pow_succ] at h;rw[qHf];by_cases h0:n=0
  ·subst h0;rw[if_pos rfl,get_node];by_cases hm:m=0
   ·subst hm; rfl
   ·rw[if_neg hm,if_neg (Ne.symm hm)]; split <;> rfl
  ·rw[if_neg h0];by_cases ho:n % 2=1
   ·rw[if_pos ho,get_node];by_cases hm:m=0
    ·subst hm; simp[h0]
    ·rw[if_neg hm];by_cases hmo:m % 2=1
     ·rw[if_pos hmo,ih _ _ (by omega)];by_cases hnm:n=m
      ·subst hnm; simp
      ·rw[if_neg (by omega),if_neg hnm]
     ·rw[if_neg hmo,if_neg (by omega)]; rfl
   ·rw[if_neg ho,get_node];by_cases hm:m=0
    ·subst hm; simp[h0]
    ·rw[if_neg hm];by_cases hmo:m % 2=1
     ·rw[if_pos hmo,if_neg (by omega)]; rfl
     ·rw[if_neg hmo,ih _ _ (by omega)];by_cases hnm:n=m
      ·subst hnm; simp
      ·rw[if_neg (by omega),if_neg hnm]
theorem qIk(f:Nat)(a:α):∀ n m x,(new a f n).get m=some x->n=m/\x=a:=by
 induction f with
 |zero=>intro n m x h; cases h
 |succ f ih =>
  intro n m x h;rw[qHf] at h;by_cases h0:n=0
  ·subst h0;rw[if_pos rfl,get_node] at h;by_cases hm:m=0
   ·subst hm; simp at h; exact⟨rfl,h.symm⟩
   ·rw[if_neg hm] at h; split at h <;> cases h
  ·rw[if_neg h0] at h;by_cases ho:n % 2=1
   ·rw[if_pos ho,get_node] at h;by_cases hm:m=0
    ·subst hm; simp at h
    ·rw[if_neg hm] at h;by_cases hmo:m % 2=1
     ·rw[if_pos hmo] at h;have:=ih _ _ _ h;exact⟨by omega,this.2⟩
     ·rw[if_neg hmo] at h; cases h
   ·rw[if_neg ho,get_node] at h;by_cases hm:m=0
    ·subst hm; simp at h
    ·rw[if_neg hm] at h;by_cases hmo:m % 2=1
     ·rw[if_pos hmo] at h; cases h
     ·rw[if_neg hmo] at h;have:=ih _ _ _ h;exact⟨by omega,this.2⟩
theorem get_set_ne(a:α):∀ (t:TM α) (n m:Nat),n≠m->(set a t n).get m=t.get m:=by
 intro t
 induction t with
 |nil =>
  intro n m h;show(new a 20 n).get m=none;cases hg:(new a 20 n).get m with
  |none=>rfl
  |some x=>exact absurd (qIk _ _ _ _ _ hg).1 h
 |node l v r ihl ihr =>
  intro n m h;rw[set_node,get_node];by_cases h0:n=0
  ·subst h0; rw[if_pos rfl,get_node,if_neg (Ne.symm h),if_neg (Ne.symm h)]
  ·rw[if_neg h0];by_cases ho:n % 2=1
   ·rw[if_pos ho,get_node];by_cases hm:m=0
    ·rw[if_pos hm,if_pos hm]
    ·rw[if_neg hm,if_neg hm];by_cases hmo:m % 2=1
     ·rw[if_pos hmo,if_pos hmo,ihl _ _ (by omega)]
     ·rw[if_neg hmo,if_neg hmo]
   ·rw[if_neg ho,get_node];by_cases hm:m=0
    ·rw[if_pos hm,if_pos hm]
    ·rw[if_neg hm,if_neg hm];by_cases hmo:m % 2=1
     ·rw[if_pos hmo,if_pos hmo]
     ·rw[if_neg hmo,if_neg hmo,ihr _ _ (by omega)]
theorem get_set_some(a:α):∀ (t:TM α) (n:Nat) x,(set a t n).get n=some x->x=a:=by
 intro t
 induction t with
 |nil=>intro n x h; exact(qIk 20 a n n x h).2
 |node l v r ihl ihr =>
  intro n x h;rw[set_node] at h;by_cases h0:n=0
  ·subst h0; rw[if_pos rfl,get_node,if_pos rfl] at h; exact(Option.some.inj h).symm
  ·rw[if_neg h0] at h;by_cases ho:n % 2=1
   ·rw[if_pos ho,get_node,if_neg h0,if_pos ho] at h; exact ihl _ _ h
   ·rw[if_neg ho,get_node,if_neg h0,if_neg ho] at h; exact ihr _ _ h
theorem get_set_same(a:α):∀ (t:TM α) (n:Nat),n+1<1048576->(set a t n).get n=some a:=by
 intro t
 induction t with
 |nil=>intro n h; show(new a 20 n).get n=_; rw[qN7 a 20 n n (by omega),if_pos rfl]
 |node l v r ihl ihr =>
  intro n h;rw[set_node];by_cases h0:n=0
  ·subst h0; rw[if_pos rfl,get_node,if_pos rfl]
  ·rw[if_neg h0];by_cases ho:n % 2=1
   ·rw[if_pos ho,get_node,if_neg h0,if_pos ho]; exact ihl _ (by omega)
   ·rw[if_neg ho,get_node,if_neg h0,if_neg ho]; exact ihr _ (by omega)
end TM
def All2{α β:Type}(R:α->β->Prop):List α->List β->Prop
 |[],[]=>True
 |a::as,b::bs=>R a b/\All2 R as bs
 |_,_=>False
theorem All2.length{α β:Type}{R:α->β->Prop}:∀ {l:List α}{m:List β},All2 R l m->l.length=m.length
 |[],[],_=>rfl
 |_::_,_::_,h=>by simp[All2.length h.2]
theorem All2.mono{α β:Type}{R R':α->β->Prop}(hr:∀ a b,R a b->R' a b):∀ {l:List α}{m:List β},All2 R l m->All2 R' l m
 |[],[],_=>trivial
 |_::_,_::_,h=>⟨hr _ _ h.1,All2.mono hr h.2⟩
theorem All2.get{α β:Type}{R:α->β->Prop}:∀ {l:List α}{m:List β},All2 R l m->∀ (i:Nat) a,l[i]?=some a->∃ b,m[i]?=some b/\R a b
 |_::_,_::_,h,0,a,e=>⟨_,rfl,by simp at e; exact e▸h.1⟩
 |_::_,_::_,h,i+1,a,e=>by simpa using All2.get h.2 i a (by simpa using e)
theorem All2.of_get{α β:Type}{R:α->β->Prop}:∀ {l:List α}{m:List β},l.length=m.length->(∀ (i:Nat) a b,l[i]?=some a->m[i]?=some b->R a b)->All2 R l m
 |[],[],_,_=>trivial
 |_::_,_::_,hl,h=>⟨h 0 _ _ rfl rfl,All2.of_get (by simpa using hl) λi a b ha hb=>h (i+1) a b (by simpa using ha) (by simpa using hb)⟩
theorem All2.append{α β:Type}{R:α->β->Prop}:∀ {l:List α}{m:List β}{l':List α}{m':List β},All2 R l m->All2 R l' m'->All2 R (l++l') (m++m')
 |[],[],_,_,_,h=>h
 |_::_,_::_,_,_,h,h'=>⟨h.1,All2.append h.2 h'⟩
theorem All2.drop{α β:Type}{R:α->β->Prop}:∀ (n:Nat) {l:List α} {m:List β},All2 R l m->All2 R (l.drop n) (m.drop n)
 |0,_,_,h=>by simpa using h
 |n+1,[],[],_=>by simp[All2]
 |n+1,_::_,_::_,h=>by simpa using All2.drop n h.2
theorem All2.take{α β:Type}{R:α->β->Prop}:∀ (n:Nat) {l:List α} {m:List β},All2 R l m->All2 R (l.take n) (m.take n)
 |0,_,_,h=>by simp[All2]
 |n+1,[],[],_=>by simp[All2]
 |n+1,_::_,_::_,h=>by simpa using ⟨h.1,All2.take n h.2⟩
theorem All2.map{α β γ δ:Type}{R:α->β->Prop}{R':γ->δ->Prop}{f:α->γ}{g:β->δ}(hr:∀ a b,R a b->R' (f a) (g b)):∀ {l:List α}{m:List β},All2 R l m->All2 R' (l.map f) (m.map g)
 |[],[],_=>trivial
 |_::_,_::_,h=>⟨hr _ _ h.1,All2.map hr h.2⟩
theorem All2.mapL{α β γ:Type}{R:α->β->Prop}{R':γ->β->Prop}{f:α->γ}(hr:∀ a b,R a b->R' (f a) b):∀ {l:List α}{m:List β},All2 R l m->All2 R' (l.map f) m
 |[],[],_=>trivial
 |_::_,_::_,h=>⟨hr _ _ h.1,All2.mapL hr h.2⟩
class Sym where
 num:Nat->Int
variable [Sym]
structure Loc where
 blk:Nat
 base:Nat
 tot:Nat
abbrev Env:=Ref->Option Loc
structure Imm where
 cell:Nat->Nat->Option Value
 map:Nat->Option (Array MapEntry×Nat)
def Imm.le(I J:Imm):Prop:=(∀ b o v,I.cell b o=some v->J.cell b o=some v)/\(∀ b e,I.map b=some e->J.map b=some e)
theorem Imm.le_refl(I:Imm):I.le I:=⟨λ_ _ _ h=>h,λ_ _ h=>h⟩
theorem Imm.le_trans{I J K:Imm}(h:I.le J)(k:J.le K):I.le K:=⟨λb o v e=>k.1 b o v (h.1 b o v e),λb e x=>k.2 b e (h.2 b e x)⟩
def Env.le(ρ σ:Env):Prop:=∀ r l,ρ r=some l->σ r=some l
theorem Env.le_refl(ρ:Env):ρ.le ρ:=λ_ _ h=>h
theorem Env.le_trans{ρ σ τ:Env}(h:ρ.le σ)(k:σ.le τ):ρ.le τ:=λr l e=>k r l (h r l e)
def oneC:Value->Bool
 |.agg _ | .tuple _=>false
 |_=>true
inductive PRel (I:Imm):PVal->Value->Prop
 |bool (b:Bool):PRel I (.bool b) (.bool b)
 |int (k:IntKind) (n:Int):PRel I (.int k n) (.int k n)
 |sym (k:IntKind) (i:Nat) (off lo hi n:Int) (hn:n=Sym.num i+off) (hb:lo<=hi->lo<=n/\n<=hi):PRel I (.sym k i off lo hi) (.int k n)
 |str (s:List UInt8) (b:ByteArray) (h:b.data.toList=s):PRel I (.str s) (.string b)
 |nilptr:PRel I .nilptr (.pointer none)
 |nilslice:PRel I .nilslice (.slice none 0 0)
 |nilmap:PRel I .nilmap (.map none)
 |nilfunc:PRel I .nilfunc .nilFunc
 |niliface:PRel I .niliface .nilIface
 |slice (sz:Nat) (tight:Bool) (rows:List (List PVal)) (b o cap:Nat) (cv:Nat->Nat->Value)
   (ht:tight=true->cap=rows.length) (hc:rows.length<=cap) (hs:∀ (i:Nat) r,rows[i]?=some r->r.length=sz)
   (hI:∀ (i:Nat) r (k:Nat) v,rows[i]?=some r->r[k]?=some v->I.cell b (o+i*sz+k)=some (cv i k))
   (hv:∀ (i:Nat) r (k:Nat) v,rows[i]?=some r->r[k]?=some v->PRel I v (cv i k)) :
   PRel I (.slice sz tight rows) (.slice (some ⟨b,o,none⟩) rows.length cap)
 |emp (sz:Nat) (tight:Bool) (a:Addr) (cap:Nat) (ht:tight=true->cap=0):PRel I (.slice sz tight []) (.slice (some a) 0 cap)
 |pptr (row:List PVal) (off:Nat) (b o:Nat) (cv:Nat->Value)
   (hI:∀ (k:Nat) v,row[k]?=some v->I.cell b (o+k)=some (cv k))
   (hv:∀ (k:Nat) v,row[k]?=some v->PRel I v (cv k)) :
   PRel I (.pptr row off) (.pointer (some ⟨b,o+off,none⟩))
 |pmap (es:List (PVal×Bool×List PVal)) (b clock:Nat) (arr:Array MapEntry) (kv:Nat->Value) (cv:Nat->Nat->Value) (born:Nat->Nat)
   (hI:I.map b=some (arr,clock)) (hl:es.length=arr.size)
   (ha:∀ (i:Nat) k a cs,es[i]?=some (k,a,cs)->arr[i]?=some ⟨kv i,(if a then .agg ((List.range cs.length).map (cv i)).toArray else cv i 0),born i⟩/\(a=false->cs.length=1))
   (hk:∀ (i:Nat) k a cs,es[i]?=some (k,a,cs)->PRel I k (kv i))
   (hv:∀ (i:Nat) k a cs (j:Nat) v,es[i]?=some (k,a,cs)->cs[j]?=some v->PRel I v (cv i j)) :
   PRel I (.pmap es) (.map (some b))
theorem PRel.mono{I J:Imm}(h:I.le J){p:PVal}{v:Value}(hp:PRel I p v):PRel J p v:=by
 induction hp with
 |bool b=>exact .bool b
 |int k n=>exact .int k n
 |sym k i off lo hi n hn hb=>exact .sym k i off lo hi n hn hb
 |str s b e=>exact .str s b e
 |nilptr=>exact .nilptr
 |nilslice=>exact .nilslice
 |nilmap=>exact .nilmap
 |nilfunc=>exact .nilfunc
 |niliface=>exact .niliface
 |slice sz tight rows b o cap cv ht hc hs hI hv ih=>exact .slice sz tight rows b o cap cv ht hc hs (λi r k v a e=>h.1 _ _ _ (hI i r k v a e)) ih
 |emp sz tight a cap ht=>exact .emp sz tight a cap ht
 |pptr row off b o cv hI hv ih=>exact .pptr row off b o cv (λk v e=>h.1 _ _ _ (hI k v e)) ih
 |pmap es b clock arr kv cv born hI hl ha hk hv ihk ihv=>exact .pmap es b clock arr kv cv born (h.2 _ _ hI) hl ha ihk ihv
theorem PRel.one{I:Imm}{p:PVal}{v:Value}(hp:PRel I p v):oneC v=true:=by cases hp <;> rfl
def locPtr(l:Loc):Value := .pointer (some ⟨l.blk,l.base,none⟩)
inductive CRel (ρ:Env) (I:Imm):Cell->Value->Prop
 |p (x:PVal) (v:Value) (h:PRel I x v):CRel ρ I (.p x) v
 |ptr (r:Ref) (off:Nat) (l:Loc) (h:ρ r=some l):CRel ρ I (.ptr r off) (.pointer (some ⟨l.blk,l.base+off,none⟩))
 |sref (r:Ref) (off len:Nat) (cap:Option Nat) (sz cc:Nat) (l:Loc) (h:ρ r=some l) (hl:len<=cc) (ht:l.base+off+cc*sz<=l.tot)
   (hc:∀ c,cap=some c->cc=c):CRel ρ I (.sref r off len cap sz) (.slice (some ⟨l.blk,l.base+off,none⟩) len cc)
 |mref (r:Ref) (l:Loc) (h:ρ r=some l):CRel ρ I (.mref r) (.map (some l.blk))
 |func (f:FuncId) (caps:List Ref) (ls:List Loc) (h:All2 (λr l=>ρ r=some l) caps ls):CRel ρ I (.func f caps) (.func (.func f) #[] (ls.map locPtr).toArray)
 |tsl (sz:Nat) (rows:List (List PVal)) (r:Ref) (b o cap:Nat) (l:Loc) (hp:PRel I (.slice sz false rows) (.slice (some ⟨b,o,none⟩) rows.length cap))
   (h:ρ r=some l) (hb:l.blk=b) (ho:o+rows.length*sz=l.base) (ht:o+cap*sz<=l.tot) :
   CRel ρ I (.tsl sz rows r) (.slice (some ⟨b,o,none⟩) rows.length cap)
 |junk (v:Value) (h:oneC v=true):CRel ρ I .junk v
theorem CRel.mono{ρ σ:Env}{I J:Imm}(hρ:ρ.le σ)(h:I.le J){c:Cell}{v:Value}(hc:CRel ρ I c v):CRel σ J c v:=by
 cases hc with
 |p x v hp=>exact .p x v (hp.mono h)
 |ptr r off l e=>exact .ptr r off l (hρ _ _ e)
 |sref r off len cap sz cc l e hl ht hc=>exact .sref r off len cap sz cc l (hρ _ _ e) hl ht hc
 |mref r l e=>exact .mref r l (hρ _ _ e)
 |func f caps ls e=>exact .func f caps ls (e.mono λr l x=>hρ r l x)
 |tsl sz rows r b o cap l hp e hb ho ht=>exact .tsl sz rows r b o cap l (hp.mono h) (hρ _ _ e) hb ho ht
 |junk v e=>exact .junk v e
theorem CRel.one{ρ:Env}{I:Imm}{c:Cell}{v:Value}(hc:CRel ρ I c v):oneC v=true:=by
 cases hc with
 |p x v hp=>exact hp.one
 |junk v e=>exact e
 |_=>rfl
def CompRel(ρ:Env)(I:Imm):Comp->Value->Prop
 |.c x,v=>CRel ρ I x v
 |.agg cs,v=>∃ arr:Array Value,v = .agg arr/\All2 (CRel ρ I) cs arr.toList
def TRel(ρ:Env)(I:Imm):TVal->Value->Prop
 |.v x,v=>CompRel ρ I x v
 |.tup vs,v=>∃ arr:Array Value,v = .tuple arr/\All2 (CompRel ρ I) vs arr.toList
theorem CompRel.mono{ρ σ:Env}{I J:Imm}(hρ:ρ.le σ)(h:I.le J){c:Comp}{v:Value}(hc:CompRel ρ I c v):CompRel σ J c v:=by
 cases c with
 |c x=>exact CRel.mono hρ h hc
 |agg cs=>obtain⟨arr,e,ha⟩:=hc; exact⟨arr,e,ha.mono λ_ _=>CRel.mono hρ h⟩
theorem TRel.mono{ρ σ:Env}{I J:Imm}(hρ:ρ.le σ)(h:I.le J){c:TVal}{v:Value}(hc:TRel ρ I c v):TRel σ J c v:=by
 cases c with
 |v x=>exact CompRel.mono hρ h hc
 |tup vs=>obtain⟨arr,e,ha⟩:=hc; exact⟨arr,e,ha.mono λ_ _=>CompRel.mono hρ h⟩
theorem CompRel.cells{ρ:Env}{I:Imm}{c:Comp}{v:Value}(h:CompRel ρ I c v):All2 (CRel ρ I) c.cells v.cells.toList:=by
 cases c with
 |c x =>
  have h1:v.cells=#[v]:=by have:=CRel.one h; cases v <;> first|rfl|cases this
  rw[h1]; exact⟨h,trivial⟩
 |agg cs=>obtain⟨arr,rfl,ha⟩:=h; exact ha
def ObjRel(ρ:Env)(I:Imm)(w:World)(l:Loc):AObj->Prop
 |.cells cs imm=>∃ arr elem lo hi,w.heap[l.blk]?=some (.cells arr elem (lo,hi))/\arr.size=l.tot/\l.base+cs.length<=l.tot /\
   (∀ (k:Nat) c,cs[k]?=some c->∃ v,arr[l.base+k]?=some v/\CRel ρ I c v)/\(∀ o,l.base+imm<=o->o<l.tot->¬ (lo<=o/\o<hi))
 |.map es clock=>∃ arr:Array MapEntry,w.heap[l.blk]?=some (.map arr clock) /\
   All2 (λ(a:PVal×Comp×Nat) (e:MapEntry)=>PRel I a.1 e.key/\CompRel ρ I a.2.1 e.val/\a.2.2=e.born) es arr.toList
 |.siter s pos=>∃ b:ByteArray,w.heap[l.blk]?=some (.stringIter b pos)/\b.data.toList=s/\l.base=0
 |.dead=>True
def ownFrom(l:Loc):AObj->Nat
 |.cells _ imm=>l.base+imm
 |_=>0
structure WRel (ρ:Env) (I:Imm) (h:Heap) (w:World):Prop where
 live:∀ r o,h.get r=some o->∃ l,ρ r=some l/\ObjRel ρ I w l o
 inj:∀ r r' o o' l l',h.get r=some o->h.get r'=some o'->ρ r=some l->ρ r'=some l'->r≠r'->l.blk≠l'.blk
 icell:∀ b o v,I.cell b o=some v->w.cell? ⟨b,o,none⟩=some v
 imap:∀ b arr c,I.map b=some (arr,c)->w.heap[b]?=some (.map arr c)
 apart:∀ r o l,h.get r=some o->ρ r=some l->∀ b k v,I.cell b k=some v->b=l.blk->k<ownFrom l o
 apartm:∀ r o l,h.get r=some o->ρ r=some l->I.map l.blk=none
 fresh:∀ d g l,ρ (.own d g)=some l->g<=h.gen d
 freshi:∀ i l,ρ (.im i)=some l->i<h.ims.length
def owned(ρ:Env)(h:Heap)(b:Nat):Prop:=∃ r o l,h.get r=some o/\ρ r=some l/\l.blk=b
structure Keep (S:Nat->Prop) (w w':World):Prop where
 os:w'.os=w.os
 tape:w'.tape=w.tape
 output:w'.output=w.output
 size:w.heap.size<=w'.heap.size
 block:∀ b,b<w.heap.size->¬ S b->w'.heap[b]?=w.heap[b]?
structure Good (ρ:Env) (I:Imm) (h:Heap) (w:World) (ρ':Env) (I':Imm) (h':Heap) (w':World):Prop where
 env:ρ.le ρ'
 imm:I.le I'
 keep:Keep (owned ρ h) w w'
 own:∀ b,owned ρ' h' b->owned ρ h b\/w.heap.size<=b
 inew:∀ b k v,I'.cell b k=some v->I.cell b k=some v\/owned ρ h b\/w.heap.size<=b
 mnew:∀ b v,I'.map b=some v->I.map b=some v\/owned ρ h b\/w.heap.size<=b
theorem Good.refl(ρ:Env)(I:Imm)(h:Heap)(w:World):Good ρ I h w ρ I h w :=
 ⟨Env.le_refl _,Imm.le_refl _,⟨rfl,rfl,rfl,Nat.le_refl _,λ_ _ _=>rfl⟩,λ_ h => .inl h,λ_ _ _ h => .inl h,λ_ _ h => .inl h⟩
theorem Good.trans{ρ:Env}{I:Imm}{h:Heap}{w:World}{ρ':Env}{I':Imm}{h':Heap}{w':World}{ρ'':Env}{I'':Imm}{h'':Heap}{w'':World}
  (a:Good ρ I h w ρ' I' h' w') (b:Good ρ' I' h' w' ρ'' I'' h'' w''):Good ρ I h w ρ'' I'' h'' w'' where
 env:=Env.le_trans a.env b.env
 imm:=Imm.le_trans a.imm b.imm
 keep:=⟨b.keep.os.trans a.keep.os,b.keep.tape.trans a.keep.tape,b.keep.output.trans a.keep.output,Nat.le_trans a.keep.size b.keep.size,
  λk hk hn=>(b.keep.block k (Nat.lt_of_lt_of_le hk a.keep.size) λho=>(a.own k ho).elim hn λhle=>absurd hk (by omega)).trans (a.keep.block k hk hn)⟩
 own:=λk hk=>(b.own k hk).elim (a.own k) λhle => .inr (Nat.le_trans a.keep.size hle)
 inew:=λk j v hk=>(b.inew k j v hk).elim (a.inew k j v) λhk => .inr (hk.elim (a.own k) λhle => .inr (Nat.le_trans a.keep.size hle))
 mnew:=λk v hk=>(b.mnew k v hk).elim (a.mnew k v) λhk => .inr (hk.elim (a.own k) λhle => .inr (Nat.le_trans a.keep.size hle))
structure SRel (nt:Nat) (ρ:Env) (I:Imm) (st:St) (a:Act) (w:World):Prop where
 heap:WRel ρ I st.h w
 tm:∀ t v,st.tm.get t=some v->TRel ρ I v (a.tmps.getD t undef)
 size:a.tmps.size=nt
 defers:a.defers=[]
end Go.AI
namespace Go.AI
variable [Sym]
theorem Heap.gen_own(h:Heap)(d g:Nat)(o:AObj)(hd:d+1<1048576):({ h with owns:=h.owns.set (g,o) d }:Heap).gen d=g:=by
 unfold Heap.gen; simp only[TM.get_set_same _ _ _ hd]
theorem Heap.gen_other(h:Heap)(d g e:Nat)(o:AObj)(hd:d≠e):({ h with owns:=h.owns.set (g,o) d }:Heap).gen e=h.gen e:=by
 unfold Heap.gen; simp only[TM.get_set_ne _ _ _ _ hd]
theorem Heap.get_set_own(h:Heap)(d g:Nat)(o:AObj)(r:Ref)(x:AObj)
  (hx:({ h with owns:=h.owns.set (g,o) d }:Heap).get r=some x):(r = .own d g/\x=o)\/((∀ g',r ≠ .own d g')/\h.get r=some x):=by
 cases r with
 |im i=>exact .inr ⟨(λ_ e=>by cases e),hx⟩
 |own e g' =>
  by_cases hde:d=e
  ·subst hde;refine .inl ?_;unfold Heap.get at hx;simp only at hx;cases hg:TM.get (h.owns.set (g,o) d) d with
   |none=>rw[hg] at hx; cases hx
   |some p =>
    have hp:=TM.get_set_some _ _ _ _ hg;subst hp;rw[hg] at hx;simp only[qAH] at hx;by_cases hgg:g'=g
    ·subst hgg;simp only[decide_true,cond_true] at hx;cases o <;> simp_all
    ·rw[decide_eq_false hgg] at hx; cases hx
  ·refine .inr ⟨λg'' e'=>by cases e'; exact hde rfl,?_⟩;unfold Heap.get at hx ⊢;simp only[TM.get_set_ne _ _ _ _ hde] at hx;exact hx
theorem Heap.get_push(h:Heap)(o:AObj)(r:Ref)(x:AObj)
  (hx:({ h with ims:=h.ims++[o] }:Heap).get r=some x):(r = .im h.ims.length/\x=o)\/(r ≠ .im h.ims.length/\h.get r=some x):=by
 cases r with
 |own e g=>exact .inr ⟨(by intro e; cases e),hx⟩
 |im i =>
  unfold Heap.get at hx;simp only at hx;by_cases hi:i<h.ims.length
  ·rw[List.getElem?_append_left hi] at hx;exact .inr ⟨λe=>by cases e; omega,hx⟩
  ·by_cases he:i=h.ims.length
   ·subst he;rw[List.getElem?_append_right (Nat.le_refl _)] at hx;simp only[Nat.sub_self,List.getElem?_cons_zero] at hx;refine .inl ⟨rfl,?_⟩;cases o <;> simp_all
   ·rw[List.getElem?_eq_none (by simp; omega)] at hx;cases hx
theorem Heap.get_ne_dead{h:Heap}{r:Ref}{x:AObj}(hx:h.get r=some x):x ≠ .dead:=by
 intro e;subst e;cases r with
 |im i =>
  unfold Heap.get at hx;simp only at hx;split at hx
  ·cases hx
  ·rename_i h1; exact h1 hx
 |own d g =>
  unfold Heap.get at hx;simp only at hx;split at hx
  ·rename_i g' o h1;cases hb:Nat.beq g g' <;> rw[hb] at hx
   ·cases hx
   ·simp only[cond_true] at hx; split at hx
    ·cases hx
    ·rename_i h2; simp at hx; exact h2 hx
  ·cases hx
theorem Heap.get_own_gen{h:Heap}{d g:Nat}{x:AObj}(hx:h.get (.own d g)=some x):h.gen d=g/\h.owns.get d=some (g,x):=by
 unfold Heap.get at hx;unfold Heap.gen;simp only at hx;cases hg:h.owns.get d with
 |none=>rw[hg] at hx; cases hx
 |some p =>
  obtain⟨g',o⟩:=p;rw[hg] at hx;simp only[qAH] at hx;by_cases hgg:g=g'
  ·subst hgg;simp only[decide_true,cond_true] at hx;refine⟨rfl,?_⟩;cases o <;> simp_all
  ·rw[decide_eq_false hgg] at hx; cases hx
theorem Heap.get_put(h:Heap)(r:Ref)(o:AObj)(r':Ref)(x:AObj)(hx:(h.put r o).get r'=some x) :
  (r'=r/\x=o)\/(r'≠r/\h.get r'=some x):=by
 cases r with
 |own d g =>
  rcases Heap.get_set_own h d g o r' x hx with ⟨a,b⟩|⟨a,b⟩
  ·exact .inl ⟨a,b⟩
  ·exact .inr ⟨a g,b⟩
 |im i =>
  cases r' with
  |own e g=>exact .inr ⟨(by intro e; cases e),hx⟩
  |im j =>
   unfold Heap.put Heap.get at hx;simp only at hx;by_cases hij:i=j
   ·subst hij;refine .inl ⟨rfl,?_⟩;by_cases hl:i<h.ims.length
    ·rw[List.getElem?_set_self hl] at hx; cases o <;> simp_all
    ·rw[List.getElem?_eq_none (by simp; omega)] at hx; cases hx
   ·rw[List.getElem?_set_ne hij] at hx;exact .inr ⟨λe=>by cases e; exact hij rfl,hx⟩
theorem Heap.gen_put{h:Heap}{r:Ref}{x:AObj}(hx:h.get r=some x)(o:AObj)(d:Nat):h.gen d<=(h.put r o).gen d:=by
 cases r with
 |im i=>exact Nat.le_refl _
 |own e g =>
  by_cases hde:e=d
  ·subst hde;have:=(Heap.get_own_gen hx);unfold Heap.put;simp only;unfold Heap.gen;cases hg:(TM.set (g,o) h.owns e).get e with
   |none =>
    exfalso
    -- what is there stays there
    have hsome:∀ (t:TM (Nat×AObj)) (n:Nat) a,(t.get n).isSome=true->((TM.set a t n).get n).isSome=true:=by
     intro t
     induction t with
     |nil=>intro n a h; cases h
     |node l v r ihl ihr =>
      intro n a h;rw[TM.set_node];rw[TM.get_node] at h;by_cases h0:n=0
      ·subst h0; simp[TM.get_node]
      ·rw[if_neg h0] at h ⊢;by_cases ho:n % 2=1
       ·rw[if_pos ho] at h ⊢; rw[TM.get_node,if_neg h0,if_pos ho]; exact ihl _ _ h
       ·rw[if_neg ho] at h ⊢; rw[TM.get_node,if_neg h0,if_neg ho]; exact ihr _ _ h
    have:=hsome h.owns e (g,o) (by rw[this.2]; rfl);rw[hg] at this;cases this
   |some p =>
    have hp:=TM.get_set_some _ _ _ _ hg;subst hp;rw[this.2];exact Nat.le_refl _
  ·unfold Heap.put;simp only;rw[Heap.gen_other _ _ _ _ _ hde];exact Nat.le_refl _
theorem Heap.ims_put(h:Heap)(r:Ref)(o:AObj):(h.put r o).ims.length=h.ims.length:=by
 cases r <;> simp[Heap.put]
theorem ObjRel.of_block{ρ:Env}{I:Imm}{w w':World}{l:Loc}{o:AObj}(h:w'.heap[l.blk]?=w.heap[l.blk]?)(ho:ObjRel ρ I w l o):ObjRel ρ I w' l o:=by
 cases o <;> simp only[ObjRel,h] at * <;> exact ho
theorem ObjRel.mono{ρ σ:Env}{I J:Imm}(hρ:ρ.le σ)(hI:I.le J){w:World}{l:Loc}{o:AObj}(ho:ObjRel ρ I w l o):ObjRel σ J w l o:=by
 cases o with
 |cells cs imm =>
  obtain⟨arr,elem,lo,hi,h1,h2,h3,h4,h5⟩:=ho;exact⟨arr,elem,lo,hi,h1,h2,h3,λk c hk=>let ⟨v,a,b⟩:=h4 k c hk; ⟨v,a,b.mono hρ hI⟩,h5⟩
 |map es clock =>
  obtain⟨arr,h1,h2⟩:=ho;exact⟨arr,h1,h2.mono λa e x=>⟨x.1.mono hI,x.2.1.mono hρ hI,x.2.2⟩⟩
 |siter s pos=>exact ho
 |dead=>trivial
theorem ObjRel.lt{ρ:Env}{I:Imm}{w:World}{l:Loc}{o:AObj}(hd:o ≠ .dead)(ho:ObjRel ρ I w l o):l.blk<w.heap.size:=by
 have:∃ x,w.heap[l.blk]?=some x:=by
  cases o with
  |cells cs imm=>obtain⟨arr,elem,lo,hi,h1,_⟩:=ho; exact⟨_,h1⟩
  |map es clock=>obtain⟨arr,h1,_⟩:=ho; exact⟨_,h1⟩
  |siter s pos=>obtain⟨b,h1,_⟩:=ho; exact⟨_,h1⟩
  |dead=>exact absurd rfl hd
 obtain⟨x,hx⟩:=this;exact(Array.getElem?_eq_some_iff.1 hx).1
theorem qCL{w w':World}{b o:Nat}(h:w'.heap[b]?=w.heap[b]?):w'.cell? ⟨b,o,none⟩=w.cell? ⟨b,o,none⟩:=by simp[World.cell?,h]
theorem qBu{w:World}{b o:Nat}{v:Value}(h:w.cell? ⟨b,o,none⟩=some v):b<w.heap.size:=World.block_lt_of_cell? w ⟨b,o,none⟩ h
theorem WRel.lt{ρ:Env}{I:Imm}{h:Heap}{w:World}(H:WRel ρ I h w){r:Ref}{o:AObj}{l:Loc}(hr:h.get r=some o)(hl:ρ r=some l):l.blk<w.heap.size:=by
 obtain⟨l',e,ho⟩:=H.live r o hr;rw[hl] at e;cases e;exact ho.lt (Heap.get_ne_dead hr)
theorem WRel.same{ρ:Env}{I:Imm}{h:Heap}{w w':World}(H:WRel ρ I h w)(hw:w'.heap=w.heap):WRel ρ I h w' where
 live r o hr:=let ⟨l,a,b⟩:=H.live r o hr; ⟨l,a,b.of_block (by rw[hw])⟩
 inj:=H.inj
 icell b o v e:=(qCL (by rw[hw])).trans (H.icell b o v e)
 imap b arr c e:=by rw[hw]; exact H.imap b arr c e
 apart:=H.apart
 apartm:=H.apartm
 fresh:=H.fresh
 freshi:=H.freshi
theorem WRel.one{ρ:Env}{I:Imm}{h:Heap}{w:World}(H:WRel ρ I h w){ρ':Env}{I':Imm}{h':Heap}{w':World}(r0:Ref)(obj:AObj)(l0:Loc)
  (hw:∀ b,b≠l0.blk->w'.heap[b]?=w.heap[b]?)
  (hρ0:ρ' r0=some l0) (hρ:∀ r,r≠r0->ρ' r=ρ r) (hle:ρ.le ρ')
  (hget:∀ r o,h'.get r=some o->(r=r0/\o=obj)\/(r≠r0/\h.get r=some o))
  (hblk:∀ r o l,r≠r0->h'.get r=some o->ρ r=some l->l.blk≠l0.blk)
  (hI:I.le I') (hI2:∀ b k v,I'.cell b k=some v->b≠l0.blk->I.cell b k=some v)
  (hI3:∀ k v,I'.cell l0.blk k=some v->k<ownFrom l0 obj/\w'.cell? ⟨l0.blk,k,none⟩=some v)
  (hIm:I'.map=I.map) (hIm0:I.map l0.blk=none)
  (hobj:ObjRel ρ' I' w' l0 obj)
  (hgen:∀ d,h.gen d<=h'.gen d) (hims:h.ims.length<=h'.ims.length)
  (hf:∀ d g,r0 = .own d g->g<=h'.gen d) (hfi:∀ i,r0 = .im i->i<h'.ims.length):WRel ρ' I' h' w' where
 live r o hr:=by
  rcases hget r o hr with ⟨rfl,rfl⟩|⟨hne,hr'⟩
  ·exact⟨l0,hρ0,hobj⟩
  ·obtain⟨l,a,b⟩:=H.live r o hr';exact⟨l,(hρ r hne).trans a,(b.mono hle hI).of_block (hw _ (hblk r o l hne hr a))⟩
 inj r r' o o' l l' hr hr' hl hl' hne:=by
  by_cases h1:r=r0
  ·subst h1;have h2:r'≠r:=Ne.symm hne;rw[hρ0] at hl;cases hl;rw[hρ r' h2] at hl';exact(hblk r' o' l' h2 hr' hl').symm
  ·by_cases h2:r'=r0
   ·subst h2;rw[hρ0] at hl';cases hl';rw[hρ r h1] at hl;exact hblk r o l h1 hr hl
   ·rw[hρ r h1] at hl;rw[hρ r' h2] at hl'
    rcases hget r o hr with ⟨a,_⟩|⟨_,hr1⟩
    ·exact absurd a h1
    ·rcases hget r' o' hr' with ⟨a,_⟩|⟨_,hr2⟩
     ·exact absurd a h2
     ·exact H.inj r r' o o' l l' hr1 hr2 hl hl' hne
 icell b o v e:=by
  by_cases hb:b=l0.blk
  ·subst hb; exact(hI3 o v e).2
  ·exact(qCL (hw b hb)).trans (H.icell b o v (hI2 b o v e hb))
 imap b arr c e:=by
  rw[hIm] at e;have hb:b≠l0.blk:=λx=>by subst x; rw[hIm0] at e; cases e
  rw[hw b hb];exact H.imap b arr c e
 apart r o l hr hl b k v hv hb:=by
  by_cases h1:r=r0
  ·subst h1;rw[hρ0] at hl;cases hl
   rcases hget r o hr with ⟨_,rfl⟩|⟨a,_⟩
   ·subst hb; exact(hI3 k v hv).1
   ·exact absurd rfl a
  ·rw[hρ r h1] at hl
   rcases hget r o hr with ⟨a,_⟩|⟨_,hr'⟩
   ·exact absurd a h1
   ·exact H.apart r o l hr' hl b k v (hI2 b k v hv (by rw[hb]; exact hblk r o l h1 hr hl)) hb
 apartm r o l hr hl:=by
  rw[hIm];by_cases h1:r=r0
  ·subst h1; rw[hρ0] at hl; cases hl; exact hIm0
  ·rw[hρ r h1] at hl
   rcases hget r o hr with ⟨a,_⟩|⟨_,hr'⟩
   ·exact absurd a h1
   ·exact H.apartm r o l hr' hl
 fresh d g l e:=by
  by_cases h1:Ref.own d g=r0
  ·exact hf d g h1.symm
  ·rw[hρ _ h1] at e; exact Nat.le_trans (H.fresh d g l e) (hgen d)
 freshi i l e:=by
  by_cases h1:Ref.im i=r0
  ·exact hfi i h1.symm
  ·rw[hρ _ h1] at e; exact Nat.lt_of_lt_of_le (H.freshi i l e) hims
end Go.AI
namespace Go.AI
variable [Sym]
def GRel(G:Nat->Option (List PVal))(I:Imm):Prop :=
 ∀ g row,G g=some row->∃ cv:Nat->Value,∀ (k:Nat) v,row[k]?=some v->I.cell g k=some (cv k)/\PRel I v (cv k)
theorem GRel.mono{G:Nat->Option (List PVal)}{I J:Imm}(h:I.le J)(hg:GRel G I):GRel G J:=λg row e =>
 let ⟨cv,hc⟩:=hg g row e
 ⟨cv,λk v hv=>⟨h.1 _ _ _ (hc k v hv).1,(hc k v hv).2.mono h⟩⟩
def ValOK(ρ:Env)(I:Imm)(h:Heap)(w:World)(r:Result Next)(v:TVal)(h':Heap):Prop :=
 ∃ w' ρ' I',((∃ cv,r = .ok (.value cv) w'/\TRel ρ' I' v cv)\/(r = .ok .skip w'/\v = .undef))/\WRel ρ' I' h' w'/\Good ρ I h w ρ' I' h' w'
theorem ValOK.pure{ρ:Env}{I:Imm}{h:Heap}{w:World}(H:WRel ρ I h w){r:Result Next}{v:TVal}{cv:Value}(hr:r = .ok (.value cv) w)(hv:TRel ρ I v cv):ValOK ρ I h w r v h :=
 ⟨w,ρ,I,.inl ⟨cv,hr,hv⟩,H,Good.refl _ _ _ _⟩
theorem qDk{v v':TVal}{d:Nat}{h h':Heap}{t:Touch}(e:goOp [] (λ_=>some ⟨λ_=>v,[],none,false⟩) d h=some (v',h',t)):v'=v/\h'=h:=by
 simp[goOp] at e; exact⟨e.1.symm,e.2.1.symm⟩
theorem qFX{I:Imm}{v:Value}{p:PVal}(h:constP v=some p):PRel I p v:=by
 unfold constP at h;split at h <;> simp at h <;> subst h
 ·exact .bool _
 ·exact .int _ _
 ·exact .str _ _ rfl
 ·exact .nilptr
 ·exact .nilslice
 ·exact .nilmap
 ·exact .nilfunc
 ·exact .niliface
theorem qKS{α β:Type}{f:α->Option β}{R:β->α->Prop}(hr:∀ a b,f a=some b->R b a):∀ {l:List α}{m:List β},l.mapM f=some m->All2 R m l:=by
 intro l
 induction l with
 |nil=>intro m h; simp at h; subst h; trivial
 |cons a l ih =>
  intro m h;simp only[List.mapM_cons,Option.bind_eq_bind,Option.bind_eq_some_iff] at h;obtain⟨b,hb,bs,hbs,e⟩:=h;simp at e; subst e;exact⟨hr a b hb,ih hbs⟩
theorem qA1{ρ:Env}{I:Imm}{v:Value}{c:Comp}(h:constC v=some c):CompRel ρ I c v:=by
 unfold constC at h;split at h
 ·rename_i cs;cases hm:cs.toList.mapM constP with
  |none=>rw[hm] at h; cases h
  |some l =>
   rw[hm] at h; simp at h; subst h;refine⟨cs,rfl,?_⟩;have:=qKS (R:=λp v=>PRel I p v) (λa b e=>qFX e) hm;exact this.mapL λp v e=>CRel.p p v e
 ·cases hp:constP v with
  |none=>rw[hp] at h; cases h
  |some p=>rw[hp] at h; simp at h; subst h; exact CRel.p _ _ (qFX hp)
theorem qJD{ρ:Env}{I:Imm}{v:Value}{t:TVal}(h:constT v=some t):TRel ρ I t v:=by
 unfold constT at h;split at h
 ·simp at h; subst h; exact⟨#[],rfl,trivial⟩
 ·cases hc:constC v with
  |none=>rw[hc] at h; cases h
  |some c=>rw[hc] at h; simp at h; subst h; exact qA1 hc
section
variable {P:Program} {G:Nat->Option (List PVal)} {ρ:Env} {I:Imm} {tm:TM TVal} {a:Act}
theorem qP6(hG:GRel G I)(htm:∀ t v,tm.get t=some v->TRel ρ I v (a.tmps.getD t undef)){x:Operand}{x':X}(hx:compX G x=some x'){v:TVal}(hv:x'.ev tm=some v) :
  TRel ρ I v (a.eval x):=by
 cases x with
 |tmp t=>simp[compX] at hx; subst hx; exact htm t v hv
 |const c =>
  cases hc:constT c with
  |none=>simp[compX,hc] at hx
  |some t=>simp[compX,hc] at hx; subst hx; simp[X.ev] at hv; subst hv; exact qJD hc
 |global g =>
  cases hg:G g with
  |none=>simp[compX,hg] at hx
  |some row =>
   simp[compX,hg] at hx; subst hx; simp[X.ev] at hv; subst hv;obtain⟨cv,hc⟩:=hG g row hg;show CRel ρ I (.p (.pptr row 0)) _;refine .p _ _ ?_;have:=PRel.pptr (I:=I) row 0 g 0 cv (λk v hv=>by simpa using (hc k v hv).1) (λk v hv=>(hc k v hv).2)
   simpa [Act.eval] using this
 |func f =>
  simp[compX] at hx; subst hx; simp[X.ev] at hv; subst hv;show CRel ρ I (.func f []) _;exact CRel.func f [] [] trivial
end
theorem qCx:∀ (a b:List UInt8),Op.bytesLess a b=bless a b
 |_,[]=>by cases ‹List UInt8› <;> rfl
 |[],_::_=>rfl
 |a::x,b::y=>by simp[Op.bytesLess,bless,qCx x y]
theorem toList_data(b:ByteArray):b.toList=b.data.toList:=by
 exact ByteArray.toList_eq b
theorem qE7{ρ:Env}{I:Imm}{op:BinOp}{k:IntKind}{x y:Int}{p:PVal}(h:intBin op k x y=some p)(P:Program)(w:World)(t:TypeId) :
  ∃ cv,(binOp op t (.int k x) (.int k y)).run P w = .ok cv w/\CRel ρ I (.p p) cv:=by
 unfold intBin at h;cases op <;> simp only at h
 case quo =>
  split at h
  ·cases h
  ·rename_i hy; cases h; exact⟨_,by simp[binOp,Op.intDiv,hy],.p _ _ (.int _ _)⟩
 case rem =>
  split at h
  ·cases h
  ·rename_i hy; cases h; exact⟨_,by simp[binOp,Op.intDiv,hy],.p _ _ (.int _ _)⟩
 case shl=>cases h
 case shr=>cases h
 all_goals
  cases h
  first
   |exact⟨_,by simp only[binOp,ne_eq,not_true_eq_false,if_false]; rfl,.p _ _ (.int _ _)⟩
   |exact⟨_,by simp only[binOp,ne_eq,not_true_eq_false,if_false]; rfl,.p _ _ (.bool _)⟩
theorem qGi{ρ:Env}{I:Imm}{op:BinOp}{k k':IntKind}{x y:Int}{p:PVal}(h:shiftBin op k x y=some p)(P:Program)(w:World)(t:TypeId) :
  ∃ cv,(binOp op t (.int k x) (.int k' y)).run P w = .ok cv w/\CRel ρ I (.p p) cv:=by
 unfold shiftBin at h;split at h
 ·cases h
 ·rename_i hy;cases op <;> simp only at h <;> cases h
  ·exact⟨_,by simp[binOp,Op.shift,hy],.p _ _ (.int _ _)⟩
  ·exact⟨_,by simp[binOp,Op.shift,hy],.p _ _ (.int _ _)⟩
theorem qJC{ρ:Env}{I:Imm}{op:BinOp}{x y:ByteArray}{p:PVal}(h:strBin op x.data.toList y.data.toList=some p)(P:Program)(w:World)(t:TypeId) :
  ∃ cv,(binOp op t (.string x) (.string y)).run P w = .ok cv w/\CRel ρ I (.p p) cv:=by
 unfold strBin at h;cases op <;> simp only at h
 case add =>
  split at h
  ·rename_i hl;cases h;refine⟨.string (x++y),?_,.p _ _ (.str _ _ (by simp))⟩;have h1:¬ ((x.size+y.size:Nat):Int)>IntKind.i64.max:=by
    have e1:x.data.toList.length=x.size:=by simp
    have e2:y.data.toList.length=y.size:=by simp
    have:IntKind.i64.max=9223372036854775807:=by decide
    rw[this]; omega
   simp only[binOp,Op.stringOp];rw[if_neg h1]; rfl
  ·cases h
 all_goals first|(cases h; done)|skip
 all_goals
  cases h;refine⟨_,by simp only[binOp,Op.stringOp,toList_data,qCx]; rfl,.p _ _ (.bool _)⟩
theorem qDb{ρ:Env}{I:Imm}{c:Cell}{v:Value}(h:CRel ρ I c v)(b:Bool)(hb:isNil c=some b) :
  (nilKind c=1/\∃ a:Option Addr,v = .pointer a/\b=a.isNone)\/(nilKind c=2/\∃ (a:Option Addr) (n k:Nat),v = .slice a n k/\b=a.isNone) \/
  (nilKind c=3/\∃ a:Option Nat,v = .map a/\b=a.isNone)\/(nilKind c=4/\((v = .nilFunc/\b=true)\/(∃ f x y,v = .func f x y/\b=false))):=by
 cases h with
 |p x v hp=>cases hp <;> simp_all [isNil,nilKind]
 |ptr r off l e=>simp_all [isNil,nilKind]
 |sref r off len cap sz cc l e hl ht hc=>simp_all [isNil,nilKind]
 |mref r l e=>simp_all [isNil,nilKind]
 |func f caps ls e=>simp_all [isNil,nilKind]
 |tsl sz rows r b o cap l hp e hb ho ht=>simp_all [isNil,nilKind]
 |junk v e=>simp[isNil] at hb
theorem qBH(P:Program)(t:TypeId)(fs:Array Field)(n:Nat)(h:structKind P t fs=n):n=0\/8<=n:=by
 unfold structKind at h;split at h
 ·split at h
  ·exact .inr (by omega)
  ·exact .inl h.symm
 ·exact .inl h.symm
theorem qJo{P:Program}{t:TypeId}(h:kindOf P t=1):∃ e,P.underlying t=some (.pointer e):=by
 unfold kindOf at h; split at h <;> first|(cases h; done)|(have:=qBH _ _ _ _ h; omega)|exact⟨_,‹_›⟩
theorem qHM{P:Program}{t:TypeId}(h:kindOf P t=2):∃ e,P.underlying t=some (.slice e):=by
 unfold kindOf at h; split at h <;> first|(cases h; done)|(have:=qBH _ _ _ _ h; omega)|exact⟨_,‹_›⟩
theorem qJR{P:Program}{t:TypeId}(h:kindOf P t=3):∃ e f,P.underlying t=some (.map e f):=by
 unfold kindOf at h; split at h <;> first|(cases h; done)|(have:=qBH _ _ _ _ h; omega)|exact⟨_,_,‹_›⟩
theorem qHv{P:Program}{t:TypeId}(h:kindOf P t=4):∃ e f g,P.underlying t=some (.func e f g):=by
 unfold kindOf at h; split at h <;> first|(cases h; done)|(have:=qBH _ _ _ _ h; omega)|exact⟨_,_,_,‹_›⟩
theorem qH1{P:Program}{t:TypeId}(h:kindOf P t=5):P.underlying t=some .bool:=by
 unfold kindOf at h; split at h <;> first|(cases h; done)|(have:=qBH _ _ _ _ h; omega)|assumption
theorem qLi{P:Program}{t e:TypeId}(h:P.underlying t=some (.pointer e))(a b:Option Addr)(hab:a=none\/b=none)(w:World) :
  (Op.equal t (.pointer a) (.pointer b)).run P w = .ok (a.isNone&&b.isNone) w:=by
 obtain⟨d,hd⟩:∃ d,Op.maxDepth=d+1:=⟨9999,rfl⟩;unfold Op.equal; rw[hd];cases a <;> cases b <;> simp[Op.equalIn,run_underlying h] <;> simp at hab
theorem qH6{P:Program}{t e:TypeId}(h:P.underlying t=some (.slice e))(a b:Option Addr)(n k m l:Nat)(hab:a=none\/b=none)(w:World) :
  (Op.equal t (.slice a n k) (.slice b m l)).run P w = .ok (a.isNone&&b.isNone) w:=by
 obtain⟨d,hd⟩:∃ d,Op.maxDepth=d+1:=⟨9999,rfl⟩;unfold Op.equal; rw[hd];cases a <;> cases b <;> simp[Op.equalIn,run_underlying h] <;> simp at hab
theorem qLe{P:Program}{t e f:TypeId}(h:P.underlying t=some (.map e f))(a b:Option Nat)(hab:a=none\/b=none)(w:World) :
  (Op.equal t (.map a) (.map b)).run P w = .ok (a.isNone&&b.isNone) w:=by
 obtain⟨d,hd⟩:∃ d,Op.maxDepth=d+1:=⟨9999,rfl⟩;unfold Op.equal; rw[hd];cases a <;> cases b <;> simp[Op.equalIn,run_underlying h] <;> simp at hab
theorem qJB{P:Program}{t:TypeId}{e f g}(h:P.underlying t=some (.func e f g))(x y:Value)(bx b':Bool)
  (hx:(x = .nilFunc/\bx=true)\/(∃ f c d,x = .func f c d/\bx=false)) (hy:(y = .nilFunc/\b'=true)\/(∃ f c d,y = .func f c d/\b'=false)) (hab:bx=true\/b'=true) (w:World) :
  (Op.equal t x y).run P w = .ok (bx&&b') w:=by
 obtain⟨d,hd⟩:∃ d,Op.maxDepth=d+1:=⟨9999,rfl⟩;unfold Op.equal; rw[hd]
 rcases hx with ⟨rfl,rfl⟩|⟨_,_,_,rfl,rfl⟩ <;> rcases hy with ⟨rfl,rfl⟩|⟨_,_,_,rfl,rfl⟩ <;> simp[Op.equalIn,run_underlying h] <;> simp at hab
theorem qE0{P:Program}{t:TypeId}(h:P.underlying t=some .bool)(a b:Bool)(w:World) :
  (Op.equal t (.bool a) (.bool b)).run P w = .ok (a==b) w:=by
 obtain⟨d,hd⟩:∃ d,Op.maxDepth=d+1:=⟨9999,rfl⟩;unfold Op.equal; rw[hd];simp[Op.equalIn,run_underlying h]
theorem qAr{P:Program}{t:TypeId}{x y:Value}{b:Bool}{w:World}(h:(Op.equal t x y).run P w = .ok b w)
  (hk:∀ op,op = .eql\/op = .neq->binOp op t x y=(if op = .eql then (Op.equal t x y).bind (λb => .pure (.bool b)) else (Op.equal t x y).bind (λb => .pure (.bool (!b))))) :
  (binOp .eql t x y).run P w = .ok (.bool b) w/\(binOp .neq t x y).run P w = .ok (.bool (!b)) w:=by
 have e1:=hk .eql (.inl rfl);have e2:=hk .neq (.inr rfl);rw[if_pos rfl] at e1;rw[if_neg (by decide)] at e2;rw[e1,e2];constructor
 ·rw[Sem.run_bind',h]; rfl
 ·rw[Sem.run_bind',h]; rfl
theorem qF8{ρ:Env}{I:Imm}{P:Program}{t:TypeId}{x y:Cell}{vx vy:Value}{b:Bool}(hx:CRel ρ I x vx)(hy:CRel ρ I y vy)(h:eqNil (kindOf P t) x y=some b)(w:World) :
  ((binOp .eql t vx vy).run P w = .ok (.bool b) w/\(binOp .neq t vx vy).run P w = .ok (.bool (!b)) w)/\oneC vx=true/\vx ≠ .nilIface:=by
 unfold eqNil at h;split at h
 ·rename_i hk;have main:∀ bx by',isNil x=some bx->isNil y=some by'->(bx=true\/by'=true)->b=(bx&&by') ->
    ((binOp .eql t vx vy).run P w = .ok (.bool b) w/\(binOp .neq t vx vy).run P w = .ok (.bool (!b)) w)/\oneC vx=true/\vx ≠ .nilIface:=by
   intro bx by' h1 h2 h3 h4;subst h4
   rcases qDb hx bx h1 with ⟨k1,a1,e1,b1⟩|⟨k1,a1,n1,c1,e1,b1⟩|⟨k1,a1,e1,b1⟩|⟨k1,e1⟩ <;>
   rcases qDb hy by' h2 with ⟨k2,a2,e2,b2⟩|⟨k2,a2,n2,c2,e2,b2⟩|⟨k2,a2,e2,b2⟩|⟨k2,e2⟩ <;>
   first
    |(exfalso; omega)
    |skip
   ·obtain⟨e,he⟩:=qJo (hk.1.symm.trans k1);subst e1 e2 b1 b2;exact⟨qAr (qLi he a1 a2 (by simpa using h3) w) (λop ho=>by rcases ho with rfl|rfl <;> rfl),rfl,by simp⟩
   ·obtain⟨e,he⟩:=qHM (hk.1.symm.trans k1);subst e1 e2 b1 b2;exact⟨qAr (qH6 he a1 a2 _ _ _ _ (by simpa using h3) w) (λop ho=>by rcases ho with rfl|rfl <;> rfl),rfl,by simp⟩
   ·obtain⟨e,f,he⟩:=qJR (hk.1.symm.trans k1);subst e1 e2 b1 b2;exact⟨qAr (qLe he a1 a2 (by simpa using h3) w) (λop ho=>by rcases ho with rfl|rfl <;> rfl),rfl,by simp⟩
   ·obtain⟨e,f,g,he⟩:=qHv (hk.1.symm.trans k1);have hr:=qJB he vx vy bx by' e1 e2 h3 w
    rcases e1 with ⟨rfl,rfl⟩|⟨f1,x1,y1,rfl,rfl⟩ <;> rcases e2 with ⟨rfl,rfl⟩|⟨f2,x2,y2,rfl,rfl⟩ <;>
     exact⟨qAr hr (λop ho=>by rcases ho with rfl|rfl <;> rfl),rfl,by simp⟩
  split at h
  ·rename_i h1 h2; cases h; exact main _ _ h1 h2 (.inl rfl) (by simp)
  ·rename_i h1 h2; cases h; exact main _ _ h1 h2 (.inr rfl) (by simp)
  ·cases h
 ·cases h
theorem qGU(P:Program)(w:World)(op:BinOp)(t:TypeId)(x y:Operand)(a b:Value)(ha:oneC a=true)(hn:a ≠ .nilIface):(eqGuard op t x y a b).run P w = .ok () w:=by
 unfold eqGuard;cases op <;> simp
 all_goals (cases a <;> simp_all [oneC])
theorem qDt(k:IntKind)(z:Int)(h1:k.min<=z)(h2:z<=k.max):k.wrap z=z:=by
 cases k <;> simp only[IntKind.min,IntKind.max,IntKind.bits,IntKind.signed,if_true,Bool.false_eq_true,if_false] at h1 h2 <;> simp only[IntKind.wrap,IntKind.bits,IntKind.signed,Bool.true_and,Bool.false_and,decide_eq_true_eq,Bool.false_eq_true,if_false,ge_iff_le]
 case i8=>split <;> omega
 case i16=>split <;> omega
 case i32=>split <;> omega
 case i64=>split <;> omega
 all_goals omega
theorem qJO{ρ:Env}{I:Imm}{op:BinOp}{k k':IntKind}{i:Nat}{off lo hi b n:Int}{c:Cell}(hn:n=Sym.num i+off)(hb:lo<=hi->lo<=n/\n<=hi)(h:symBin op k i off lo hi k' b=some c) :
  k=k'/\∃ p,intBin op k n b=some p/\∀ cv,CRel ρ I (.p p) cv->CRel ρ I c cv:=by
 unfold symBin at h;split at h
 ·rename_i hk;obtain⟨rfl,hlh⟩:=hk;obtain⟨h1,h2⟩:=hb hlh;refine⟨rfl,?_⟩;have bl:∀ (p:Bool) (q:Bool),p=q->∀ cv,CRel ρ I (.p (.bool p)) cv->CRel ρ I (.p (.bool q)) cv:=λp q e cv hc=>e▸hc
  cases op <;> simp only at h <;> (try (cases h; done))
  case add =>
   split at h
   ·rename_i hr;cases h;refine⟨_,rfl,λcv hc => ?_⟩;rw[qDt k (n+b) (by omega) (by omega)] at hc;cases hc with|p _ _ hc =>
    cases hc;exact .p _ _ (.sym k i _ _ _ (n+b) (by omega) λ_=>⟨by omega,by omega⟩)
   ·cases h
  case sub =>
   split at h
   ·rename_i hr;cases h;refine⟨_,rfl,λcv hc => ?_⟩;rw[qDt k (n - b) (by omega) (by omega)] at hc;cases hc with|p _ _ hc =>
    cases hc;exact .p _ _ (.sym k i _ _ _ (n - b) (by omega) λ_=>⟨by omega,by omega⟩)
   ·cases h
  case lss =>
   refine⟨_,rfl,?_⟩;split at h
   ·cases h; exact bl _ _ (decide_eq_true (by omega))
   ·split at h
    ·cases h; exact bl _ _ (decide_eq_false (by omega))
    ·cases h
  case leq =>
   refine⟨_,rfl,?_⟩;split at h
   ·cases h; exact bl _ _ (decide_eq_true (by omega))
   ·split at h
    ·cases h; exact bl _ _ (decide_eq_false (by omega))
    ·cases h
  case gtr =>
   refine⟨_,rfl,?_⟩;split at h
   ·cases h; exact bl _ _ (decide_eq_true (by omega))
   ·split at h
    ·cases h; exact bl _ _ (decide_eq_false (by omega))
    ·cases h
  case geq =>
   refine⟨_,rfl,?_⟩;split at h
   ·cases h; exact bl _ _ (decide_eq_true (by omega))
   ·split at h
    ·cases h; exact bl _ _ (decide_eq_false (by omega))
    ·cases h
  case eql =>
   refine⟨_,rfl,?_⟩;split at h
   ·cases h; exact bl _ _ (decide_eq_false (p:=n=b) (by omega))
   ·cases h
  case neq =>
   refine⟨_,rfl,?_⟩;split at h
   ·rename_i hr;cases h;have e:(n==b)=false:=decide_eq_false (p:=n=b) (by omega);exact bl _ _ (by show(!(n==b))=true; rw[e]; rfl)
   ·cases h
 ·cases h
theorem qMp{ρ:Env}{I:Imm}{P:Program}{t:TypeId}{op:BinOp}{x y c:Cell}{vx vy:Value}(hx:CRel ρ I x vx)(hy:CRel ρ I y vy)(h:binV op (kindOf P t) x y=some c)(w:World)(X Y:Operand) :
  ∃ cv,(do eqGuard op t X Y vx vy; binOp op t vx vy:Sem Value).run P w = .ok cv w/\CRel ρ I c cv:=by
 have step:∀ cv,oneC vx=true->vx ≠ .nilIface->(binOp op t vx vy).run P w = .ok cv w->(do eqGuard op t X Y vx vy; binOp op t vx vy:Sem Value).run P w = .ok cv w:=by
  intro cv h1 h2 h3;simp[qGU P w op t X Y vx vy h1 h2,h3]
 unfold binV at h;split at h
 ·rename_i k a k' b;cases hx with|p _ _ hp=>cases hy with|p _ _ hq =>
  cases hp; cases hq;have go:∀ p,(shiftBin op k a b=some p\/(k=k'/\intBin op k a b=some p))->c = .p p->∃ cv,(do eqGuard op t X Y (.int k a) (.int k' b); binOp op t (.int k a) (.int k' b):Sem Value).run P w = .ok cv w/\CRel ρ I c cv:=by
   intro p hp hc;subst hc
   rcases hp with hp|⟨rfl,hp⟩
   ·obtain⟨cv,h1,h2⟩:=qGi (ρ:=ρ) (I:=I) (k':=k') hp P w t;exact⟨cv,step cv rfl (by simp) h1,h2⟩
   ·obtain⟨cv,h1,h2⟩:=qE7 (ρ:=ρ) (I:=I) hp P w t;exact⟨cv,step cv rfl (by simp) h1,h2⟩
  have fin:∀ (o:Option PVal),o.map Cell.p=some c->∃ p,o=some p/\c = .p p:=by
   intro o ho;cases o with
   |none=>cases ho
   |some p=>simp at ho; exact⟨p,rfl,ho.symm⟩
  cases op <;> simp only at h
  case shl=>obtain⟨p,h1,h2⟩:=fin _ h; exact go p (.inl h1) h2
  case shr=>obtain⟨p,h1,h2⟩:=fin _ h; exact go p (.inl h1) h2
  all_goals
   split at h
   ·rename_i hk;obtain⟨p,h1,h2⟩:=fin _ h; exact go p (.inr ⟨hk,h1⟩) h2
   ·cases h
 ·rename_i a b;cases hx with|p _ _ hp=>cases hy with|p _ _ hq =>
  cases hp with|str _ x ex=>cases hq with|str _ y ey =>
  subst ex ey;cases hs:strBin op x.data.toList y.data.toList with
  |none=>rw[hs] at h; cases h
  |some p =>
   rw[hs] at h; simp at h; subst h;obtain⟨cv,h1,h2⟩:=qJC (ρ:=ρ) (I:=I) hs P w t;exact⟨cv,step cv rfl (by simp) h1,h2⟩
 ·rename_i a b;cases hx with|p _ _ hp=>cases hy with|p _ _ hq =>
  cases hp; cases hq;split at h
  ·rename_i hk;have hu:=qH1 hk;cases op <;> simp only at h <;> first|(cases h; done)|skip
   ·cases h;exact⟨_,step _ rfl (by simp) (qAr (qE0 hu a b w) (λop ho=>by rcases ho with rfl|rfl <;> rfl)).1,.p _ _ (.bool _)⟩
   ·cases h;exact⟨_,step _ rfl (by simp) (qAr (qE0 hu a b w) (λop ho=>by rcases ho with rfl|rfl <;> rfl)).2,.p _ _ (.bool _)⟩
  ·cases h
 ·rename_i k i off lo hi k' b;cases hx with|p _ _ hp=>cases hy with|p _ _ hq =>
  cases hp with|sym _ _ _ _ _ n hn hb =>
  cases hq;obtain⟨rfl,p,h1,h2⟩:=qJO (ρ:=ρ) (I:=I) hn hb h;obtain⟨cv,h3,h4⟩:=qE7 (ρ:=ρ) (I:=I) h1 P w t;exact⟨cv,step cv rfl (by simp) h3,h2 cv h4⟩
 ·split at h
  ·cases he:eqNil (kindOf P t) x y with
   |none=>rw[he] at h; cases h
   |some b =>
    rw[he] at h; simp at h; subst h;obtain⟨⟨h1,h2⟩,h3,h4⟩:=qF8 hx hy he w;exact⟨.bool b,step _ h3 h4 h1,.p _ _ (.bool _)⟩
  ·cases he:eqNil (kindOf P t) x y with
   |none=>rw[he] at h; cases h
   |some b =>
    rw[he] at h; simp at h; subst h;obtain⟨⟨h1,h2⟩,h3,h4⟩:=qF8 hx hy he w;exact⟨.bool (!b),step _ h3 h4 h2,.p _ _ (.bool _)⟩
  ·cases h
theorem qBx{ρ:Env}{I:Imm}{P:Program}(w:World)(d:Nat)(xs ys:Array Value):∀ (fs:List Field) (i n:Nat) (as bs:List Cell) (r:Bool),fieldsCode P fs i=some n->eqCells n as bs=some r ->
  All2 (CRel ρ I) as (xs.toList.drop i)->All2 (CRel ρ I) bs (ys.toList.drop i)->(Op.eqFields (d+1) xs ys fs).run P w = .ok r w
 |[],i,n,as,bs,r,hf,he,ha,hb=>by
  cases hf;have:r=true:=by
   cases as with
   |nil=>cases bs with
    |nil=>unfold eqCells at he; split at he <;> simp_all
    |cons b bs=>simp[eqCells] at he
   |cons a as =>
    unfold eqCells at he;split at he <;> first|(cases he; done)|(rename_i hh _; cases hh; done)|(rename_i hh; cases hh; done)|simp at he
  subst this;rfl
 |f::fs,i,n,as,bs,r,hf,he,ha,hb=>by
  unfold fieldsCode at hf;split at hf
  ·rename_i hc;obtain⟨h1,h2,h3⟩:=hc;cases hn:fieldsCode P fs (i+1) with
   |none=>rw[hn] at hf; cases hf
   |some m =>
    rw[hn] at hf;simp only[Option.map_some,Option.some.injEq] at hf;subst hf h2;have hd:fieldDigit P f=1\/fieldDigit P f=2\/fieldDigit P f=3:=by
     unfold fieldDigit at h3 ⊢;split <;> simp_all
    have hm:(4*m+fieldDigit P f) % 4=fieldDigit P f/\(4*m+fieldDigit P f) / 4=m:=by rcases hd with e|e|e <;> rw[e] <;> omega
    have pt:∀ (zs:Array Value) (v:Value) (l:List Value),zs.toList.drop f.offset=v::l->zs[f.offset]?=some v/\zs.toList.drop (f.offset+1)=l:=λzs v l e=>by
     constructor
     ·have:=congrArg (·[0]?) e
      simpa using this
     ·have:=congrArg (List.drop 1) e
      simpa [Nat.add_comm] using this
    have ag:∀ w,(isAgg f.type).run P w = .ok false w:=by
     intro w;unfold isAgg;unfold fieldDigit at h3;cases hu:P.underlying f.type with
     |none=>rw[hu] at h3; exact absurd rfl h3
     |some dd =>
      rw[hu] at h3;simp only[Sem.run_bind,run_underlying hu,Result.andThen_ok];cases dd <;> first|rfl|exact absurd rfl h3
    have run:∀ (u v:Value) (q:Bool) (la lb:List Value) (r':Bool),xs.toList.drop f.offset=u::la->ys.toList.drop f.offset=v::lb->(Op.equalIn (d+1) f.type u v).run P w = .ok q w ->
      (Op.eqFields (d+1) xs ys fs).run P w = .ok r' w->(Op.eqFields (d+1) xs ys (f::fs)).run P w = .ok (q&&r') w:=by
     intro u v q la lb r' ex ey hq hr;have p1:(part f.type xs f.offset).run P w = .ok u w:=by
      unfold part; simp[Sem.run_bind,ag,(pt xs u la ex).1]
     have p2:(part f.type ys f.offset).run P w = .ok v w:=by
      unfold part; simp[Sem.run_bind,ag,(pt ys v lb ey).1]
     unfold Op.eqFields;rw[if_pos h1];simp only[Sem.run_bind,p1,p2,hq,Result.andThen_ok];cases q with
     |false=>simp
     |true=>simp[hr]
    unfold eqCells at he;split at he
    ·rcases hd with e|e|e <;> rw[e] at he <;> simp at he
    ·rename_i _ k a as' k' b bs'
     rcases hxs:xs.toList.drop f.offset with _|⟨ux,lx⟩
     ·rw[hxs] at ha; cases ha
     rcases hys:ys.toList.drop f.offset with _|⟨uy,ly⟩
     ·rw[hys] at hb; cases hb
     rw[hxs] at ha; rw[hys] at hb;obtain⟨ua,ta⟩:=ha;obtain⟨ub,tb⟩:=hb;split at he
     ·rename_i hk;rw[hm.2] at he;obtain⟨hk1,rfl⟩:=hk;rw[hm.1] at hk1;cases hr:eqCells m as' bs' with
      |none=>rw[hr] at he; cases he
      |some r' =>
       rw[hr] at he;simp only[Option.map_some,Option.some.injEq] at he;subst he;cases ua with|p _ _ hp=>cases ub with|p _ _ hq =>
       cases hp; cases hq;obtain⟨kk,hkk⟩:∃ kk,P.underlying f.type=some (.int kk):=by
        unfold fieldDigit at hk1;split at hk1 <;> first|exact⟨_,‹_›⟩|cases hk1
       exact run _ _ _ lx ly r' hxs hys (run_equalIn_int w d f.type k kk a b hkk) (qBx w d xs ys fs (f.offset+1) m as' bs' r' hn hr (by rw[(pt xs _ _ hxs).2]; exact ta) (by rw[(pt ys _ _ hys).2]; exact tb))
     ·cases he
    ·rename_i _ a as' b bs'
     rcases hxs:xs.toList.drop f.offset with _|⟨ux,lx⟩
     ·rw[hxs] at ha; cases ha
     rcases hys:ys.toList.drop f.offset with _|⟨uy,ly⟩
     ·rw[hys] at hb; cases hb
     rw[hxs] at ha; rw[hys] at hb;obtain⟨ua,ta⟩:=ha;obtain⟨ub,tb⟩:=hb;split at he
     ·rename_i hk1;rw[hm.2] at he;rw[hm.1] at hk1;cases hr:eqCells m as' bs' with
      |none=>rw[hr] at he; cases he
      |some r' =>
       rw[hr] at he;simp only[Option.map_some,Option.some.injEq] at he;subst he;cases ua with|p _ _ hp=>cases ub with|p _ _ hq =>
       cases hp with|str _ x ex=>cases hq with|str _ y ey =>
       subst ex ey;have hkk:P.underlying f.type=some .string:=by
        unfold fieldDigit at hk1;split at hk1 <;> first|assumption|cases hk1
       refine run _ _ _ lx ly r' hxs hys ?_ (qBx w d xs ys fs (f.offset+1) m as' bs' r' hn hr (by rw[(pt xs _ _ hxs).2]; exact ta) (by rw[(pt ys _ _ hys).2]; exact tb));have:=run_equalIn_string (P:=P) w d f.type x y hkk
       rwa [ByteArray.toList_eq,ByteArray.toList_eq] at this
     ·cases he
    ·rename_i _ a as' b bs'
     rcases hxs:xs.toList.drop f.offset with _|⟨ux,lx⟩
     ·rw[hxs] at ha; cases ha
     rcases hys:ys.toList.drop f.offset with _|⟨uy,ly⟩
     ·rw[hys] at hb; cases hb
     rw[hxs] at ha; rw[hys] at hb;obtain⟨ua,ta⟩:=ha;obtain⟨ub,tb⟩:=hb;split at he
     ·rename_i hk1;rw[hm.2] at he;rw[hm.1] at hk1;cases hr:eqCells m as' bs' with
      |none=>rw[hr] at he; cases he
      |some r' =>
       rw[hr] at he;simp only[Option.map_some,Option.some.injEq] at he;subst he;cases ua with|p _ _ hp=>cases ub with|p _ _ hq =>
       cases hp; cases hq;have hkk:P.underlying f.type=some .bool:=by
        unfold fieldDigit at hk1;split at hk1 <;> first|assumption|cases hk1
       exact run _ _ _ lx ly r' hxs hys (run_equalIn_bool' w d f.type a b hkk) (qBx w d xs ys fs (f.offset+1) m as' bs' r' hn hr (by rw[(pt xs _ _ hxs).2]; exact ta) (by rw[(pt ys _ _ hys).2]; exact tb))
     ·cases he
    ·cases he
  ·cases hf
theorem qI9{ρ:Env}{I:Imm}{P:Program}{t:TypeId}{op:BinOp}{xs ys:List Cell}{c:Cell}{vx vy:Value}(hx:CompRel ρ I (.agg xs) vx)(hy:CompRel ρ I (.agg ys) vy)(h:binAgg op (kindOf P t) xs ys=some c)(w:World)(X Y:Operand) :
  ∃ cv,(do eqGuard op t X Y vx vy; binOp op t vx vy:Sem Value).run P w = .ok cv w/\CRel ρ I c cv:=by
 obtain⟨ax,rfl,hx⟩:=hx;obtain⟨ay,rfl,hy⟩:=hy;unfold binAgg at h;split at h
 ·rename_i h8;obtain⟨fs,n,hu,hs,hg,hn,hk⟩:∃ fs n,P.underlying t=some (.struct fs)/\P.stoodInHeld t=false/\P.eqGuardType P.depth t=false/\fieldsCode P fs.toList 0=some n/\kindOf P t=n+8:=by
   unfold kindOf at h8 ⊢;split at h8 <;> first|omega|skip
   rename_i fs hu;unfold structKind at h8 ⊢;split at h8
   ·rename_i hc;rw[if_pos hc];split at h8
    ·rename_i n hn;exact⟨fs,n,hu,hc.1,hc.2,hn,rfl⟩
    ·omega
   ·omega
  have hf:P.fieldsOf t=fs:=by unfold Program.fieldsOf; rw[hu]
  have main:∀ r,eqCells (kindOf P t - 8) xs ys=some r->(Op.equalIn 10000 t (.agg ax) (.agg ay)).run P w = .ok r w:=by
   intro r hr;rw[hk,Nat.add_sub_cancel] at hr;rw[show(10000:Nat)=9999+1 from rfl,run_equalIn_struct w 9999 t ax ay (by rw[hf]; exact hu) hs,hf];exact qBx w 9998 ax ay fs.toList 0 n xs ys r hn hr (by simpa using hx) (by simpa using hy)
  have guard:(eqGuard op t X Y (.agg ax) (.agg ay)).run P w = .ok () w:=run_eqGuard_agg w op t X Y ax ay hg;cases op <;> simp only at h <;> first|(cases h; done)|skip
  ·cases he:eqCells (kindOf P t - 8) xs ys with
   |none=>rw[he] at h; cases h
   |some r =>
    rw[he] at h;cases h;refine⟨.bool r,?_,.p _ _ (.bool r)⟩;simp only[Sem.run_bind,guard,Result.andThen_ok];rw[run_eql_struct,main r he]; rfl
  ·cases he:eqCells (kindOf P t - 8) xs ys with
   |none=>rw[he] at h; cases h
   |some r =>
    rw[he] at h;cases h;refine⟨.bool (!r),?_,.p _ _ (.bool _)⟩;simp only[Sem.run_bind,guard,Result.andThen_ok];rw[run_neq_struct,main r he]; rfl
 ·cases h
theorem qOn{ρ:Env}{I:Imm}{P:Program}{op:UnOp}{x c:Cell}{vx:Value}(hx:CRel ρ I x vx)(h:unV op x=some c)(w:World) :
  ∃ cv,(Op.unary op vx).run P w = .ok cv w/\CRel ρ I c cv:=by
 unfold unV at h;split at h
 ·cases hx with|p _ _ hp=>cases hp; cases h; exact⟨_,rfl,.p _ _ (.int _ _)⟩
 ·rename_i k n;cases hx with|p _ _ hp =>
  cases hp;cases hi:intBin .xor k (if k.signed=true then -1 else k.max) n with
  |none=>rw[hi] at h; cases h
  |some p=>rw[hi] at h; simp at h; subst h; simp[intBin] at hi; subst hi; exact⟨_,rfl,.p _ _ (.int _ _)⟩
 ·cases hx with|p _ _ hp=>cases hp; cases h; exact⟨_,rfl,.p _ _ (.bool _)⟩
 ·cases h
end Go.AI
namespace Go.AI
variable [Sym]
noncomputable def place(h1:Heap)(n g d:Nat)(obj:AObj)(push:Bool):Ref×Heap :=
 bif push then (.im n,{ h1 with ims:=h1.ims++[obj] }) else (.own d (g+1),{ h1 with owns:=h1.owns.set (g+1,obj) d })
theorem qBv{h1:Heap}{n g d:Nat}{obj:AObj}{push:Bool}(hn:n=h1.ims.length){r:Ref}{o:AObj}(hr:(place h1 n g d obj push).2.get r=some o) :
  (r=(place h1 n g d obj push).1/\o=obj)\/(r≠(place h1 n g d obj push).1/\h1.get r=some o):=by
 cases push
 ·rcases Heap.get_set_own h1 d (g+1) obj r o hr with ⟨a,b⟩|⟨a,b⟩
  ·exact .inl ⟨a,b⟩
  ·exact .inr ⟨a _,b⟩
 ·subst hn;exact Heap.get_push h1 obj r o hr
theorem qF7{h1:Heap}{n d:Nat}{obj:AObj}{push:Bool}{h:Heap}(hd:d+1<1048576)(hg:∀ e,h.gen e<=h1.gen e)(e:Nat):h.gen e<=(place h1 n (h.gen d) d obj push).2.gen e:=by
 cases push
 ·show h.gen e<=({ h1 with owns:=h1.owns.set (h.gen d+1,obj) d }:Heap).gen e;by_cases hde:d=e
  ·subst hde; rw[Heap.gen_own _ _ _ _ hd]; omega
  ·rw[Heap.gen_other _ _ _ _ _ hde]; exact hg e
 ·exact hg e
theorem qGB{h1:Heap}{n g d:Nat}{obj:AObj}{push:Bool}:h1.ims.length<=(place h1 n g d obj push).2.ims.length:=by
 cases push <;> simp[place]
theorem qGK{h1:Heap}{n g d:Nat}{obj:AObj}{push:Bool}(hd:d+1<1048576):∀ e g',(place h1 n g d obj push).1 = .own e g'->g'<=(place h1 n g d obj push).2.gen e:=by
 intro e g' he;cases push
 ·simp[place] at he;obtain⟨rfl,rfl⟩:=he;show g+1<=({ h1 with owns:=h1.owns.set (g+1,obj) d }:Heap).gen d;rw[Heap.gen_own _ _ _ _ hd]; omega
 ·simp[place] at he
theorem qGY{h1:Heap}{n g d:Nat}{obj:AObj}{push:Bool}(hn:n=h1.ims.length):∀ i,(place h1 n g d obj push).1 = .im i->i<(place h1 n g d obj push).2.ims.length:=by
 intro i he;cases push
 ·simp[place] at he
 ·simp[place] at he;subst he hn;simp[place]
theorem qFA{ρ:Env}{I:Imm}{h h1:Heap}{w:World}(H:WRel ρ I h w){n d:Nat}{obj:AObj}{push:Bool}(hn:n=h.ims.length):ρ (place h1 n (h.gen d) d obj push).1=none:=by
 cases push
 ·show ρ (.own d (h.gen d+1))=none;cases e:ρ (.own d (h.gen d+1)) with
  |none=>rfl
  |some l=>have:=H.fresh _ _ _ e; omega
 ·show ρ (.im n)=none;cases e:ρ (.im n) with
  |none=>rfl
  |some l=>have:=H.freshi _ _ e; omega
def upd(ρ:Env)(r:Ref)(l:Loc):Env:=λr'=>if r'=r then some l else ρ r'
theorem qB0(ρ:Env)(r:Ref)(l:Loc):upd ρ r l r=some l:=by simp[upd]
theorem qD6(ρ:Env)(r:Ref)(l:Loc)(r':Ref)(h:r'≠r):upd ρ r l r'=ρ r':=by simp[upd,h]
theorem qKz{ρ:Env}{r:Ref}{l:Loc}(h:ρ r=none):ρ.le (upd ρ r l):=λr' l' e=>by
 by_cases hr:r'=r
 ·subst hr; rw[h] at e; cases e
 ·rw[qD6 _ _ _ _ hr]; exact e
structure Less (h h1:Heap) (gone:Option Ref):Prop where
 get:∀ r o,h1.get r=some o->h.get r=some o/\gone≠some r
 gen:∀ d,h.gen d<=h1.gen d
 ims:h1.ims.length=h.ims.length
theorem Less.refl(h:Heap):Less h h none:=⟨λ_ _ e=>⟨e,by simp⟩,λ_=>Nat.le_refl _,rfl⟩
theorem Less.kill{h:Heap}{r:Ref}{x:AObj}(hr:h.get r=some x):Less h (h.put r .dead) (some r) where
 get r' o e:=by
  rcases Heap.get_put h r .dead r' o e with ⟨_,a⟩|⟨a,b⟩
  ·subst a; exact absurd rfl (Heap.get_ne_dead e)
  ·exact⟨b,λe'=>a (by cases e'; rfl)⟩
 gen d:=Heap.gen_put hr _ d
 ims:=Heap.ims_put _ _ _
theorem qCF{ρ:Env}{I:Imm}{h h1:Heap}{w w':World}{gone:Option Ref}(H:WRel ρ I h w)(hl:Less h h1 gone){d:Nat}(hd:d+1<1048576)(obj:AObj)(push:Bool)(l0:Loc)(hb:l0.blk=w.heap.size){I':Imm}
  (hw:∀ b,b≠w.heap.size->w'.heap[b]?=w.heap[b]?) (hsz:w.heap.size<=w'.heap.size) (hos:w'.os=w.os/\w'.tape=w.tape/\w'.output=w.output)
  (hI:I.le I') (hI2:∀ b k v,I'.cell b k=some v->b≠l0.blk->I.cell b k=some v)
  (hI3:∀ k v,I'.cell l0.blk k=some v->k<ownFrom l0 obj/\w'.cell? ⟨l0.blk,k,none⟩=some v) (hIm:I'.map=I.map)
  (hobj:∀ ρ',ρ.le ρ'->ObjRel ρ' I' w' l0 obj) :
  let p:=place h1 h.ims.length (h.gen d) d obj push
  ∃ ρ',ρ' p.1=some l0/\WRel ρ' I' p.2 w'/\Good ρ I h w ρ' I' p.2 w':=by
 intro p;have hfree:ρ p.1=none:=qFA H rfl;have hm0:I.map l0.blk=none:=by
  cases e:I.map l0.blk with
  |none=>rfl
  |some x =>
   have:=H.imap l0.blk x.1 x.2 (by rw[e]);rw[hb] at this;simp at this
 have hother:∀ r o l,r≠p.1->p.2.get r=some o->ρ r=some l->l.blk≠l0.blk:=by
  intro r o l hne hr hl' e
  rcases qBv hl.ims.symm hr with ⟨a,_⟩|⟨_,b⟩
  ·exact hne a
  ·have:=H.lt (hl.get r o b).1 hl';omega
 have hle:=qKz (l:=l0) hfree;refine⟨upd ρ p.1 l0,qB0 _ _ _,?_,?_⟩
 ·refine WRel.one H p.1 obj l0 (λb e=>hw b (by rw[<- hb]; exact e)) (qB0 _ _ _) (qD6 _ _ _) hle (λr o hr => ?_) hother hI hI2 hI3 hIm hm0 (hobj _ hle)
   (λe=>Nat.le_trans (Nat.le_refl _) (qF7 hd hl.gen e)) (by rw[<- hl.ims]; exact qGB) (qGK hd) (qGY hl.ims.symm)
  rcases qBv hl.ims.symm hr with a|⟨a,b⟩
  ·exact .inl a
  ·exact .inr ⟨a,(hl.get r o b).1⟩
 ·refine⟨hle,hI,⟨hos.1,hos.2.1,hos.2.2,hsz,λb hb' _=>hw b (by omega)⟩,λb ho => ?_,λb k v e => ?_,λb v e => .inl (by rw[hIm] at e; exact e)⟩;obtain⟨r,o,l,hr,hl',e⟩:=ho;by_cases hrp:r=p.1
  ·subst hrp; rw[qB0] at hl'; cases hl'; exact .inr (by omega)
  ·rw[qD6 _ _ _ _ hrp] at hl'
   rcases qBv hl.ims.symm hr with ⟨a,_⟩|⟨_,b'⟩
   ·exact absurd a hrp
   ·exact .inl ⟨r,o,l,(hl.get r o b').1,hl',e⟩
  by_cases hb':b=l0.blk
  ·exact .inr (.inr (by omega))
  ·exact .inl (hI2 b k v e hb')
theorem qFL{ρ:Env}{I:Imm}{h h1:Heap}{w w':World}(H:WRel ρ I h w){r:Ref}{x:AObj}{l:Loc}(hr:h.get r=some x)(hrl:ρ r=some l)(hl:Less h h1 (some r)){d:Nat}(hd:d+1<1048576)(obj:AObj)(push:Bool)(l0:Loc)(hb:l0.blk=l.blk){I':Imm}
  (hw:∀ b,b≠l.blk->w'.heap[b]?=w.heap[b]?) (hsz:w.heap.size<=w'.heap.size) (hos:w'.os=w.os/\w'.tape=w.tape/\w'.output=w.output)
  (hI:I.le I') (hI2:∀ b k v,I'.cell b k=some v->b≠l0.blk->I.cell b k=some v)
  (hI3:∀ k v,I'.cell l0.blk k=some v->k<ownFrom l0 obj/\w'.cell? ⟨l0.blk,k,none⟩=some v) (hIm:I'.map=I.map)
  (hobj:∀ ρ',ρ.le ρ'->ObjRel ρ' I' w' l0 obj) :
  let p:=place h1 h.ims.length (h.gen d) d obj push
  ∃ ρ',ρ' p.1=some l0/\WRel ρ' I' p.2 w'/\Good ρ I h w ρ' I' p.2 w':=by
 intro p;have hfree:ρ p.1=none:=qFA H rfl;have hother:∀ r' o l',r'≠p.1->p.2.get r'=some o->ρ r'=some l'->l'.blk≠l0.blk:=by
  intro r' o l' hne hr' hl' e
  rcases qBv hl.ims.symm hr' with ⟨a,_⟩|⟨_,b⟩
  ·exact hne a
  ·obtain⟨b1,b2⟩:=hl.get r' o b;exact H.inj r' r o x l' l b1 hr hl' hrl (λe'=>b2 (by rw[e'])) (by rw[e,hb])
 have hle:=qKz (l:=l0) hfree;refine⟨upd ρ p.1 l0,qB0 _ _ _,?_,?_⟩
 ·refine WRel.one H p.1 obj l0 (λb e=>hw b (by rw[<- hb]; exact e)) (qB0 _ _ _) (qD6 _ _ _) hle (λr o hr => ?_) hother hI hI2 hI3 hIm (by rw[hb]; exact H.apartm r x l hr hrl) (hobj _ hle)
   (λe=>qF7 hd hl.gen e) (by rw[<- hl.ims]; exact qGB) (qGK hd) (qGY hl.ims.symm)
  rcases qBv hl.ims.symm hr with a|⟨a,b⟩
  ·exact .inl a
  ·exact .inr ⟨a,(hl.get r o b).1⟩
 ·refine⟨hle,hI,⟨hos.1,hos.2.1,hos.2.2,hsz,λb _ hn=>hw b λe=>hn ⟨r,x,l,hr,hrl,e.symm⟩⟩,λb ho => ?_,λb k v e => ?_,λb v e => .inl (by rw[hIm] at e; exact e)⟩;obtain⟨r',o,l',hr',hl',e⟩:=ho;by_cases hrp:r'=p.1
  ·subst hrp; rw[qB0] at hl'; cases hl'; exact .inl ⟨r,x,l,hr,hrl,by omega⟩
  ·rw[qD6 _ _ _ _ hrp] at hl'
   rcases qBv hl.ims.symm hr' with ⟨a,_⟩|⟨_,b'⟩
   ·exact absurd a hrp
   ·exact .inl ⟨r',o,l',(hl.get r' o b').1,hl',e⟩
  by_cases hb':b=l0.blk
  ·exact .inr (.inl ⟨r,x,l,hr,hrl,by omega⟩)
  ·exact .inl (hI2 b k v e hb')
theorem qHZ{ρ:Env}{I:Imm}{h:Heap}{w w':World}(H:WRel ρ I h w){r:Ref}{x obj:AObj}{l:Loc}(hr:h.get r=some x)(hrl:ρ r=some l)
  (hw:∀ b,b≠l.blk->w'.heap[b]?=w.heap[b]?) (hsz:w.heap.size<=w'.heap.size) (hos:w'.os=w.os/\w'.tape=w.tape/\w'.output=w.output)
  (hI3:∀ k v,I.cell l.blk k=some v->k<ownFrom l obj/\w'.cell? ⟨l.blk,k,none⟩=some v)
  (hobj:ObjRel ρ I w' l obj):WRel ρ I (h.put r obj) w'/\Good ρ I h w ρ I (h.put r obj) w':=by
 have hget:∀ r' o,(h.put r obj).get r'=some o->(r'=r/\o=obj)\/(r'≠r/\h.get r'=some o):=λr' o=>Heap.get_put h r obj r' o
 constructor
 ·refine WRel.one H r obj l hw hrl (λ_ _=>rfl) (Env.le_refl _) hget (λr' o l' hne hr' hl' => ?_) (Imm.le_refl _) (λ_ _ _ e _=>e) hI3 rfl (H.apartm r x l hr hrl) hobj
   (λd=>Heap.gen_put hr _ d) (by rw[Heap.ims_put]; exact Nat.le_refl _) (λd g e => ?_) (λi e => ?_)
  ·rcases hget r' o hr' with ⟨a,_⟩|⟨_,b⟩
   ·exact absurd a hne
   ·exact H.inj r' r o x l' l b hr hl' hrl hne
  ·subst e; exact Nat.le_trans (H.fresh d g l hrl) (Heap.gen_put hr _ d)
  ·subst e; rw[Heap.ims_put]; exact H.freshi i l hrl
 ·refine⟨Env.le_refl _,Imm.le_refl _,⟨hos.1,hos.2.1,hos.2.2,hsz,λb _ hn=>hw b λe=>hn ⟨r,x,l,hr,hrl,e.symm⟩⟩,λb ho => ?_,λ_ _ _ e => .inl e,λ_ _ e => .inl e⟩;obtain⟨r',o,l',hr',hl',e⟩:=ho
  rcases hget r' o hr' with ⟨rfl,_⟩|⟨_,b'⟩
  ·exact .inl ⟨r',x,l',hr,hl',e⟩
  ·exact .inl ⟨r',o,l',b',hl',e⟩
def CellsAt(ρ:Env)(I:Imm)(w:World)(b o:Nat)(cs:List Cell):Prop:=∀ (k:Nat) c,cs[k]?=some c->∃ v,w.cell? ⟨b,o+k,none⟩=some v/\CRel ρ I c v
theorem CellsAt.drop{ρ:Env}{I:Imm}{w:World}{b o:Nat}{cs:List Cell}(h:CellsAt ρ I w b o cs)(n:Nat):CellsAt ρ I w b (o+n) (cs.drop n):=λk c hk=>by
 rw[List.getElem?_drop] at hk;obtain⟨v,a,b'⟩:=h _ c hk;exact⟨v,by rw[Nat.add_assoc]; exact a,b'⟩
theorem CellsAt.take{ρ:Env}{I:Imm}{w:World}{b o:Nat}{cs:List Cell}(h:CellsAt ρ I w b o cs)(n:Nat):CellsAt ρ I w b o (cs.take n):=λk c hk=>by
 rw[List.getElem?_take] at hk;split at hk
 ·exact h k c hk
 ·cases hk
theorem ObjRel.cellsAt{ρ:Env}{I:Imm}{w:World}{l:Loc}{cs:List Cell}{imm:Nat}(h:ObjRel ρ I w l (.cells cs imm)):CellsAt ρ I w l.blk l.base cs:=by
 obtain⟨arr,elem,lo,hi,h1,h2,h3,h4,h5⟩:=h;intro k c hk;obtain⟨v,a,b⟩:=h4 k c hk;exact⟨v,by simp[World.cell?,h1,a],b⟩
theorem CellsAt.vals{ρ:Env}{I:Imm}{w:World}{b:Nat}:∀ {o:Nat}{cs:List Cell},CellsAt ρ I w b o cs->∃ vs:List Value,All2 (CRel ρ I) cs vs/\∀ (j:Nat) v,vs[j]?=some v->w.cell? ⟨b,o+j,none⟩=some v:=by
 intro o cs
 induction cs generalizing o with
 |nil=>exact λ_=>⟨[],trivial,λj v e=>by simp at e⟩
 |cons c cs ih =>
  intro h;obtain⟨v,a,hv⟩:=h 0 c rfl
  obtain⟨vs,h1,h2⟩:=ih (o:=o+1) (λk c' hk=>by
   obtain⟨v',a',b'⟩:=h (k+1) c' (by simpa using hk)
   exact⟨v',by rw[show o+1+k=o+(k+1) by omega]; exact a',b'⟩)
  refine⟨v::vs,⟨hv,h1⟩,λj u e => ?_⟩;cases j with
  |zero=>simp at e; subst e; exact a
  |succ j=>rw[show o+(j+1)=o+1+j by omega]; exact h2 j u (by simpa using e)
theorem qAz(b o k:Nat):(⟨b,o,none⟩:Addr).add k=⟨b,o+k,none⟩:=by
 unfold Addr.add; split
 ·subst_vars; rfl
 ·rfl
theorem qCJ{P:Program}{w:World}{b o:Nat}(vs:List Value)(h:∀ (j:Nat) v,vs[j]?=some v->w.cell? ⟨b,o+j,none⟩=some v) :
  (loadCells ⟨b,o,none⟩ vs.length).run P w = .ok vs.toArray w :=
 run_loadCells_list w ⟨b,o,none⟩ vs (λj v e=>by rw[qAz]; exact h j v e)
theorem qCs{P:Program}{t:TypeId}{g:Bool}(h:aggT P t=some g)(w:World):(isAgg t).run P w = .ok g w:=by
 unfold aggT at h;cases hu:P.underlying t with
 |none=>rw[hu] at h; cases h
 |some d =>
  rw[hu] at h; simp at h; subst h;simp[isAgg,run_underlying hu];cases d <;> rfl
theorem qAY{P:Program}{t:TypeId}{n:Nat}(h:szOf P t=some n)(w:World):(sizeOf t).run P w = .ok n w:=by
 unfold szOf at h;cases hi:P.info? t with
 |none=>rw[hi] at h; cases h
 |some i=>rw[hi] at h; simp at h; subst h; simp[sizeOf,typeInfo,hi]
theorem qEW{ρ:Env}{I:Imm}{P:Program}{w:World}{b o:Nat}{cs:List Cell}(h:CellsAt ρ I w b o cs){t:TypeId}{agg:Bool}{n off:Nat}(ha:aggT P t=some agg)(hn:szOf P t=some n){v:TVal}
  (hp:partOf agg n cs off=some v):∃ cv,(loadVar t ⟨b,o+off,none⟩).run P w = .ok cv w/\TRel ρ I v cv:=by
 unfold partOf at hp;cases agg
 ·simp only[Bool.false_eq_true,if_false] at hp;split at hp
  ·rename_i x hx;cases hp;obtain⟨u,h1,h2⟩:=h off x hx;exact⟨u,by simp[loadVar,qCs ha,h1],h2⟩
  ·cases hp
 ·simp only[if_true] at hp;split at hp
  ·rename_i hl;cases hp;obtain⟨vs,h1,h2⟩:=((h.drop off).take n).vals;have hlen:vs.length=n:=by rw[<- h1.length,hl]
   have hr:=qCJ (P:=P) vs h2;rw[hlen] at hr;exact⟨.agg vs.toArray,by simp[loadVar,qCs ha,qAY hn,hr],vs.toArray,rfl,by simpa using h1⟩
  ·cases hp
end Go.AI
namespace Go.AI
variable [Sym]
structure Stored (w:World) (b o:Nat) (vs:List Value) (w':World):Prop where
 other:∀ b',b'≠b->w'.heap[b']?=w.heap[b']?
 size:w'.heap.size=w.heap.size
 rest:w'.os=w.os/\w'.tape=w.tape/\w'.output=w.output
 row:∀ arr elem fz,w.heap[b]?=some (.cells arr elem fz)->∃ arr':Array Value,w'.heap[b]?=some (.cells arr' elem fz)/\arr'.size=arr.size /\
  ∀ k,arr'[k]?=if o<=k/\k<o+vs.length then vs[k - o]? else arr[k]?
theorem qOS(v:Value):v.oneCell'=oneC v:=by cases v <;> rfl
theorem qJv{P:Program}{w:World}{b o:Nat}{v u:Value}(hv:oneC v=true)(hc:w.cell? ⟨b,o,none⟩=some u)(hf:w.frozen? ⟨b,o,none⟩=false) :
  (store ⟨b,o,none⟩ v).run P w = .ok () (w.setCell ⟨b,o,none⟩ v):=by
 rw[run_store P w ⟨b,o,none⟩ v .plain (by rw[qOS]; exact hv),hc];simp[hf]
theorem qB8{P:Program}{b o:Nat}:∀ (vs:List Value) (i:Nat) (w:World) (arr:Array Value) (elem:TypeId) (lo hi:Nat),
  w.heap[b]?=some (.cells arr elem (lo,hi))->o+i+vs.length<=arr.size->(∀ v∈vs,oneC v=true)->(∀ k,o+i<=k->k<o+i+vs.length->¬ (lo<=k/\k<hi)) ->
  ∃ w',(storeCells ⟨b,o,none⟩ vs i).run P w = .ok () w'/\Stored w b (o+i) vs w':=by
 intro vs
 induction vs with
 |nil =>
  intro i w arr elem lo hi hg hs h1 hf;exact⟨w,by simp[storeCells],λ_ _=>rfl,rfl,⟨rfl,rfl,rfl⟩,λarr' elem' fz' e=>⟨arr',e,rfl,λk=>by rw[if_neg (by simp only[List.length_nil]; omega)]⟩⟩
 |cons v vs ih =>
  intro i w arr elem lo hi hg hs h1 hf;simp only[List.length_cons] at hs hf;have hin:o+i<arr.size:=by omega
  have hc:w.cell? ⟨b,o+i,none⟩=some arr[o+i]:=by simp[World.cell?,hg,hin]
  have hfz:w.frozen? ⟨b,o+i,none⟩=false:=by
   have:=hf (o+i) (by omega) (by omega);simp only[World.frozen?,hg];simp only[Bool.and_eq_false_iff,decide_eq_false_iff_not];omega
  have hst:=qJv (P:=P) (h1 v (by simp)) hc hfz;have hg':(w.setCell ⟨b,o+i,none⟩ v).heap[b]?=some (.cells (arr.setIfInBounds (o+i) v) elem (lo,hi)):=by
   simp[World.setCell,Array.getElem?_modify,hg]
  obtain⟨w',hr,hS⟩:=ih (i+1) _ _ elem lo hi hg' (by simp; omega) (λu hu=>h1 u (by simp[hu])) (λk a b'=>hf k (by omega) (by omega));refine⟨w',?_,?_⟩
  ·simp only[storeCells,qAz,Sem.run_bind,hst,Result.andThen_ok];exact hr
  ·refine⟨λb' hb' => ?_,?_,?_,λarr0 elem0 fz0 e => ?_⟩
   ·rw[hS.other b' hb'];simp only[World.setCell,Array.getElem?_modify];rw[if_neg (by omega)]
   ·rw[hS.size]; simp[World.setCell]
   ·exact⟨hS.rest.1,hS.rest.2.1,hS.rest.2.2⟩
   ·rw[hg] at e;cases e;obtain⟨arr',a1,a2,a3⟩:=hS.row _ _ _ hg';refine⟨arr',a1,by rw[a2]; simp,λk => ?_⟩;rw[a3 k];simp only[List.length_cons];by_cases hk:k=o+i
    ·subst hk;rw[if_neg (by omega),if_pos (by omega)];simp[hin]
    ·by_cases hk2:o+(i+1)<=k/\k<o+(i+1)+vs.length
     ·rw[if_pos hk2,if_pos (by omega)];rw[show k - (o+i)=(k - (o+(i+1)))+1 by omega];simp
     ·rw[if_neg hk2,if_neg (by omega)];rw[Array.getElem?_setIfInBounds_ne (by omega)]
theorem qFM(cs vs:List Cell)(off:Nat)(h:off+vs.length<=cs.length)(k:Nat) :
  (splice cs off vs)[k]?=if off<=k/\k<off+vs.length then vs[k - off]? else cs[k]?:=by
 unfold splice;by_cases h1:k<off
 ·rw[if_neg (by omega),List.append_assoc,List.getElem?_append_left (by simp; omega),List.getElem?_take_of_lt h1]
 ·by_cases h2:k<off+vs.length
  ·rw[if_pos (by omega),List.append_assoc,List.getElem?_append_right (by simp; omega),List.getElem?_append_left (by simp; omega)]
   congr 1; simp; omega
  ·rw[if_neg (by omega),List.getElem?_append_right (by simp; omega),List.getElem?_drop]
   congr 1; simp; omega
theorem qCK(cs vs:List Cell)(off:Nat)(h:off+vs.length<=cs.length):(splice cs off vs).length=cs.length:=by
 unfold splice; simp; omega
theorem All2.oneC{ρ:Env}{I:Imm}{cs:List Cell}{vs:List Value}(h:All2 (CRel ρ I) cs vs):∀ v∈vs,oneC v=true:=by
 intro v hv;obtain⟨i,hi,e⟩:=List.getElem_of_mem hv;have hl:=h.length;have:cs[i]?=some cs[i]:=List.getElem?_eq_getElem (by omega);obtain⟨b,h1,h2⟩:=h.get i _ this;rw[List.getElem?_eq_getElem hi] at h1;cases h1;rw[e] at h2;exact h2.one
theorem qEa{P:Program}{ρ:Env}{I:Imm}{h:Heap}{w:World}(H:WRel ρ I h w){r:Ref}{cs:List Cell}{imm:Nat}{l:Loc}(hr:h.get r=some (.cells cs imm))(hrl:ρ r=some l)
  (off:Nat) (news:List Cell) (vs:List Value) (hv:All2 (CRel ρ I) news vs) (himm:imm<=off) (hfit:off+news.length<=cs.length) :
  ∃ w',(storeCells ⟨l.blk,l.base+off,none⟩ vs).run P w = .ok () w'/\WRel ρ I (h.put r (.cells (splice cs off news) imm)) w'/\Good ρ I h w ρ I (h.put r (.cells (splice cs off news) imm)) w':=by
 obtain⟨l',e,ho⟩:=H.live r _ hr;rw[hrl] at e; cases e;obtain⟨arr,elem,lo,hi,h1,h2,h3,h4,h5⟩:=ho;have hlen:=hv.length;obtain⟨w',hrun,hS⟩:=qB8 (P:=P) (b:=l.blk) (o:=l.base+off) vs 0 w arr elem lo hi h1 (by omega) hv.oneC (λk a b=>h5 k (by omega) (by omega));obtain⟨arr',a1,a2,a3⟩:=hS.row _ _ _ h1;refine⟨w',hrun,qHZ H hr hrl hS.other (by rw[hS.size]; exact Nat.le_refl _) hS.rest (λk v hk => ?_) ?_⟩
 ·have hap:=H.apart r _ l hr hrl l.blk k v hk rfl;refine⟨hap,?_⟩;have hc:=H.icell _ _ _ hk;simp only[World.cell?,h1,a1,Option.isSome_none,Bool.false_eq_true,if_false] at hc ⊢;rw[a3 k,if_neg (by simp only[ownFrom] at hap; omega)];exact hc
 ·refine⟨arr',elem,lo,hi,a1,by omega,by rw[qCK _ _ _ hfit]; exact h3,λk c hk => ?_,h5⟩;rw[qFM _ _ _ hfit] at hk;rw[a3];by_cases hin:off<=k/\k<off+news.length
  ·rw[if_pos hin] at hk;rw[if_pos (by omega)];obtain⟨v,b1,b2⟩:=hv.get _ _ hk;exact⟨v,by rw[show l.base+k - (l.base+off+0)=k - off by omega]; exact b1,b2⟩
  ·rw[if_neg hin] at hk;rw[if_neg (by omega)];exact h4 k c hk
end Go.AI
namespace Go.AI
variable [Sym]
section
variable {P:Program} {G:Nat->Option (List PVal)} {ρ:Env} {I:Imm} {h:Heap} {w:World} {tm:TM TVal} {a:Act}
structure Here (P:Program) (G:Nat->Option (List PVal)) (ρ:Env) (I:Imm) (h:Heap) (w:World) (tm:TM TVal) (a:Act):Prop where
 tab:GRel G I
 heap:WRel ρ I h w
 tm:∀ t v,tm.get t=some v->TRel ρ I v (a.tmps.getD t undef)
theorem Here.ev(C:Here P G ρ I h w tm a){x:Operand}{x':X}(hx:compX G x=some x'){v:TVal}(hv:x'.ev tm=some v):TRel ρ I v (a.eval x):=qP6 C.tab C.tm hx hv
noncomputable def Plan.doGo(p:Plan)(d:Nat)(h:Heap):Option (TVal×Heap×Touch):=match p with | .go needs k=>goOp needs k d h | .call _ _=>none
theorem qAD{v v':TVal}{d:Nat}{h':Heap}{t:Touch}{o:Oper}(C:Here P G ρ I h w tm a)(hg:(Plan.pure v).doGo d h=some (v',h',t)){cv:Value}
  (hr:(execOp a.eval o).run P w = .ok (.value cv) w) (hv:TRel ρ I v cv):ValOK ρ I h w ((execOp a.eval o).run P w) v' h':=by
 obtain⟨rfl,rfl⟩:=qDk hg;exact ValOK.pure C.heap hr hv
theorem qAi{α:Type}{x:Option α}{f:α->TVal}{p:Plan}(hp:x.map (λy=>Plan.pure (f y))=some p):∃ y,x=some y/\p = .pure (f y):=by
 cases x with
 |none=>cases hp
 |some y=>simp at hp; exact⟨y,rfl,hp.symm⟩
theorem qA8{x:Option TVal}{p:Plan}(hp:x.map Plan.pure=some p):∃ y,x=some y/\p = .pure y:=by
 cases x with
 |none=>cases hp
 |some y=>simp at hp; exact⟨y,rfl,hp.symm⟩
theorem qCE{r:Ref}{k:AObj->Option TVal}{d:Nat}{v:TVal}{h':Heap}{t:Touch}(hg:(Plan.read r k).doGo d h=some (v,h',t)):h'=h/\∃ o,h.get r=some o/\k o=some v:=by
 unfold Plan.doGo Plan.read goOp at hg;simp only[List.mapM_cons,List.mapM_nil] at hg;cases hr:h.get r with
 |none=>rw[hr] at hg; simp at hg
 |some o =>
  rw[hr] at hg;simp at hg;cases hk:k o with
  |none=>rw[hk] at hg; simp at hg
  |some v'=>rw[hk] at hg; simp at hg; exact⟨hg.2.1.symm,o,rfl,by rw[hk,hg.1]⟩
theorem qDZ{r:Ref}{k:AObj->Option (TVal×AObj)}{d:Nat}{v:TVal}{h':Heap}{t:Touch}(hg:(Plan.write r k).doGo d h=some (v,h',t)) :
  ∃ o o',h.get r=some o/\k o=some (v,o')/\h'=h.put r o':=by
 unfold Plan.doGo Plan.write goOp at hg;simp only[List.mapM_cons,List.mapM_nil] at hg;cases hr:h.get r with
 |none=>rw[hr] at hg; simp at hg
 |some o =>
  rw[hr] at hg;simp at hg;cases hk:k o with
  |none=>rw[hk] at hg; simp at hg
  |some p =>
   rw[hk] at hg; simp at hg;obtain⟨p1,p2⟩:=p;simp at hg;exact⟨o,p2,rfl,by rw[hk,hg.1],hg.2.1.symm⟩
theorem qBg{obj:AObj}{push:Bool}{mk:Ref->TVal}{d:Nat}{v:TVal}{h':Heap}{t:Touch}(hg:(Plan.mk1 obj push mk).doGo d h=some (v,h',t)) :
  v=mk (place h h.ims.length (h.gen d) d obj push).1/\h'=(place h h.ims.length (h.gen d) d obj push).2:=by
 unfold Plan.doGo Plan.mk1 goOp at hg;simp only[List.mapM_nil] at hg;cases push <;> simp[place] at hg ⊢ <;> exact⟨hg.1.symm,hg.2.1.symm⟩
theorem qCR{d:Nat}(hd:d+1<1048576)(H:WRel ρ I h w){cs:List Cell}{push:Bool}{arr:Array Value}{elem:TypeId}{w':World}(hw:w'.heap=w.heap.push (.cells arr elem (0,0)))
  (hos:w'.os=w.os/\w'.tape=w.tape/\w'.output=w.output) (hlen:cs.length<=arr.size) (hcs:∀ (k:Nat) c,cs[k]?=some c->∃ v,arr[k]?=some v/\CRel ρ I c v) :
  let p:=place h h.ims.length (h.gen d) d (.cells cs 0) push
  ∃ ρ',ρ' p.1=some ⟨w.heap.size,0,arr.size⟩/\WRel ρ' I p.2 w'/\Good ρ I h w ρ' I p.2 w':=by
 refine qCF H (Less.refl h) hd (.cells cs 0) push ⟨w.heap.size,0,arr.size⟩ rfl (λb hb => ?_) (by rw[hw]; simp) hos (Imm.le_refl _) (λ_ _ _ e _=>e) (λk v e => ?_) rfl (λρ' hle => ?_)
 ·rw[hw,Array.getElem?_push,if_neg hb]
 ·exact absurd (qBu (H.icell _ _ _ e)) (by simp)
 ·refine⟨arr,elem,0,0,by rw[hw]; simp,rfl,by simpa using hlen,λk c hk => ?_,λo _ _=>by omega⟩;obtain⟨v,a1,a2⟩:=hcs k c hk;exact⟨v,by simpa using a1,a2.mono hle (Imm.le_refl _)⟩
theorem qA0{ρ:Env}{I:Imm}{cs:List Cell}{arr:Array Value}(hc:All2 (CRel ρ I) cs arr.toList):cs.length<=arr.size/\∀ (k:Nat) c,cs[k]?=some c->∃ v,arr[k]?=some v/\CRel ρ I c v :=
 ⟨by have:=hc.length; simp at this; omega,λk c hk=>let ⟨v,a1,a2⟩:=hc.get k c hk; ⟨v,by simpa using a1,a2⟩⟩
theorem zeroT_info{t:TypeId}{z:Comp}(hz:zeroT P t=some z):∃ i zv,P.info? t=some i/\i.zero=some zv/\constC zv=some z:=by
 unfold zeroT at hz;simp only[Option.bind_eq_some_iff] at hz;obtain⟨zv,⟨i,h1,h2⟩,h3⟩:=hz;exact⟨i,zv,h1,h2,h3⟩
theorem qA7{t:TypeId}{i:TypeInfo}{zv:Value}(h1:P.info? t=some i)(h2:i.zero=some zv)(w:World):(zeroValue t).run P w = .ok zv w:=by
 simp[zeroValue,typeInfo,h1,h2]
variable {heap:Nat->Bool} {d:Nat} {v:TVal} {h':Heap} {t:Touch} {o:Oper}
theorem qHe{x:Operand}(C:Here P G ρ I h w tm a)(ho:o.op = .move x\/o.op = .assign x){x':X}(hx:compX G x=some x'){p:Plan}(hp:plan tm (.mv x')=some p)(hg:p.doGo d h=some (v,h',t)) :
  ValOK ρ I h w ((execOp a.eval o).run P w) v h':=by
 obtain⟨y,hy,rfl⟩:=qA8 hp;exact qAD C hg (cv:=a.eval x) (by rcases ho with ho|ho <;> (unfold execOp; rw[ho]; rfl)) (C.ev hx hy)
theorem qA9{b:Bool}{v:Value}(h:TRel ρ I (.v (.c (.p (.bool b)))) v):v = .bool b:=by
 cases (show CRel ρ I (.p (.bool b)) v from h) with|p _ _ hp=>cases hp; rfl
theorem qB2{k:IntKind}{n:Int}{v:Value}(h:TRel ρ I (.v (.c (.p (.int k n)))) v):v = .int k n:=by
 cases (show CRel ρ I (.p (.int k n)) v from h) with|p _ _ hp=>cases hp; rfl
theorem qMw{c x y:Operand}(C:Here P G ρ I h w tm a)(ho:o.op = .pick c x y){c' x' y':X}(hc:compX G c=some c')(hx:compX G x=some x')(hy:compX G y=some y'){p:Plan}
  (hp:plan tm (.pick c' x' y')=some p) (hg:p.doGo d h=some (v,h',t)):ValOK ρ I h w ((execOp a.eval o).run P w) v h':=by
 simp only[plan] at hp;split at hp
 ·rename_i hcv;obtain⟨u,hu,rfl⟩:=qA8 hp;have:=qA9 (C.ev hc hcv);exact qAD C hg (cv:=a.eval x) (by unfold execOp; rw[ho]; simp[this,asBool]) (C.ev hx hu)
 ·rename_i hcv;obtain⟨u,hu,rfl⟩:=qA8 hp;have:=qA9 (C.ev hc hcv);exact qAD C hg (cv:=a.eval y) (by unfold execOp; rw[ho]; simp[this,asBool]) (C.ev hy hu)
 ·cases hp
theorem qLx{ty:TypeId}{push:Bool}(C:Here P G ρ I h w tm a)(hd:d+1<1048576)(ho:o.op = .alloc ty){z:Comp}(hz:zeroT P ty=some z){p:Plan}(hp:plan tm (.alloc z.cells push)=some p)
  (hg:p.doGo d h=some (v,h',t)):ValOK ρ I h w ((execOp a.eval o).run P w) v h':=by
 simp only[plan,Option.some.injEq] at hp;subst hp;obtain⟨rfl,rfl⟩:=qBg hg;obtain⟨i,zv,h1,h2,h3⟩:=zeroT_info hz;have hrel:CompRel ρ I z zv:=qA1 h3;have hr:(execOp a.eval o).run P w = .ok (.value (.pointer (some ⟨w.heap.size,0,none⟩))) (w.alloc (.cells zv.cells ty)):=by
  unfold execOp; rw[ho]; simp[Instr.alloc,qA7 h1 h2,newVar,newRow]
 obtain⟨ρ',e1,e2,e3⟩:=qCR (push:=push) hd C.heap (w':=w.alloc (.cells zv.cells ty)) rfl ⟨rfl,rfl,rfl⟩ (qA0 hrel.cells).1 (qA0 hrel.cells).2;exact⟨_,ρ',I,.inl ⟨_,hr,CRel.ptr _ 0 _ e1⟩,e2,e3⟩
theorem qPK{ty:TypeId}{x:Operand}{push:Bool}(C:Here P G ρ I h w tm a)(hd:d+1<1048576)(ho:o.op = .box ty x){x':X}(hx:compX G x=some x'){p:Plan}(hp:plan tm (.box x' push)=some p)
  (hg:p.doGo d h=some (v,h',t)):ValOK ρ I h w ((execOp a.eval o).run P w) v h':=by
 simp only[plan] at hp;split at hp
 ·rename_i u hu;simp only[Option.some.injEq] at hp;subst hp;obtain⟨rfl,rfl⟩:=qBg hg;have hrel:CompRel ρ I u (a.eval x):=C.ev hx hu;have hr:(execOp a.eval o).run P w = .ok (.value (.pointer (some ⟨w.heap.size,0,none⟩))) (w.alloc (.cells (a.eval x).cells ty)):=by
   unfold execOp; rw[ho]; simp[Instr.box,newVar,newRow]
  obtain⟨ρ',e1,e2,e3⟩:=qCR (push:=push) hd C.heap (w':=w.alloc (.cells (a.eval x).cells ty)) rfl ⟨rfl,rfl,rfl⟩ (qA0 hrel.cells).1 (qA0 hrel.cells).2;exact⟨_,ρ',I,.inl ⟨_,hr,CRel.ptr _ 0 _ e1⟩,e2,e3⟩
 ·cases hp
theorem qJ7{row:List PVal}{off:Nat}{v:Value}(hx:TRel ρ I (.v (.c (.p (.pptr row off)))) v)(H:WRel ρ I h w):∃ b o,v = .pointer (some ⟨b,o+off,none⟩)/\CellsAt ρ I w b o (pcells row):=by
 cases (show CRel ρ I (.p (.pptr row off)) v from hx) with|p _ _ hp =>
 cases hp with|pptr _ _ b o cv hI hv =>
 refine⟨b,o,rfl,λk c hk => ?_⟩;unfold pcells at hk;rw[List.getElem?_map] at hk;cases hr:row[k]? with
 |none=>rw[hr] at hk; cases hk
 |some u=>rw[hr] at hk; simp at hk; subst hk; exact⟨cv k,H.icell _ _ _ (hI k u hr),.p _ _ (hv k u hr)⟩
theorem qB3{r:Ref}{off:Nat}{v:Value}(h:TRel ρ I (.v (.c (.ptr r off))) v):∃ l,ρ r=some l/\v = .pointer (some ⟨l.blk,l.base+off,none⟩):=by
 cases (show CRel ρ I (.ptr r off) v from h) with|ptr _ _ l e=>exact⟨l,e,rfl⟩
theorem qMA{ty:TypeId}{x:Operand}(C:Here P G ρ I h w tm a)(ho:o.op = .load ty x){x':X}(hx:compX G x=some x'){agg:Bool}{n:Nat}(ha:aggT P ty=some agg)(hn:szOf P ty=some n){p:Plan}
  (hp:plan tm (.load agg n x')=some p) (hg:p.doGo d h=some (v,h',t)):ValOK ρ I h w ((execOp a.eval o).run P w) v h':=by
 simp only[plan] at hp;split at hp
 ·rename_i r off hu;simp only[Option.some.injEq] at hp;subst hp;obtain⟨rfl,ob,h1,h2⟩:=qCE hg;obtain⟨l,hl,hv⟩:=qB3 (C.ev hx hu);split at h2
  ·rename_i cs imm;obtain⟨l',e,hob⟩:=C.heap.live r _ h1;rw[hl] at e; cases e;obtain⟨cv,hr,hrel⟩:=qEW (P:=P) hob.cellsAt ha hn h2;exact ValOK.pure C.heap (cv:=cv) (by unfold execOp; rw[ho]; simp[Instr.loadAt,hv,Instr.sureAddr,hr]) hrel
  ·cases h2
 ·rename_i row off hu;obtain⟨u,hu',rfl⟩:=qA8 hp;obtain⟨b,ob,hv,hc⟩:=qJ7 (C.ev hx hu) C.heap;obtain⟨cv,hr,hrel⟩:=qEW (P:=P) hc ha hn hu';exact qAD C hg (cv:=cv) (by unfold execOp; rw[ho]; simp[Instr.loadAt,hv,Instr.sureAddr,hr]) hrel
 ·cases hp
theorem qLK{ty:TypeId}{x y:Operand}(C:Here P G ρ I h w tm a)(ho:o.op = .store ty x y){x' y':X}(hx:compX G x=some x')(hy:compX G y=some y'){n:Nat}(hn:szOf P ty=some n){p:Plan}
  (hp:plan tm (.store n x' y')=some p) (hg:p.doGo d h=some (v,h',t)):ValOK ρ I h w ((execOp a.eval o).run P w) v h':=by
 simp only[plan] at hp;split at hp
 ·rename_i r off u hu hu2;simp only[Option.some.injEq] at hp;subst hp;obtain⟨ob,ob',h1,h2,rfl⟩:=qDZ hg;obtain⟨l,hl,hv⟩:=qB3 (C.ev hx hu);have hrel:CompRel ρ I u (a.eval y):=C.ev hy hu2;split at h2
  ·rename_i cs imm;split at h2
   ·rename_i hcond;simp only[Option.some.injEq,Prod.mk.injEq] at h2;obtain⟨rfl,rfl⟩:=h2;obtain⟨w',hr,hW,hGd⟩:=qEa (P:=P) C.heap h1 hl off u.cells (a.eval y).cells.toList hrel.cells hcond.1 (by rw[hcond.2.1]; exact hcond.2.2);have hsz:(a.eval y).cells.size=n:=by have:=hrel.cells.length; simp at this; omega
    refine⟨w',ρ,I,.inr ⟨?_,rfl⟩,hW,hGd⟩;unfold execOp; rw[ho];simp[Instr.storeAt,hv,Instr.sureAddr,storeVar,qAY hn,hsz,hr]
   ·cases h2
  ·cases h2
 ·cases hp
end
end Go.AI
namespace Go.AI
variable [Sym]
section
variable {P:Program} {G:Nat->Option (List PVal)} {ρ:Env} {I:Imm} {h:Heap} {w:World} {tm:TM TVal} {a:Act}
variable {heap:Nat->Bool} {d:Nat} {v:TVal} {h':Heap} {t:Touch} {o:Oper}
theorem qAC{c:Cell}{x:Value}(hx:TRel ρ I (.v (.c c)) x):CRel ρ I c x:=hx
theorem qKO{x:Operand}(C:Here P G ρ I h w tm a)(ho:o.op = .nilCheck x){x':X}(hx:compX G x=some x'){p:Plan}(hp:plan tm (.nilck x')=some p)(hg:p.doGo d h=some (v,h',t)) :
  ValOK ρ I h w ((execOp a.eval o).run P w) v h':=by
 simp only[plan] at hp;split at hp
 ·cases hp
 ·cases hp
 ·cases hp
 ·cases hp
 ·rename_i u hn1 hn2 hn3 hn4 hu;simp only[Option.some.injEq] at hp;subst hp;have hrel:=C.ev hx hu;refine qAD C hg (cv:=a.eval x) ?_ hrel;unfold execOp; rw[ho];dsimp only;cases u with
  |tup vs=>obtain⟨arr,e,_⟩:=hrel; simp[e]
  |v y =>
   cases y with
   |agg cs=>obtain⟨arr,e,_⟩:=hrel; simp[e]
   |c y =>
    generalize a.eval x=xv at hrel ⊢;cases (show CRel ρ I y xv from hrel) with
    |p pv _ hpv =>
     cases hpv with
     |nilptr=>exact absurd rfl hn1
     |niliface=>exact absurd rfl hn2
     |nilfunc=>exact absurd rfl hn3
     |_=>rfl
    |junk _ _=>exact absurd rfl hn4
    |_=>rfl
 ·cases hp
theorem qOa{op:BinOp}{ty uy:TypeId}{x y:Operand}(C:Here P G ρ I h w tm a)(ho:o.op = .binOp op ty x y uy){x' y':X}(hx:compX G x=some x')(hy:compX G y=some y'){p:Plan}
  (hp:plan tm (.bin op (kindOf P ty) x' y')=some p) (hg:p.doGo d h=some (v,h',t)):ValOK ρ I h w ((execOp a.eval o).run P w) v h':=by
 simp only[plan] at hp;split at hp
 ·rename_i c1 c2 h1 h2;obtain⟨c,hc,rfl⟩:=qAi (f:=λc => .v (.c c)) hp;obtain⟨cv,hr,hrel⟩:=qMp (qAC (C.ev hx h1)) (qAC (C.ev hy h2)) hc w x y;refine qAD C hg (cv:=cv) ?_ hrel;unfold execOp; rw[ho];show(Sem.bind _ _).run P w=_;rw[Sem.run_bind',hr]; rfl
 ·rename_i c1 c2 h1 h2;obtain⟨c,hc,rfl⟩:=qAi (f:=λc => .v (.c c)) hp;obtain⟨cv,hr,hrel⟩:=qI9 (C.ev hx h1) (C.ev hy h2) hc w x y;refine qAD C hg (cv:=cv) ?_ hrel;unfold execOp; rw[ho];show(Sem.bind _ _).run P w=_;rw[Sem.run_bind',hr]; rfl
 ·cases hp
theorem qPl{op:UnOp}{ty:TypeId}{x:Operand}(C:Here P G ρ I h w tm a)(ho:o.op = .unOp op ty x){x':X}(hx:compX G x=some x'){p:Plan}
  (hp:plan tm (.un op x')=some p) (hg:p.doGo d h=some (v,h',t)):ValOK ρ I h w ((execOp a.eval o).run P w) v h':=by
 simp only[plan] at hp;split at hp
 ·rename_i c1 h1;obtain⟨c,hc,rfl⟩:=qAi (f:=λc => .v (.c c)) hp;obtain⟨cv,hr,hrel⟩:=qOn (P:=P) (qAC (C.ev hx h1)) hc w;refine qAD C hg (cv:=cv) ?_ hrel;unfold execOp; rw[ho];show(Sem.bind _ _).run P w=_;rw[Sem.run_bind',hr]; rfl
 ·cases hp
theorem qLX{src dst:TypeId}{x:Operand}(C:Here P G ρ I h w tm a)(ho:o.op = .convert src dst x){k1 k:IntKind}(hs:P.underlying src=some (.int k1))(hd:P.underlying dst=some (.int k)){x':X}(hx:compX G x=some x'){p:Plan}
  (hp:plan tm (.toInt k x')=some p) (hg:p.doGo d h=some (v,h',t)):ValOK ρ I h w ((execOp a.eval o).run P w) v h':=by
 simp only[plan] at hp;split at hp
 ·rename_i k0 n h1;simp only[Option.some.injEq] at hp;subst hp;have hv:=qB2 (C.ev hx h1);refine qAD C hg (cv := .int k (k.wrap n)) ?_ (CRel.p _ _ (.int _ _));unfold execOp; rw[ho];simp[hv,convert,run_underlying hs,run_underlying hd,Conv.intToInt]
 ·cases hp
theorem qB5{s:List UInt8}{v:Value}(h:TRel ρ I (.v (.c (.p (.str s)))) v):∃ b:ByteArray,v = .string b/\b.data.toList=s:=by
 cases (show CRel ρ I (.p (.str s)) v from h) with|p _ _ hp=>cases hp with|str _ b e=>exact⟨b,rfl,e⟩
theorem qMI{src dst:TypeId}{x:Operand}(C:Here P G ρ I h w tm a)(ho:o.op = .convert src dst x)(hs:P.underlying src=some .string)(hd:P.underlying dst=some .string){x':X}(hx:compX G x=some x'){p:Plan}
  (hp:plan tm (.same x')=some p) (hg:p.doGo d h=some (v,h',t)):ValOK ρ I h w ((execOp a.eval o).run P w) v h':=by
 simp only[plan] at hp;split at hp
 ·rename_i s h1;simp only[Option.some.injEq] at hp;subst hp;obtain⟨b,hb,e⟩:=qB5 (C.ev hx h1);refine qAD C hg (cv := .string b) ?_ (CRel.p _ _ (.str _ _ e));unfold execOp; rw[ho];simp[hb,convert,run_underlying hs,run_underlying hd]
 ·cases hp
theorem qLd{x:TVal}{r:Ref}{v:Value}(hr:refOf x=some r)(hx:TRel ρ I x v):∃ l,ρ r=some l/\v=locPtr l:=by
 unfold refOf at hr;split at hr
 ·simp at hr; subst hr;obtain⟨l,h1,h2⟩:=qB3 hx;exact⟨l,h1,by rw[h2]; rfl⟩
 ·cases hr
theorem qAP{α β:Type}{f:α->Option β}:∀ {l:List α}{m:List β},l.mapM f=some m->All2 (λa b=>f a=some b) l m:=by
 intro l
 induction l with
 |nil=>intro m h; simp at h; subst h; trivial
 |cons a l ih =>
  intro m h;simp only[List.mapM_cons,Option.bind_eq_bind,Option.bind_eq_some_iff] at h;obtain⟨b,hb,bs,hbs,e⟩:=h;simp at e; subst e;exact⟨hb,ih hbs⟩
theorem qM7{f:FuncId}{caps:Array Operand}(C:Here P G ρ I h w tm a)(ho:o.op = .makeFunc (.func f) #[] caps){xs:List X}(hx:caps.toList.mapM (compX G)=some xs){p:Plan}
  (hp:plan tm (.mkfn f xs)=some p) (hg:p.doGo d h=some (v,h',t)):ValOK ρ I h w ((execOp a.eval o).run P w) v h':=by
 simp only[plan,Option.bind_eq_bind,Option.bind_eq_some_iff] at hp;obtain⟨rs,hrs,e⟩:=hp;simp only[Option.pure_def,Option.some.injEq] at e;subst e;have h1:=qAP hx;have h2:=qAP hrs;have key:∀ (os:List Operand) (xs:List X) (rs:List Ref),All2 (λa b=>compX G a=some b) os xs->All2 (λa b=>(a.ev tm).bind refOf=some b) xs rs ->
   ∃ ls:List Loc,All2 (λr l=>ρ r=some l) rs ls/\os.map a.eval=ls.map locPtr:=by
  intro os
  induction os with
  |nil =>
   intro xs rs a1 a2;cases xs with
   |nil=>cases rs with
    |nil=>exact⟨[],trivial,rfl⟩
    |cons _ _=>exact a2.elim
   |cons _ _=>exact a1.elim
  |cons x os ih =>
   intro xs rs a1 a2;cases xs with
   |nil=>exact a1.elim
   |cons y xs=>cases rs with
    |nil=>exact a2.elim
    |cons r rs =>
     obtain⟨ls,b1,b2⟩:=ih xs rs a1.2 a2.2;obtain⟨u,hu1,hu2⟩:=Option.bind_eq_some_iff.1 a2.1;obtain⟨l,c1,c2⟩:=qLd hu2 (C.ev a1.1 hu1);exact⟨l::ls,⟨c1,b1⟩,by simp[b2,c2]⟩
 obtain⟨ls,b1,b2⟩:=key _ _ _ h1 h2;refine qAD C hg (cv := .func (.func f) #[] (ls.map locPtr).toArray) ?_ (CRel.func f rs ls b1);unfold execOp; rw[ho];have:caps.map a.eval=(ls.map locPtr).toArray:=by
  apply Array.ext';simp[<- b2]
 simp[Instr.makeFunc,this]
theorem qLt{s:TypeId}{x:Operand}{fi:Nat}(C:Here P G ρ I h w tm a)(ho:o.op = .fieldAddr s x fi){fields:Array Field}(hs:P.underlying s=some (.struct fields)){fd:Field}(hf:fields[fi]?=some fd){n:Nat}(hn:szOf P fd.type=some n)(hn0:n≠0)
  {x':X} (hx:compX G x=some x') {p:Plan} (hp:plan tm (.faddr fd.offset x')=some p) (hg:p.doGo d h=some (v,h',t)):ValOK ρ I h w ((execOp a.eval o).run P w) v h':=by
 have run:∀ b off,a.eval x = .pointer (some ⟨b,off,none⟩)->(execOp a.eval o).run P w = .ok (.value (.pointer (some ⟨b,off+fd.offset,none⟩))) w:=by
  intro b off e;unfold execOp; rw[ho];simp[Instr.fieldAt,run_underlying hs,hf,e,Instr.sureAddr,fieldPlace,qAY hn,hn0,qAz]
 simp only[plan] at hp;split at hp
 ·rename_i r off h1;simp only[Option.some.injEq] at hp;subst hp;obtain⟨l,hl,e⟩:=qB3 (C.ev hx h1);exact qAD C hg (run _ _ e) (by rw[Nat.add_assoc]; exact CRel.ptr r _ l hl)
 ·rename_i row off h1;simp only[Option.some.injEq] at hp;subst hp;have:=qAC (C.ev hx h1);generalize hv:a.eval x=xv at this;cases this with|p _ _ hpv =>
  cases hpv with|pptr _ _ b ob cv hI hvv =>
  exact qAD C hg (run _ _ hv) (by rw[Nat.add_assoc]; exact CRel.p _ _ (.pptr row _ b ob cv hI hvv))
 ·cases hp
theorem qNY{cs:List Cell}{arr:Array Value}(hc:All2 (CRel ρ I) cs arr.toList){ty:TypeId}{agg:Bool}{n off:Nat}(ha:aggT P ty=some agg)(hn:szOf P ty=some n){v:TVal}(hp:partOf agg n cs off=some v)(w:World) :
  ∃ cv,(part ty arr off).run P w = .ok cv w/\TRel ρ I v cv:=by
 unfold partOf at hp;cases agg
 ·simp only[Bool.false_eq_true,if_false] at hp;split at hp
  ·rename_i x hx;cases hp;obtain⟨u,h1,h2⟩:=hc.get off x hx;refine⟨u,?_,h2⟩;have:arr[off]?=some u:=by simpa using h1
   simp[part,qCs ha,this]
  ·cases hp
 ·simp only[if_true] at hp;split at hp
  ·rename_i hl;cases hp;refine⟨.agg (arr.extract off (off+n)),by simp[part,qCs ha,qAY hn],_,rfl,?_⟩;have:=(hc.drop off).take n;rw[Array.toList_extract]
   simpa [List.extract] using this
  ·cases hp
theorem qLF{s:TypeId}{x:Operand}{fi:Nat}(C:Here P G ρ I h w tm a)(ho:o.op = .field s x fi){fields:Array Field}(hs:P.underlying s=some (.struct fields)){fd:Field}(hf:fields[fi]?=some fd){n:Nat}{agg:Bool}(hn:szOf P fd.type=some n)(ha:aggT P fd.type=some agg)
  {x':X} (hx:compX G x=some x') {p:Plan} (hp:plan tm (.field fd.offset n agg x')=some p) (hg:p.doGo d h=some (v,h',t)):ValOK ρ I h w ((execOp a.eval o).run P w) v h':=by
 simp only[plan] at hp;split at hp
 ·rename_i cs h1;obtain⟨u,hu,rfl⟩:=qA8 hp;obtain⟨arr,e,hc⟩:=C.ev hx h1;obtain⟨cv,hr,hrel⟩:=qNY (P:=P) hc ha hn hu w;refine qAD C hg (cv:=cv) ?_ hrel;unfold execOp; rw[ho];simp[Instr.field,run_underlying hs,hf,e,asAgg,hr]
 ·cases hp
theorem qBp{x:TVal}{n:Nat}{v:Value}(hn:asN x=some n)(hx:TRel ρ I x v):∃ k,v = .int k (n:Int):=by
 unfold asN at hn;split at hn
 ·rename_i k m;split at hn
  ·simp at hn; subst hn;exact⟨k,by rw[qB2 hx]; congr 1; omega⟩
  ·cases hn
 ·cases hn
theorem qDE{x':X}{n:Nat}(h:(x'.ev tm).bind asN=some n):∃ u,x'.ev tm=some u/\asN u=some n:=Option.bind_eq_some_iff.1 h
theorem qKN{ty e:TypeId}{x i:Operand}(C:Here P G ρ I h w tm a)(ho:o.op = .indexAddr ty x i)(hs:P.underlying ty=some (.slice e)){sz:Nat}(hn:szOf P e=some sz)(hn0:sz≠0)
  {x' i':X} (hx:compX G x=some x') (hi:compX G i=some i') {p:Plan} (hp:plan tm (.iaddr sz x' i')=some p) (hg:p.doGo d h=some (v,h',t)):ValOK ρ I h w ((execOp a.eval o).run P w) v h':=by
 have run:∀ b off len cap k ik,a.eval x = .slice (some ⟨b,off,none⟩) len cap->a.eval i = .int ik (k:Nat)->k<len->(execOp a.eval o).run P w = .ok (.value (.pointer (some ⟨b,off+k*sz,none⟩))) w:=by
  intro b off len cap k ik e1 e2 hk;have hk':(0:Int)<=(k:Int)/\(k:Int)<(len:Int):=by omega
  unfold execOp; rw[ho];simp[Instr.indexAt,e1,e2,asIntOf,run_underlying hs,hk,qAY hn,qAz]
 have pure_case:∀ (tight:Bool) (rows:List (List PVal)) (row:List PVal) (k:Nat),TRel ρ I (.v (.c (.p (.slice sz tight rows)))) (a.eval x)->(i'.ev tm).bind asN=some k->rows[k]?=some row->p = .pure (.pv (.pptr row 0)) ->
   ValOK ρ I h w ((execOp a.eval o).run P w) v h':=by
  intro tight rows row k hrel hk hrow hpp;subst hpp;obtain⟨u,hu1,hu2⟩:=qDE hk;obtain⟨ik,e2⟩:=qBp hu2 (C.ev hi hu1);have hrel:=qAC hrel;generalize hv:a.eval x=xv at hrel;cases hrel with|p _ _ hpv =>
  cases hpv with|emp=>(simp at hrow)|slice _ _ _ b ob cap cv ht hc hsz hI hvv =>
  refine qAD C hg (run _ _ _ _ _ _ hv e2 (List.getElem?_eq_some_iff.1 hrow).1) (CRel.p _ _ ?_);have:=PRel.pptr (I:=I) row 0 b (ob+k*sz) (cv k) (λj u hu=>hI k row j u hrow hu) (λj u hu=>hvv k row j u hrow hu)
  simpa using this
 simp only[plan] at hp;split at hp
 ·rename_i sz' tight rows k h1 h2;split at hp
  ·rename_i hsz;subst hsz;split at hp
   ·rename_i row hrow;simp only[Option.some.injEq] at hp;exact pure_case tight rows row k (C.ev hx h1) h2 hrow hp.symm
   ·cases hp
  ·cases hp
 ·rename_i sz' rows r k h1 h2;split at hp
  ·rename_i hsz;subst hsz;split at hp
   ·rename_i row hrow;simp only[Option.some.injEq] at hp;have hrel:=qAC (C.ev hx h1);generalize hv:a.eval x=xv at hrel;cases hrel with|tsl _ _ _ b ob cap l hpr e1 e2 e3 e4 =>
    exact pure_case false rows row k (by rw[hv]; exact CRel.p _ _ hpr) h2 hrow hp.symm
   ·cases hp
  ·cases hp
 ·rename_i r off len cap sz' k h1 h2;split at hp
  ·rename_i hcond;obtain⟨rfl,hk⟩:=hcond;simp only[Option.some.injEq] at hp;subst hp;obtain⟨u,hu1,hu2⟩:=qDE h2;obtain⟨ik,e2⟩:=qBp hu2 (C.ev hi hu1);have hrel:=qAC (C.ev hx h1);generalize hv:a.eval x=xv at hrel;cases hrel with|sref _ _ _ _ _ cc l hl a1 a2 a3 =>
   refine qAD C hg (run _ _ _ _ _ _ hv e2 hk) ?_;rw[Nat.add_assoc];exact CRel.ptr r _ l hl
  ·cases hp
 ·cases hp
theorem qJQ{ty e:TypeId}{len:Nat}{x i:Operand}(C:Here P G ρ I h w tm a)(ho:o.op = .indexAddr ty x i)(hs:P.underlying ty=some (.array len e)){sz:Nat}(hn:szOf P e=some sz)(hn0:sz≠0)
  {x' i':X} (hx:compX G x=some x') (hi:compX G i=some i') {p:Plan} (hp:plan tm (.iaddrA len sz x' i')=some p) (hg:p.doGo d h=some (v,h',t)):ValOK ρ I h w ((execOp a.eval o).run P w) v h':=by
 have run:∀ b off k ik,a.eval x = .pointer (some ⟨b,off,none⟩)->a.eval i = .int ik (k:Nat)->k<len->(execOp a.eval o).run P w = .ok (.value (.pointer (some ⟨b,off+k*sz,none⟩))) w:=by
  intro b off k ik e1 e2 hk;unfold execOp; rw[ho];simp[Instr.indexAt,e1,e2,asIntOf,run_underlying hs,Instr.sureAddr,hk,qAY hn,qAz]
 simp only[plan] at hp;split at hp
 ·rename_i r off k h1 h2;split at hp
  ·rename_i hk;simp only[Option.some.injEq] at hp;subst hp;obtain⟨u,hu1,hu2⟩:=qDE h2;obtain⟨ik,e2⟩:=qBp hu2 (C.ev hi hu1);obtain⟨l,hl,e1⟩:=qB3 (C.ev hx h1);refine qAD C hg (run _ _ _ _ e1 e2 hk) ?_;rw[Nat.add_assoc];exact CRel.ptr r _ l hl
  ·cases hp
 ·rename_i row off k h1 h2;split at hp
  ·rename_i hk;simp only[Option.some.injEq] at hp;subst hp;obtain⟨u,hu1,hu2⟩:=qDE h2;obtain⟨ik,e2⟩:=qBp hu2 (C.ev hi hu1);have hrel:=qAC (C.ev hx h1);generalize hv:a.eval x=xv at hrel;cases hrel with|p _ _ hpv =>
   cases hpv with|pptr _ _ b ob cv hI hvv =>
   refine qAD C hg (run _ _ _ _ hv e2 hk) ?_;rw[Nat.add_assoc];exact CRel.p _ _ (.pptr row _ b ob cv hI hvv)
  ·cases hp
 ·cases hp
theorem qLr{ty:TypeId}{x i:Operand}(C:Here P G ρ I h w tm a)(ho:o.op = .index ty x i)(hs:P.underlying ty=some .string)
  {x' i':X} (hx:compX G x=some x') (hi:compX G i=some i') {p:Plan} (hp:plan tm (.index x' i')=some p) (hg:p.doGo d h=some (v,h',t)):ValOK ρ I h w ((execOp a.eval o).run P w) v h':=by
 simp only[plan] at hp;split at hp
 ·rename_i s k h1 h2;split at hp
  ·rename_i b hb;simp only[Option.some.injEq] at hp;subst hp;obtain⟨u,hu1,hu2⟩:=qDE h2;obtain⟨ik,e2⟩:=qBp hu2 (C.ev hi hu1);obtain⟨ba,e1,hs'⟩:=qB5 (C.ev hx h1);refine qAD C hg (cv := .int .u8 b.toNat) ?_ (CRel.p _ _ (.int _ _));subst hs';have hk:=(List.getElem?_eq_some_iff.1 hb).1;have hk':k<ba.size:=by simpa using hk
   have hget:ba[k]?=some b:=by
    have h2:=(List.getElem?_eq_some_iff.1 hb).2;rw[getElem?_pos ba k hk',<- h2];rfl
   unfold execOp; rw[ho];simp[Instr.index,e1,e2,asIntOf,run_underlying hs,hget]
  ·cases hp
 ·cases hp
theorem qH3{x:Operand}{i:Nat}(C:Here P G ρ I h w tm a)(ho:o.op = .extract x i){x':X}(hx:compX G x=some x'){p:Plan}(hp:plan tm (.extract x' i)=some p)(hg:p.doGo d h=some (v,h',t)) :
  ValOK ρ I h w ((execOp a.eval o).run P w) v h':=by
 simp only[plan] at hp;split at hp
 ·rename_i vs h1;split at hp
  ·rename_i u hu;simp only[Option.some.injEq] at hp;subst hp;obtain⟨arr,e,hc⟩:=C.ev hx h1;obtain⟨cv,c1,c2⟩:=hc.get i u hu;refine qAD C hg (cv:=cv) ?_ c2;unfold execOp; rw[ho];have:arr[i]?=some cv:=by simpa using c1
   simp[Instr.extract,e,this]
  ·cases hp
 ·cases hp
end
end Go.AI
namespace Go.AI
variable [Sym]
section
variable {P:Program} {G:Nat->Option (List PVal)} {ρ:Env} {I:Imm} {h:Heap} {w:World} {tm:TM TVal} {a:Act}
variable {heap:Nat->Bool} {d:Nat} {v:TVal} {h':Heap} {t:Touch} {o:Oper}
theorem qAq{c:Call}{b:Builtin}(ho:o.op = .call c)(hb:c.callee = .builtin b) :
  execOp a.eval o=builtin b c.argTypes o.type (c.args.map λ| .const _=>true|_=>false) (c.args.map a.eval):=by
 unfold execOp; rw[ho];dsimp only;unfold resolve;rw[hb];rfl
theorem qAb{c:Call}{xs:List X}(h:c.args.toList.mapM (compX G)=some xs){x':X}(hx:xs=[x']):∃ x,c.args=#[x]/\compX G x=some x':=by
 have h1:=qAP h;subst hx;cases hl:c.args.toList with
 |nil=>rw[hl] at h1; exact h1.elim
 |cons x l =>
  rw[hl] at h1;cases l with
  |nil=>exact⟨x,by apply Array.ext'; simpa using hl,h1.1⟩
  |cons _ _=>exact h1.2.elim
theorem qNu{c:Call}{xs:List X}(h:c.args.toList.mapM (compX G)=some xs){x' y':X}(hx:xs=[x',y']):∃ x y,c.args=#[x,y]/\compX G x=some x'/\compX G y=some y':=by
 have h1:=qAP h;subst hx;cases hl:c.args.toList with
 |nil=>rw[hl] at h1; exact h1.elim
 |cons x l =>
  rw[hl] at h1;cases l with
  |nil=>exact h1.2.elim
  |cons y l =>
   cases l with
   |nil=>exact⟨x,y,by apply Array.ext'; simpa using hl,h1.1,h1.2.1⟩
   |cons _ _=>exact h1.2.2.elim
theorem qFc{r:Ref}{es:List (PVal×Comp×Nat)}{clock:Nat}(H:WRel ρ I h w)(hr:h.get r=some (.map es clock)){l:Loc}(hl:ρ r=some l) :
  ∃ arr:Array MapEntry,w.heap[l.blk]?=some (.map arr clock)/\All2 (λ(a:PVal×Comp×Nat) (e:MapEntry)=>PRel I a.1 e.key/\CompRel ρ I a.2.1 e.val/\a.2.2=e.born) es arr.toList:=by
 obtain⟨l',e,ho⟩:=H.live r _ hr;rw[hl] at e; cases e;exact ho
theorem qFe{c:Call}{ty:TypeId}{x:Operand}(C:Here P G ρ I h w tm a)(ho:o.op = .call c)(hb:c.callee = .builtin .len)(ha:c.args=#[x])(ht:c.argTypes=#[ty]){kd:Nat}
  (hk:(kd=0/\P.underlying ty=some .string)\/(kd=2/\∃ e,P.underlying ty=some (.slice e))\/(kd=3/\∃ e f,P.underlying ty=some (.map e f)))
  {x':X} (hx:compX G x=some x') {p:Plan} (hp:plan tm (.len kd x')=some p) (hg:p.doGo d h=some (v,h',t)):ValOK ρ I h w ((execOp a.eval o).run P w) v h':=by
 have hex:execOp a.eval o=(do pure (.value (<- Builtin.len_ #[ty] o.type #[a.eval x])):Sem Next):=by rw[qAq ho hb,ha,ht]; simp only[List.map_toArray,List.map_cons,List.map_nil]; rfl
 simp only[plan] at hp;split at hp
 ·rename_i s h1;simp only[Option.some.injEq] at hp;subst hp;obtain⟨b,e,hs⟩:=qB5 (C.ev hx h1);have hu:P.underlying ty=some .string:=by rcases hk with ⟨_,h⟩|⟨h,_⟩|⟨h,_⟩ <;> first|exact h|cases h
  exact qAD C hg (cv := .int .i64 s.length) (by rw[hex]; subst hs; simp[Builtin.len_,e,run_underlying hu,goInt]) (CRel.p _ _ (.int _ _))
 ·rename_i h1;simp only[Option.some.injEq] at hp;subst hp;obtain⟨e,hu⟩:∃ e,P.underlying ty=some (.slice e):=by rcases hk with ⟨h,_⟩|⟨_,h⟩|⟨h,_⟩ <;> first|exact h|cases h
  have hrel:=qAC (C.ev hx h1);generalize hv:a.eval x=xv at hrel;cases hrel with|p _ _ hpv =>
  cases hpv;exact qAD C hg (cv := .int .i64 0) (by rw[hex]; simp[Builtin.len_,hv,run_underlying hu,goInt]) (CRel.p _ _ (.int _ _))
 ·rename_i rows h1;simp only[Option.some.injEq] at hp;subst hp;obtain⟨e,hu⟩:∃ e,P.underlying ty=some (.slice e):=by rcases hk with ⟨h,_⟩|⟨_,h⟩|⟨h,_⟩ <;> first|exact h|cases h
  have hrel:=qAC (C.ev hx h1);generalize hv:a.eval x=xv at hrel;cases hrel with|p _ _ hpv =>
  cases hpv <;> exact qAD C hg (cv := .int .i64 _) (by rw[hex]; simp[Builtin.len_,hv,run_underlying hu,goInt]) (CRel.p _ _ (.int _ _))
 ·rename_i rows r h1;simp only[Option.some.injEq] at hp;subst hp;obtain⟨e,hu⟩:∃ e,P.underlying ty=some (.slice e):=by rcases hk with ⟨h,_⟩|⟨_,h⟩|⟨h,_⟩ <;> first|exact h|cases h
  have hrel:=qAC (C.ev hx h1);generalize hv:a.eval x=xv at hrel;cases hrel;exact qAD C hg (cv := .int .i64 rows.length) (by rw[hex]; simp[Builtin.len_,hv,run_underlying hu,goInt]) (CRel.p _ _ (.int _ _))
 ·rename_i len cap sz h1;simp only[Option.some.injEq] at hp;subst hp;obtain⟨e,hu⟩:∃ e,P.underlying ty=some (.slice e):=by rcases hk with ⟨h,_⟩|⟨_,h⟩|⟨h,_⟩ <;> first|exact h|cases h
  have hrel:=qAC (C.ev hx h1);generalize hv:a.eval x=xv at hrel;cases hrel;exact qAD C hg (cv := .int .i64 len) (by rw[hex]; simp[Builtin.len_,hv,run_underlying hu,goInt]) (CRel.p _ _ (.int _ _))
 ·rename_i h1;simp only[Option.some.injEq] at hp;subst hp;obtain⟨e,f,hu⟩:∃ e f,P.underlying ty=some (.map e f):=by rcases hk with ⟨h,_⟩|⟨h,_⟩|⟨_,h⟩ <;> first|exact h|cases h
  have hrel:=qAC (C.ev hx h1);generalize hv:a.eval x=xv at hrel;cases hrel with|p _ _ hpv =>
  cases hpv;exact qAD C hg (cv := .int .i64 0) (by rw[hex]; simp[Builtin.len_,hv,run_underlying hu,goInt]) (CRel.p _ _ (.int _ _))
 ·rename_i es h1;simp only[Option.some.injEq] at hp;subst hp;obtain⟨e,f,hu⟩:∃ e f,P.underlying ty=some (.map e f):=by rcases hk with ⟨h,_⟩|⟨h,_⟩|⟨_,h⟩ <;> first|exact h|cases h
  have hrel:=qAC (C.ev hx h1);generalize hv:a.eval x=xv at hrel;cases hrel with|p _ _ hpv =>
  cases hpv with|pmap _ b clock arr kv cv born hI hl _ _ _ =>
  have hm:=C.heap.imap _ _ _ hI;refine qAD C hg (cv := .int .i64 es.length) ?_ (CRel.p _ _ (.int _ _));rw[hex];simp[Builtin.len_,hv,run_underlying hu,goInt,getObj,Sem.run,hm,hl]
 ·rename_i r h1;simp only[Option.some.injEq] at hp;subst hp;obtain⟨e,f,hu⟩:∃ e f,P.underlying ty=some (.map e f):=by rcases hk with ⟨h,_⟩|⟨h,_⟩|⟨_,h⟩ <;> first|exact h|cases h
  obtain⟨rfl,ob,h2,h3⟩:=qCE hg;split at h3
  ·rename_i es clock;cases h3;have hrel:=qAC (C.ev hx h1);generalize hv:a.eval x=xv at hrel;cases hrel with|mref _ l hl =>
   obtain⟨arr,hm,hc⟩:=qFc C.heap h2 hl;have hlen:es.length=arr.size:=by have:=hc.length; simpa using this
   refine ValOK.pure C.heap (cv := .int .i64 es.length) ?_ (CRel.p _ _ (.int _ _));rw[hex];simp[Builtin.len_,hv,run_underlying hu,goInt,getObj,Sem.run,hm,hlen]
  ·cases h3
 ·cases hp
theorem qMa{c:Call}{ty e:TypeId}{n:Nat}{x:Operand}(C:Here P G ρ I h w tm a)(ho:o.op = .call c)(hb:c.callee = .builtin .len)(ha:c.args=#[x])(ht:c.argTypes=#[ty])(hu:P.underlying ty=some (.array n e))
  {p:Plan} (hp:plan tm (.mv (.k (.pv (.int .i64 n))))=some p) (hg:p.doGo d h=some (v,h',t)):ValOK ρ I h w ((execOp a.eval o).run P w) v h':=by
 have hex:execOp a.eval o=(do pure (.value (<- Builtin.len_ #[ty] o.type #[a.eval x])):Sem Next):=by rw[qAq ho hb,ha,ht]; simp only[List.map_toArray,List.map_cons,List.map_nil]; rfl
 simp only[plan,X.ev,Option.map_some,Option.some.injEq] at hp;subst hp;refine qAD C hg (cv := .int .i64 n) ?_ (CRel.p _ _ (.int _ _));rw[hex];simp[Builtin.len_,run_underlying hu,goInt]
theorem qN6{c:Call}{ty e:TypeId}{x:Operand}(C:Here P G ρ I h w tm a)(ho:o.op = .call c)(hb:c.callee = .builtin .cap)(ha:c.args=#[x])(ht:c.argTypes=#[ty])(hu:P.underlying ty=some (.slice e))
  {x':X} (hx:compX G x=some x') {p:Plan} (hp:plan tm (.cap x')=some p) (hg:p.doGo d h=some (v,h',t)):ValOK ρ I h w ((execOp a.eval o).run P w) v h':=by
 have hex:execOp a.eval o=(do pure (.value (<- Builtin.cap_ #[ty] o.type #[a.eval x])):Sem Next):=by rw[qAq ho hb,ha,ht]; simp only[List.map_toArray,List.map_cons,List.map_nil]; rfl
 have run:∀ ad n k,a.eval x = .slice ad n k->(execOp a.eval o).run P w = .ok (.value (.int .i64 k)) w:=by
  intro ad n k e1; rw[hex]; simp[Builtin.cap_,e1,run_underlying hu,goInt]
 simp only[plan] at hp;split at hp
 ·rename_i h1;simp only[Option.some.injEq] at hp;subst hp;have hrel:=qAC (C.ev hx h1);generalize hv:a.eval x=xv at hrel;cases hrel with|p _ _ hpv =>
  cases hpv;exact qAD C hg (run _ _ _ hv) (CRel.p _ _ (.int _ _))
 ·rename_i rows h1;simp only[Option.some.injEq] at hp;subst hp;have hrel:=qAC (C.ev hx h1);generalize hv:a.eval x=xv at hrel;cases hrel with|p _ _ hpv =>
  cases hpv with|emp _ _ ad cap htt=>(have:=htt rfl; subst this; exact qAD C hg (run _ _ _ hv) (CRel.p _ _ (.int _ _)))|slice _ _ _ b ob cap cv htt hc hsz hI hvv =>
  have:=htt rfl;subst this;exact qAD C hg (run _ _ _ hv) (CRel.p _ _ (.int _ _))
 ·rename_i cc h1;simp only[Option.some.injEq] at hp;subst hp;have hrel:=qAC (C.ev hx h1);generalize hv:a.eval x=xv at hrel;cases hrel with|sref _ _ _ _ _ c2 l hl a1 a2 a3 =>
  have:=a3 _ rfl;subst this;exact qAD C hg (run _ _ _ hv) (CRel.p _ _ (.int _ _))
 ·cases hp
theorem qDw:∀ {cs:List Cell}{vs:List Value}{s:List UInt8},All2 (CRel ρ I) cs vs->bytesOf cs=some s->∃ ns:List Int,vs=ns.map (Value.int .u8)/\s=ns.map λn=>UInt8.ofNat n.toNat:=by
 intro cs
 induction cs with
 |nil=>intro vs s h e; cases vs with
  |nil=>simp[bytesOf] at e; subst e; exact⟨[],rfl,rfl⟩
  |cons _ _=>exact h.elim
 |cons c cs ih =>
  intro vs s h e;cases vs with
  |nil=>exact h.elim
  |cons x vs =>
   unfold bytesOf at e;split at e
   ·rename_i h0; cases h0
   ·rename_i n cs' heq;obtain⟨rfl,rfl⟩:=List.cons.inj heq;cases hb:bytesOf cs with
    |none=>rw[hb] at e; cases e
    |some s' =>
     rw[hb] at e;simp at e;subst e;obtain⟨ns,h1,h2⟩:=ih h.2 hb;have:=qB2 (ρ:=ρ) (I:=I) h.1;exact⟨n::ns,by simp[this,h1],by simp[h2]⟩
   ·cases e
theorem qEG:∀ {rows:List (List PVal)}{s:List UInt8},bytesOfRows rows=some s->bytesOf (pcells rows.flatten)=some s/\∀ (i:Nat) r,rows[i]?=some r->r.length=1:=by
 intro rows
 induction rows with
 |nil=>intro s e; simp[bytesOfRows] at e; subst e; exact⟨rfl,λi r h=>by simp at h⟩
 |cons r rows ih =>
  intro s e;unfold bytesOfRows at e;split at e
  ·rename_i h0; cases h0
  ·rename_i n cs heq;obtain⟨rfl,rfl⟩:=List.cons.inj heq;cases hb:bytesOfRows rows with
   |none=>rw[hb] at e; cases e
   |some s' =>
    rw[hb] at e;simp at e;subst e;obtain⟨h1,h2⟩:=ih hb;refine⟨?_,λi r hr => ?_⟩
    ·show(bytesOf (pcells rows.flatten)).map (UInt8.ofNat n.toNat::·)=_;rw[h1]; rfl
    ·cases i with
     |zero=>simp at hr; subst hr; rfl
     |succ i=>exact h2 i r (by simpa using hr)
  ·cases e
theorem qIG:∀ (ns:List Int) (acc:ByteArray) (w:World),Sem.run P (forIn (ns.map (Value.int .u8)) acc λc s=>(match c with
   |.int .u8 n=>pure (ForInStep.yield (s.push (UInt8.ofNat n.toNat)))
   |x=>do
    stuck "bytesToString: byte expected"
    pure (ForInStep.yield s):Sem (ForInStep ByteArray))) w = .ok ⟨(acc.data.toList++ns.map λn=>UInt8.ofNat n.toNat).toArray⟩ w:=by
 intro ns
 induction ns with
 |nil=>intro acc w; simp
 |cons n ns ih =>
  intro acc w;simp only[List.map_cons,List.forIn_cons,Sem.run_bind,Sem.run_pure,Result.andThen_ok];rw[ih];simp
theorem qCM{b off n cap:Nat}{ns:List Int}(hn:ns.length=n)(hc:∀ (j:Nat) v,(ns.map (Value.int .u8))[j]?=some v->w.cell? ⟨b,off+j,none⟩=some v) :
  (Conv.bytesToString (.slice (some ⟨b,off,none⟩) n cap)).run P w = .ok (.string ⟨(ns.map λn=>UInt8.ofNat n.toNat).toArray⟩) w:=by
 have hr:=qCJ (P:=P) (ns.map (Value.int .u8)) hc;subst hn;rw[List.length_map] at hr;unfold Conv.bytesToString;simp only[Sem.run_bind,hr,Result.andThen_ok];rw[List.forIn_toArray];refine Eq.trans (congrArg (λr=>Result.andThen r (λa w'=>Sem.run P (pure (Value.string a)) w')) (qIG (P:=P) ns ByteArray.empty w)) ?_;rfl
theorem qC7(ad:Addr):(loadCells ad 0).run P w = .ok #[] w:=by
 simp[loadCells,loadCellsFrom]
theorem qD0{ad:Addr}{b off n cap:Nat}{ns:List Int}(hn:ns.length=n)(hc:∀ (j:Nat) v,(ns.map (Value.int .u8))[j]?=some v->w.cell? ⟨b,off+j,none⟩=some v)(he:n=0\/ad=⟨b,off,none⟩) :
  (Conv.bytesToString (.slice (some ad) n cap)).run P w = .ok (.string ⟨(ns.map λn=>UInt8.ofNat n.toNat).toArray⟩) w:=by
 rcases he with rfl|rfl
 ·obtain rfl:ns=[]:=List.eq_nil_of_length_eq_zero hn;unfold Conv.bytesToString;simp only[Sem.run_bind,qC7,Result.andThen_ok];rfl
 ·exact qCM hn hc
end
end Go.AI
