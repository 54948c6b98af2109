/- An abstract interpreter of the model's code,shown sound. Own work. Condition: what each theorem names. -/
import Derived.Test.YtnlmlcfipbnpgaaGreatDoorAc
import Derived.LaidLaws
import Derived.Lib.Bytealg
import Derived.Lib.Index
import Derived.Lib.Join
import Derived.HandedShaped
import Derived.Shelf.Vars
import Derived.ChangeSlices
import Derived.ChangeMaps5
import Derived.Carry
set_option linter.all false
set_option linter.unusedVariables false
set_option linter.unusedSimpArgs false
set_option linter.unusedSectionVars false
namespace Go.AI
noncomputable section
variable {β:Type}
abbrev bnd{α:Type}(x:Option α)(k:α->Option β):Option β:=Option.rec (motive:=λ_=>Option β) none k x
theorem qC4{α:Type}(x:Option α)(k:α->Option β):bnd x k=x.bind k:=by cases x <;> rfl
@[simp] theorem bnd_none {α:Type} (k:α->Option β):bnd none k=none:=rfl
@[simp] theorem bnd_some {α:Type} (a:α) (k:α->Option β):bnd (some a) k=k a:=rfl
def nthF{α:Type}(l:List α):Nat->Option α:=List.rec (motive:=λ_=>Nat->Option α) (λ_=>none) (λa _ ih n=>Nat.rec (motive:=λ_=>Option α) (some a) (λm _=>ih m) n) l
theorem qAc{α:Type}:∀ (l:List α) (n:Nat),nthF l n=l[n]?:=by
 intro l
 induction l with
 |nil=>intro n; rfl
 |cons a l ih=>intro n; cases n with
  |zero=>rfl
  |succ m=>exact(ih m).trans (by simp)
def dropF{α:Type}(l:List α):Nat->List α:=List.rec (motive:=λ_=>Nat->List α) (λ_=>[]) (λa t ih n=>Nat.rec (motive:=λ_=>List α) (a::t) (λm _=>ih m) n) l
theorem qBT{α:Type}:∀ (l:List α) (n:Nat),dropF l n=l.drop n:=by
 intro l
 induction l with
 |nil=>intro n; simp[dropF]
 |cons a l ih=>intro n; cases n with
  |zero=>rfl
  |succ m=>exact(ih m).trans (by simp)
def takeF{α:Type}(l:List α):Nat->List α:=List.rec (motive:=λ_=>Nat->List α) (λ_=>[]) (λa t ih n=>Nat.rec (motive:=λ_=>List α) [] (λm _=>a::ih m) n) l
theorem qBR{α:Type}:∀ (l:List α) (n:Nat),takeF l n=l.take n:=by
 intro l
 induction l with
 |nil=>intro n; simp[takeF]
 |cons a l ih=>intro n; cases n with
  |zero=>rfl
  |succ m=>exact congrArg (a::·) (ih m)
def lenF{α:Type}(l:List α):Nat:=List.rec (motive:=λ_=>Nat) 0 (λ_ _ ih=>Nat.succ ih) l
theorem qAI{α:Type}(l:List α):lenF l=l.length:=by
 induction l with
 |nil=>rfl
 |cons a l ih=>exact congrArg Nat.succ ih
def bltI(a b:Int):Bool :=
 Int.rec (motive:=λ_=>Bool) (λm=>Int.rec (motive:=λ_=>Bool) (λn=>Nat.blt m n) (λ_=>false) b) (λm=>Int.rec (motive:=λ_=>Bool) (λ_=>true) (λn=>Nat.blt n m) b) a
theorem qBZ(m n:Nat):Nat.blt m n=decide (m<n):=by
 cases h:Nat.blt m n with
 |true=>exact(decide_eq_true (Nat.le_of_ble_eq_true h)).symm
 |false=>exact(decide_eq_false λc=>by rw[show Nat.blt m n=true from Nat.ble_eq_true_of_le c] at h; cases h).symm
theorem qBi(a b:Int):bltI a b=decide (a<b):=by
 rcases a with m|m <;> rcases b with n|n
 ·exact(qBZ m n).trans (decide_eq_decide.2 (by simp only[Int.ofNat_eq_natCast]; omega))
 ·exact(decide_eq_false (by simp only[Int.ofNat_eq_natCast]; omega)).symm
 ·exact(decide_eq_true (by simp only[Int.ofNat_eq_natCast]; omega)).symm
 ·exact(qBZ n m).trans (decide_eq_decide.2 (by omega))
def beqI(a b:Int):Bool :=
 Int.rec (motive:=λ_=>Bool) (λm=>Int.rec (motive:=λ_=>Bool) (λn=>Nat.beq m n) (λ_=>false) b) (λm=>Int.rec (motive:=λ_=>Bool) (λ_=>false) (λn=>Nat.beq m n) b) a
theorem qBq(a b:Int):beqI a b=decide (a=b):=by
 rcases a with m|m <;> rcases b with n|n
 ·exact(qAH m n).trans (decide_eq_decide.2 (by simp only[Int.ofNat_eq_natCast]; omega))
 ·exact(decide_eq_false (by simp only[Int.ofNat_eq_natCast]; omega)).symm
 ·exact(decide_eq_false (by simp only[Int.ofNat_eq_natCast]; omega)).symm
 ·exact(qAH m n).trans (decide_eq_decide.2 (by omega))
def kNum(k:IntKind):Nat:=IntKind.rec (motive:=λ_=>Nat) 0 1 2 3 4 5 6 7 k
def keq(a b:IntKind):Bool:=Nat.beq (kNum a) (kNum b)
theorem qPd(a b:IntKind):keq a b=decide (a=b):=by cases a <;> cases b <;> rfl
def kLim(k:IntKind):Nat:=IntKind.rec (motive:=λ_=>Nat) 128 32768 2147483648 9223372036854775808 256 65536 4294967296 18446744073709551616 k
def kSig(k:IntKind):Bool:=IntKind.rec (motive:=λ_=>Bool) true true true true false false false false k
def wrapF(k:IntKind)(z:Int):Int :=
 Int.rec (motive:=λ_=>Int) (λn=>bif Nat.blt n (kLim k) then .ofNat n else k.wrap (.ofNat n)) (λn=>bif kSig k&&Nat.blt n (kLim k) then .negSucc n else k.wrap (.negSucc n)) z
theorem qAN(k:IntKind)(z:Int)(h1:k.min<=z)(h2:z<=k.max):k.wrap z=z:=by
 cases k <;> simp only[IntKind.min,IntKind.max,IntKind.bits,IntKind.signed,if_true,Bool.false_eq_true,if_false] at h1 h2 <;> simp only[IntKind.wrap,IntKind.bits,IntKind.signed,Bool.true_and,Bool.false_and,decide_eq_true_eq,Bool.false_eq_true,if_false,ge_iff_le]
 case i8=>split <;> omega
 case i16=>split <;> omega
 case i32=>split <;> omega
 case i64=>split <;> omega
 all_goals omega
theorem qAk(k:IntKind)(z:Int):wrapF k z=k.wrap z:=by
 cases z with
 |ofNat n =>
  show(bif Nat.blt n (kLim k) then Int.ofNat n else k.wrap (.ofNat n))=_;rw[qBZ,Bool.cond_decide];split
  ·rename_i h;refine(qAN k _ ?_ ?_).symm
   ·cases k <;> simp only[IntKind.min,IntKind.bits,IntKind.signed,if_true,Bool.false_eq_true,if_false,Int.ofNat_eq_natCast] <;> omega
   ·cases k <;> simp only[kLim] at h <;> simp only[IntKind.max,IntKind.bits,IntKind.signed,if_true,Bool.false_eq_true,if_false,Int.ofNat_eq_natCast] <;> omega
  ·rfl
 |negSucc n =>
  show(bif kSig k&&Nat.blt n (kLim k) then Int.negSucc n else k.wrap (.negSucc n))=_;rw[qBZ];cases hs:kSig k with
  |false=>rfl
  |true =>
   rw[Bool.true_and,Bool.cond_decide];split
   ·rename_i h;refine(qAN k _ ?_ ?_).symm
    ·cases k <;> simp only[kLim,kSig] at h hs <;> (first|(cases hs; done)|(simp only[IntKind.min,IntKind.bits,IntKind.signed,if_true]; omega))
    ·cases k <;> simp only[IntKind.max,IntKind.bits,IntKind.signed,if_true,Bool.false_eq_true,if_false] <;> omega
   ·rfl
def beqS(a:List UInt8):List UInt8->Bool :=
 List.rec (motive:=λ_=>List UInt8->Bool) (λb=>List.rec (motive:=λ_=>Bool) true (λ_ _ _=>false) b) (λx _ ih b=>List.rec (motive:=λ_=>Bool) false (λy b' _=>bif Nat.beq x.toNat y.toNat then ih b' else false) b) a
theorem qD8:∀ (a b:List UInt8),beqS a b=(a==b):=by
 intro a
 induction a with
 |nil=>intro b; cases b <;> rfl
 |cons x a ih =>
  intro b;cases b with
  |nil=>rfl
  |cons y b =>
   show(bif Nat.beq x.toNat y.toNat then beqS a b else false)=_;rw[qAH,ih,Bool.cond_decide,List.cons_beq_cons];by_cases h:x=y
   ·subst h; simp
   ·have:¬ x.toNat=y.toNat:=λe=>h (UInt8.toNat_inj.1 e)
    simp[h,this]
abbrev Bin2:=IntKind->IntKind->Int->Int->Option Cell
def same2(k k':IntKind)(x:Option PVal):Option Cell:=bif keq k k' then bnd x λv=>some (.p v) else none
def j_add:Bin2:=λk k' x y=>bif keq k k' then some (.p (.int k (wrapF k (Int.add x y)))) else none
def j_sub:Bin2:=λk k' x y=>bif keq k k' then some (.p (.int k (wrapF k (Int.sub x y)))) else none
def j_mul:Bin2:=λk k' x y=>bif keq k k' then some (.p (.int k (wrapF k (Int.mul x y)))) else none
def j_quo:Bin2:=λk k' x y=>bif keq k k' then (bif beqI y 0 then none else some (.p (.int k (wrapF k (Int.tdiv x y))))) else none
def j_rem:Bin2:=λk k' x y=>bif keq k k' then (bif beqI y 0 then none else some (.p (.int k (Int.tmod x y)))) else none
def j_and:Bin2:=λk k' x y=>same2 k k' (intBin .and k x y)
def natOr(k:IntKind)(x y:Int):Option Nat:=Int.rec (motive:=λ_=>Option Nat) (λm=>Int.rec (motive:=λ_=>Option Nat) (λn=>bif Nat.blt m (kLim k)&&Nat.blt n (kLim k) then some (Nat.lor m n) else none) (λ_=>none) y) (λ_=>none) x
def j_or:Bin2:=λk k' x y=>bif keq k k' then Option.rec (motive:=λ_=>Option Cell) (bnd (intBin .or k x y) λv=>some (.p v)) (λn=>some (.p (.int k (.ofNat n)))) (natOr k x y) else none
def j_xor:Bin2:=λk k' x y=>same2 k k' (intBin .xor k x y)
def j_andNot:Bin2:=λk k' x y=>same2 k k' (intBin .andNot k x y)
def j_shl:Bin2:=λk _ x y=>bnd (shiftBin .shl k x y) λv=>some (.p v)
def j_shr:Bin2:=λk _ x y=>bnd (shiftBin .shr k x y) λv=>some (.p v)
def j_eql:Bin2:=λk k' x y=>bif keq k k' then some (.p (.bool (beqI x y))) else none
def j_neq:Bin2:=λk k' x y=>bif keq k k' then some (.p (.bool (Bool.not (beqI x y)))) else none
def j_lss:Bin2:=λk k' x y=>bif keq k k' then some (.p (.bool (bltI x y))) else none
def j_leq:Bin2:=λk k' x y=>bif keq k k' then some (.p (.bool (Bool.not (bltI y x)))) else none
def j_gtr:Bin2:=λk k' x y=>bif keq k k' then some (.p (.bool (bltI y x))) else none
def j_geq:Bin2:=λk k' x y=>bif keq k k' then some (.p (.bool (Bool.not (bltI x y)))) else none
def jBin(op:BinOp):Bin2:=BinOp.rec (motive:=λ_=>Bin2) j_add j_sub j_mul j_quo j_rem j_and j_or j_xor j_shl j_shr j_andNot j_eql j_neq j_lss j_leq j_gtr j_geq op
abbrev Str2:=List UInt8->List UInt8->Option Cell
def s_add:Str2:=λx y=>bif Nat.ble (Nat.add (lenF x) (lenF y)) 4611686018427387904 then some (.p (.str (x++y))) else none
def s_eql:Str2:=λx y=>some (.p (.bool (beqS x y)))
def s_neq:Str2:=λx y=>some (.p (.bool (Bool.not (beqS x y))))
def s_oth(op:BinOp):Str2:=λx y=>bnd (strBin op x y) λv=>some (.p v)
def sBin(op:BinOp):Str2:=BinOp.rec (motive:=λ_=>Str2) s_add (s_oth .sub) (s_oth .mul) (s_oth .quo) (s_oth .rem) (s_oth .and) (s_oth .or) (s_oth .xor) (s_oth .shl) (s_oth .shr) (s_oth .andNot) s_eql s_neq (s_oth .lss) (s_oth .leq) (s_oth .gtr) (s_oth .geq) op
def pvBin(op:BinOp)(kd:Nat)(x y:PVal):Option Cell :=
 match x with
 |.int k a=>(match y with | .int k' b=>jBin op k k' a b|y=>binV op kd (.p (.int k a)) (.p y))
 |.str a=>(match y with | .str b=>sBin op a b|y=>binV op kd (.p (.str a)) (.p y))
 |x=>binV op kd (.p x) (.p y)
def binF(op:BinOp)(kd:Nat)(x y:Cell):Option Cell :=
 match x with
 |.p a=>(match y with | .p b=>pvBin op kd a b|y=>binV op kd (.p a) y)
 |x=>binV op kd x y
def p_mv(x:X)(tm:TM TVal):Option Plan:=(x.ev tm).map .pure
def p_same(x:X)(tm:TM TVal):Option Plan:=match x.ev tm with
  |some (.v (.c (.p (.str s))))=>some (.pure (.pv (.str s)))
  |_=>none
def p_pick(c:X)(a:X)(b:X)(tm:TM TVal):Option Plan:=match c.ev tm with
  |some (.v (.c (.p (.bool true))))=>(a.ev tm).map .pure
  |some (.v (.c (.p (.bool false))))=>(b.ev tm).map .pure
  |_=>none
def p_alloc(zero:List Cell)(push:Bool)(tm:TM TVal):Option Plan:=some (.mk1 (.cells zero 0) push λr => .v (.c (.ptr r 0)))
def p_box(x:X)(push:Bool)(tm:TM TVal):Option Plan:=match x.ev tm with
  |some (.v v)=>some (.mk1 (.cells v.cells 0) push λr => .v (.c (.ptr r 0)))
  |_=>none
def p_build(zero:List Cell)(parts:List (Nat×Nat×X))(tm:TM TVal):Option Plan:=do
  let ps <- parts.mapM λp=>match p.2.2.ev tm with|some (.v v)=>some (p.1,p.2.1,v)|_=>none
  let cs <- fillA zero ps
  pure (.pure (.v (.agg cs)))
def p_bslice(sz:Nat)(n:Nat)(zero:List Cell)(parts:List (Nat×X))(heap:Bool)(tm:TM TVal):Option Plan:=do
  let ps <- parts.mapM λp=>match p.2.ev tm with|some (.v v)=>some (p.1*sz,sz,v)|_=>none
  let cs <- fillA (rep n zero) ps
  match (if heap then none else chunk sz n cs) with
  |some rows=>pure (.pure (.v (.c (.p (.slice sz true rows)))))
  |none=>pure (.mk1 (.cells cs 0) heap λr => .v (.c (.sref r 0 n (some n) sz)))
def p_load(agg:Bool)(n:Nat)(x:X)(tm:TM TVal):Option Plan:=match x.ev tm with
  |some (.v (.c (.ptr r off)))=>some (.read r λ| .cells cs _=>partOf agg n cs off|_=>none)
  |some (.v (.c (.p (.pptr row off))))=>(partOf agg n (pcells row) off).map .pure
  |_=>none
def p_store(n:Nat)(a:X)(v:X)(tm:TM TVal):Option Plan:=match a.ev tm,v.ev tm with
  |some (.v (.c (.ptr r off))),some (.v x)=>some (.write r λ
   |.cells cs imm=>if imm<=off/\x.cells.length=n/\off+n<=cs.length then some (.undef,.cells (splice cs off x.cells) imm) else none
   |_=>none)
  |_,_=>none
def p_nilck(x:X)(tm:TM TVal):Option Plan:=match x.ev tm with
  |some (.v (.c (.p .nilptr)))|some (.v (.c (.p .niliface)))|some (.v (.c (.p .nilfunc)))|some (.v (.c .junk))=>none
  |some v=>some (.pure v)
  |none=>none
def p_bin(op:BinOp)(kd:Nat)(x:X)(y:X)(tm:TM TVal):Option Plan:=match x.ev tm,y.ev tm with
  |some (.v (.c a)),some (.v (.c b))=>(binV op kd a b).map λc => .pure (.v (.c c))
  |some (.v (.agg a)),some (.v (.agg b))=>(binAgg op kd a b).map λc => .pure (.v (.c c))
  |_,_=>none
def p_un(op:UnOp)(x:X)(tm:TM TVal):Option Plan:=match x.ev tm with
  |some (.v (.c a))=>(unV op a).map λc => .pure (.v (.c c))
  |_=>none
def p_toInt(k:IntKind)(x:X)(tm:TM TVal):Option Plan:=match x.ev tm with
  |some (.v (.c (.p (.int _ n))))=>some (.pure (.pv (.int k (k.wrap n))))
  |_=>none
def p_toStr(x:X)(tm:TM TVal):Option Plan:=match x.ev tm with
  |some (.v (.c (.p .nilslice)))=>some (.pure (.pv (.str [])))
  |some (.v (.c (.p (.slice 1 _ rows))))|some (.v (.c (.tsl 1 rows _)))=>(bytesOfRows rows).map λs => .pure (.pv (.str s))
  |some (.v (.c (.sref r off len _ 1)))=>some (.read r λ
   |.cells cs _=>if off+len<=cs.length then (bytesOf ((cs.drop off).take len)).map λs => .pv (.str s) else none
   |_=>none)
  |_=>none
def p_toBytes(x:X)(tm:TM TVal):Option Plan:=match x.ev tm with
  |some (.v (.c (.p (.str s))))=>if s.length<=2 ^ 40 then some (.mk1 (.cells (byteCells s) 0) false λr => .v (.c (.sref r 0 s.length none 1))) else none
  |_=>none
def p_mkfn(f:FuncId)(caps:List X)(tm:TM TVal):Option Plan:=do
  let rs <- caps.mapM λx=>(x.ev tm).bind refOf
  pure (.pure (.v (.c (.func f rs))))
def p_mkmap  (tm:TM TVal):Option Plan:=some (.mk1 (.map [] 0) false λr => .v (.c (.mref r)))
def p_mkslice(sz:Nat)(bytes:Nat)(zero:List Cell)(len:X)(cap:X)(pu:Bool)(tm:TM TVal):Option Plan:=match (len.ev tm).bind asN,(cap.ev tm).bind asN with
  |some l,some c=>if l<=c/\c*bytes<=2 ^ 40/\c<=2 ^ 40 then (match (bif pu&&Nat.beq l c then chunk sz c (rep c zero) else none) with
   |some rows=>some (.pure (.v (.c (.p (.slice sz true rows)))))
   |none=>some (.mk1 (.cells (rep c zero) 0) false λr => .v (.c (.sref r 0 l (some c) sz)))) else none
  |_,_=>none
def p_slice(sz:Nat)(str:Bool)(x:X)(lo:Option X)(hi:Option X)(mx:Option X)(tm:TM TVal):Option Plan:=match x.ev tm,optN tm lo,optN tm hi,optN tm mx with
  |some (.v (.c a)),some l,some h,some m=>(sliceV sz str a l h m).map λc => .pure (.v (.c c))
  |_,_,_,_=>none
def p_sliceA(n:Nat)(sz:Nat)(x:X)(lo:Option X)(hi:Option X)(tm:TM TVal):Option Plan:=match x.ev tm,optN tm lo,optN tm hi with
  |some (.v (.c (.ptr r off))),some l,some h =>
   if l.getD 0<=h.getD n/\h.getD n<=n/\l.getD 0<n then some (.read r λ
    |.cells cs _=>if off+n*sz<=cs.length then some (.v (.c (.sref r (off+l.getD 0*sz) (h.getD n - l.getD 0) (some (n - l.getD 0)) sz))) else none
    |_=>none) else none
  |_,_,_=>none
def p_faddr(off:Nat)(x:X)(tm:TM TVal):Option Plan:=match x.ev tm with
  |some (.v (.c (.ptr r o)))=>some (.pure (.v (.c (.ptr r (o+off)))))
  |some (.v (.c (.p (.pptr row o))))=>some (.pure (.pv (.pptr row (o+off))))
  |_=>none
def p_field(off:Nat)(n:Nat)(agg:Bool)(x:X)(tm:TM TVal):Option Plan:=match x.ev tm with
  |some (.v (.agg cs))=>(partOf agg n cs off).map .pure
  |_=>none
def p_iaddr(sz:Nat)(x:X)(i:X)(tm:TM TVal):Option Plan:=match x.ev tm,(i.ev tm).bind asN with
  |some (.v (.c (.p (.slice sz' _ rows)))),some k =>
   if sz'=sz then (match rows[k]? with|some row=>some (.pure (.pv (.pptr row 0)))|none=>none) else none
  |some (.v (.c (.tsl sz' rows _))),some k =>
   if sz'=sz then (match rows[k]? with|some row=>some (.pure (.pv (.pptr row 0)))|none=>none) else none
  |some (.v (.c (.sref r off len _ sz'))),some k=>if sz'=sz/\k<len then some (.pure (.v (.c (.ptr r (off+k*sz))))) else none
  |_,_=>none
def p_iaddrA(n:Nat)(sz:Nat)(x:X)(i:X)(tm:TM TVal):Option Plan:=match x.ev tm,(i.ev tm).bind asN with
  |some (.v (.c (.ptr r off))),some k=>if k<n then some (.pure (.v (.c (.ptr r (off+k*sz))))) else none
  |some (.v (.c (.p (.pptr row off)))),some k=>if k<n then some (.pure (.pv (.pptr row (off+k*sz)))) else none
  |_,_=>none
def p_index(x:X)(i:X)(tm:TM TVal):Option Plan:=match x.ev tm,(i.ev tm).bind asN with
  |some (.v (.c (.p (.str s)))),some k=>match s[k]? with|some b=>some (.pure (.pv (.int .u8 b.toNat)))|none=>none
  |_,_=>none
def p_lookup(kk:Nat)(zero:Comp)(x:X)(i:X)(ok:Bool)(tm:TM TVal):Option Plan:=match x.ev tm,i.ev tm with
  |some (.v (.c (.p .nilmap))),some (.v (.c (.p _)))=>some (.pure (found zero ok none))
  |some (.v (.c (.p (.pmap es)))),some (.v (.c (.p key)))=>(findE kk key (es.map pmComp) 0).map λe => .pure (found zero ok e)
  |some (.v (.c (.mref r))),some (.v (.c (.p key)))=>some (.read r λ
   |.map es _=>(findE kk key (es.map λe=>(e.1,e.2.1)) 0).map (found zero ok)
   |_=>none)
  |_,_=>none
def p_mapup(kk:Nat)(m:X)(k:X)(v:X)(tm:TM TVal):Option Plan:=match m.ev tm,k.ev tm,v.ev tm with
  |some (.v (.c (.mref r))),some (.v (.c (.p key))),some (.v x)=>some (.write r λ
   |.map es clock=>match findE kk key (es.map λe=>(e.1,e.2.1)) 0 with
    |some (some (i,_))=>some (.undef,.map (es.modify i λe=>(key,x,e.2.2)) clock)
    |some none=>some (.undef,.map (es++[(key,x,clock)]) (clock+1))
    |none=>none
   |_=>none)
  |_,_,_=>none
def p_rangeS(x:X)(tm:TM TVal):Option Plan:=match x.ev tm with
  |some (.v (.c (.p (.str s))))=>some (.mk1 (.siter s 0) false λr => .v (.c (.ptr r 0)))
  |_=>none
def p_nextS(x:X)(tm:TM TVal):Option Plan:=match x.ev tm with
  |some (.v (.c (.ptr r 0)))=>some (.write r λ
   |.siter s pos=>if pos<s.length then
     let cw:=utf8At s pos
     some (.tup [.c (.p (.bool true)),.c (.p (.int .i64 pos)),.c (.p (.int .i32 cw.1))],.siter s (pos+cw.2))
    else some (.tup [.c (.p (.bool false))],.siter s pos)
   |_=>none)
  |_=>none
def p_extract(x:X)(i:Nat)(tm:TM TVal):Option Plan:=match x.ev tm with
  |some (.tup vs)=>match vs[i]? with|some v=>some (.pure (.v v))|none=>none
  |_=>none
def p_call(f:X)(args:List X)(tm:TM TVal):Option Plan:=match f.ev tm with
  |some (.v (.c (.func g caps)))=>do
   let as <- args.mapM λx=>x.ev tm
   pure (.call g (as++caps.map λr => .v (.c (.ptr r 0))))
  |_=>none
def p_len(kd:Nat)(x:X)(tm:TM TVal):Option Plan:=match kd,x.ev tm with
  |0,some (.v (.c (.p (.str s))))=>some (.pure (.pv (.int .i64 s.length)))
  |2,some (.v (.c (.p .nilslice)))=>some (.pure (.pv (.int .i64 0)))
  |2,some (.v (.c (.p (.slice _ _ rows))))|2,some (.v (.c (.tsl _ rows _)))=>some (.pure (.pv (.int .i64 rows.length)))
  |2,some (.v (.c (.sref _ _ len _ _)))=>some (.pure (.pv (.int .i64 len)))
  |3,some (.v (.c (.p .nilmap)))=>some (.pure (.pv (.int .i64 0)))
  |3,some (.v (.c (.p (.pmap es))))=>some (.pure (.pv (.int .i64 es.length)))
  |3,some (.v (.c (.mref r)))=>some (.read r λ| .map es _=>some (.pv (.int .i64 es.length))|_=>none)
  |_,_=>none
def p_cap(x:X)(tm:TM TVal):Option Plan:=match x.ev tm with
  |some (.v (.c (.p .nilslice)))=>some (.pure (.pv (.int .i64 0)))
  |some (.v (.c (.p (.slice _ true rows))))=>some (.pure (.pv (.int .i64 rows.length)))
  |some (.v (.c (.sref _ _ _ (some c) _)))=>some (.pure (.pv (.int .i64 c)))
  |_=>none
def p_append(sz:Nat)(bytes:Nat)(heap:Bool)(a:X)(b:X)(tm:TM TVal):Option Plan:=match a.ev tm,b.ev tm with
  |some x,some y=>some (.go (zipNeeds (dstRef x) (srcRef y)) λos=>do
   let (oa,ob) <- splitNeeds (dstRef x) (srcRef y) os
   let (new,n) <- srcCells sz y ob
   appendTo sz bytes heap x oa new n)
  |_,_=>none
def p_copy(sz:Nat)(a:X)(b:X)(tm:TM TVal):Option Plan:=match a.ev tm,b.ev tm with
  |some (.v (.c (.sref r off len cap sz'))),some y=>some (.go (zipNeeds (some r) (srcRef y)) λos=>do
   let (oa,ob) <- splitNeeds (some r) (srcRef y) os
   let (new,n) <- srcCells sz y ob
   match oa with
   |some (.cells cs imm) =>
    let m:=min n len
    if sz'=sz/\off+len*sz<=cs.length/\imm<=off then
     some ⟨λ_ => .pv (.int .i64 m),[(r,.cells (splice cs off (new.take (m*sz))) imm)],none,false⟩
    else none
   |_=>none)
  |_,_=>none
def p_minmax(mx:Bool)(xs:List X)(tm:TM TVal):Option Plan:=(minmaxV mx (xs.map λx=>x.ev tm)).map λv => .pure (.pv v)
def p_bad  (tm:TM TVal):Option Plan:=none
def plan2(op:AOp):TM TVal->Option Plan:=AOp.rec (motive:=λ_=>TM TVal->Option Plan) p_mv p_pick p_alloc p_box p_build p_bslice p_load p_store p_nilck p_bin p_un p_toInt p_toStr p_toBytes p_same p_mkfn p_mkmap p_mkslice p_slice p_sliceA p_faddr p_field p_iaddr p_iaddrA p_index p_lookup p_mapup p_rangeS p_nextS p_extract p_call p_len p_cap p_append p_copy p_minmax p_bad op
theorem qAZ(op:AOp)(tm:TM TVal):plan2 op tm=plan tm op:=by cases op <;> rfl
abbrev xev(tm:TM TVal)(x:X)(k:TVal->Option β):Option β:=X.rec (motive:=λ_=>Option β) (λn=>bnd (tm.get n) k) k x
theorem qAL(tm:TM TVal)(x:X)(k:TVal->Option β):xev tm x k=(x.ev tm).bind k:=by
 cases x with
 |t n=>exact qC4 _ _
 |k v=>rfl
def tcomp(v:TVal)(k:Comp->Option β):Option β:=TVal.rec (motive:=λ_=>Option β) k (λ_=>none) v
def tcell(v:TVal)(k:Cell->Option β):Option β:=TVal.rec (motive:=λ_=>Option β) (λc=>Comp.rec (motive:=λ_=>Option β) k (λ_=>none) c) (λ_=>none) v
def pvInt(v:PVal)(k:IntKind->Int->Option β):Option β:=match v with | .int a b=>k a b|_=>none
def cInt(c:Cell)(k:IntKind->Int->Option β):Option β:=match c with | .p v=>pvInt v k|_=>none
def natOf(z:Int)(k:Nat->Option β):Option β:=Int.rec (motive:=λ_=>Option β) k (λ_=>none) z
def xnat(tm:TM TVal)(x:X)(k:Nat->Option β):Option β:=xev tm x λv=>tcell v λc=>cInt c λ_ z=>natOf z k
def undead(o:AObj):Option AObj:=AObj.rec (motive:=λ_=>Option AObj) (λa b=>some (.cells a b)) (λa b=>some (.map a b)) (λa b=>some (.siter a b)) none o
def getF(h:Heap)(r:Ref):Option AObj:=Ref.rec (motive:=λ_=>Option AObj) (λi=>bnd (nthF h.ims i) undead) (λd g=>bnd (h.owns.get d) λp=>bif Nat.beq g p.1 then undead p.2 else none) r
def cellsOf(o:AObj)(k:List Cell->Nat->Option β):Option β:=AObj.rec (motive:=λ_=>Option β) k (λ_ _=>none) (λ_ _=>none) none o
def partF(agg:Bool)(n:Nat)(cs:List Cell)(off:Nat)(k:TVal->Option β):Option β :=
 Bool.rec (motive:=λ_=>Option β) (bnd (nthF cs off) λx=>k (.v (.c x))) ((λrow=>bif Nat.beq (lenF row) n then k (.v (.agg row)) else none) (takeF (dropF cs off) n)) agg
abbrev Go2(β:Type):=TM TVal->Heap->Nat->(TVal->Heap->Option β)->Option β
def f_mv(x:X):Go2 β:=λtm h _ k=>xev tm x λv=>k v h
def tagg(v:TVal)(k:List Cell->Option β):Option β:=TVal.rec (motive:=λ_=>Option β) (λc=>Comp.rec (motive:=λ_=>Option β) (λ_=>none) k c) (λ_=>none) v
def tbin(op:BinOp)(kd:Nat)(a b:TVal)(k:TVal->Option β):Option β:=TVal.rec (motive:=λ_=>Option β) (λc=>Comp.rec (motive:=λ_=>Option β)
 (λa=>tcell b λb=>bnd (binF op kd a b) λc=>k (.v (.c c))) (λas=>tagg b λbs=>bnd (binAgg op kd as bs) λc=>k (.v (.c c))) c) (λ_=>none) a
def f_bin(op:BinOp)(kd:Nat)(x y:X):Go2 β:=λtm h _ k=>xev tm x λa=>xev tm y λb=>tbin op kd a b λv=>k v h
def f_toInt(kd:IntKind)(x:X):Go2 β:=λtm h _ k=>xev tm x λa=>tcell a λa=>cInt a λ_ n=>k (.pv (.int kd (wrapF kd n))) h
def f_load(agg:Bool)(n:Nat)(x:X):Go2 β:=λtm h _ k=>xev tm x λa=>tcell a λa =>
 match a with
 |.ptr r off=>bnd (getF h r) λo=>cellsOf o λcs _=>partF agg n cs off λv=>k v h
 |.p (.pptr row off)=>partF agg n (pcells row) off λv=>k v h
 |_=>none
def f_store(n:Nat)(a v:X):Go2 β:=λtm h _ k=>xev tm a λa=>xev tm v λv=>tcell a λa=>tcomp v λx =>
 match a with
 |.ptr r off=>bnd (getF h r) λo=>cellsOf o λcs imm=>bif Nat.ble imm off&&(Nat.beq (lenF x.cells) n&&Nat.ble (Nat.add off n) (lenF cs)) then k .undef (h.put r (.cells (splice cs off x.cells) imm)) else none
 |_=>none
def f_field(off n:Nat)(agg:Bool)(x:X):Go2 β:=λtm h _ k=>xev tm x λa=>tcomp a λa=>Comp.rec (motive:=λ_=>Option β) (λ_=>none) (λcs=>partF agg n cs off λv=>k v h) a
def f_faddr(off:Nat)(x:X):Go2 β:=λtm h _ k=>xev tm x λa=>tcell a λa =>
 match a with
 |.ptr r o=>k (.v (.c (.ptr r (Nat.add o off)))) h
 |.p (.pptr row o)=>k (.pv (.pptr row (Nat.add o off))) h
 |_=>none
def f_iaddr(sz:Nat)(x i:X):Go2 β:=λtm h _ k=>xev tm x λa=>tcell a λa=>xnat tm i λn =>
 match a with
 |.p (.slice sz' _ rows)=>bif Nat.beq sz' sz then bnd (nthF rows n) λrow=>k (.pv (.pptr row 0)) h else none
 |.tsl sz' rows _=>bif Nat.beq sz' sz then bnd (nthF rows n) λrow=>k (.pv (.pptr row 0)) h else none
 |.sref r off len _ sz'=>bif Nat.beq sz' sz&&Nat.blt n len then k (.v (.c (.ptr r (Nat.add off (Nat.mul n sz))))) h else none
 |_=>none
def cstr(c:Cell)(k:List UInt8->Option β):Option β:=match c with | .p (.str s)=>k s|_=>none
def f_index(x i:X):Go2 β:=λtm h _ k=>xev tm x λa=>tcell a λa=>cstr a λs=>xnat tm i λn=>bnd (nthF s n) λb=>k (.pv (.int .u8 (.ofNat b.toNat))) h
def f_extract(x:X)(i:Nat):Go2 β:=λtm h _ k=>xev tm x λa=>TVal.rec (motive:=λ_=>Option β) (λ_=>none) (λvs=>bnd (nthF vs i) λv=>k (.v v) h) a
def f_len0(x:X):Go2 β:=λtm h _ k=>xev tm x λa=>tcell a λa=>cstr a λs=>k (.pv (.int .i64 (.ofNat (lenF s)))) h
def rowsOf(c:Cell)(k:Nat->Option β):Option β:=match c with
 |.p .nilslice=>k 0
 |.p (.slice _ _ rows)=>k (lenF rows)
 |.tsl _ rows _=>k (lenF rows)
 |.sref _ _ len _ _=>k len
 |_=>none
def f_len2(x:X):Go2 β:=λtm h _ k=>xev tm x λa=>tcell a λa=>rowsOf a λn=>k (.pv (.int .i64 (.ofNat n))) h
def goF(needs:List Ref)(pk:List AObj->Option Res)(d:Nat)(h:Heap)(k:TVal->Heap->Option β):Option β :=
 List.rec (motive:=λ_=>Option β)
  (bnd (pk []) λres=>Res.rec (motive:=λ_=>Option β) (λout ups new push=>List.rec (motive:=λ_=>Option β)
   (Option.rec (motive:=λ_=>Option β) (k (out (.own d 0)) h) (λo=>bif push then k (out (.im (lenF h.ims))) { h with ims:=h.ims++[o] } else (λg=>k (out (.own d g)) { h with owns:=h.owns.set (g,o) d }) (Nat.add (h.gen d) 1)) new) (λ_ _ _=>none) ups) res)
  (λr rs _=>bnd (goOp (r::rs) pk d h) λx=>k x.1 x.2.1) needs
def isP(c:Cell):Bool:=Cell.rec (motive:=λ_=>Bool) (λ_=>true) (λ_ _=>false) (λ_ _ _ _ _=>false) (λ_=>false) (λ_ _=>false) (λ_ _ _=>false) false c
def allB{α:Type}(p:α->Bool)(l:List α):Bool:=List.rec (motive:=λ_=>Bool) true (λa _ ih=>bif p a then ih else false) l
def pComp(c:Comp):Bool:=Comp.rec (motive:=λ_=>Bool) isP (allB isP) c
def pT(v:TVal):Bool:=TVal.rec (motive:=λ_=>Bool) pComp (allB pComp) v
def callF(O:Oracle)(f:FuncId)(args:List TVal)(d:Nat)(h:Heap)(k:TVal->Heap->Option β):Option β :=
 bif allB pT args then bnd (O f args []) λr=>Prod.rec (motive:=λ_=>Option β) (λv objs=>List.rec (motive:=λ_=>Option β) (bif pT v then k v h else bnd (callOp O f args d h) λx=>k x.1 x.2.1) (λ_ _ _=>bnd (callOp O f args d h) λx=>k x.1 x.2.1) objs) r
 else bnd (callOp O f args d h) λx=>k x.1 x.2.1
def dflt(O:Oracle)(p:TM TVal->Option Plan):Go2 β:=λtm h d k=>bnd (p tm) λp=>Plan.rec (motive:=λ_=>Option β) (λneeds pk=>goF needs pk d h k) (λf args=>callF O f args d h k) p
abbrev evAll(tm:TM TVal)(xs:List X)(k:List TVal->Option β):Option β:=List.rec (motive:=λ_=>(List TVal->Option β)->Option β) (λk=>k []) (λx _ ih k=>xev tm x λv=>ih λvs=>k (v::vs)) xs k
def f_call(O:Oracle)(f:X)(args:List X):Go2 β:=λtm h d k=>xev tm f λg=>tcell g λg =>
 match g with
 |.func g caps=>evAll tm args λas=>callF O g (List.rec (motive:=λ_=>List TVal) as (λ_ _ _=>as++caps.map λr => .v (.c (.ptr r 0))) caps) d h k
 |_=>none
def f_len(O:Oracle)(kd:Nat)(x:X):Go2 β:=Nat.rec (motive:=λ_=>Go2 β) (f_len0 x) (λm _=>Nat.rec (motive:=λ_=>Go2 β) (dflt O (p_len kd x)) (λm _=>Nat.rec (motive:=λ_=>Go2 β) (f_len2 x) (λ_ _=>dflt O (p_len kd x)) m) m) kd
def opK(O:Oracle)(op:AOp):Go2 β:=AOp.rec (motive:=λ_=>Go2 β)
 f_mv (λc a b=>dflt O (p_pick c a b)) (λz p=>dflt O (p_alloc z p)) (λx p=>dflt O (p_box x p)) (λz ps=>dflt O (p_build z ps)) (λsz n z ps hp=>dflt O (p_bslice sz n z ps hp))
 f_load f_store (λx=>dflt O (p_nilck x)) f_bin (λop x=>dflt O (p_un op x)) f_toInt (λx=>dflt O (p_toStr x)) (λx=>dflt O (p_toBytes x)) (λx=>dflt O (p_same x))
 (λf cs=>dflt O (p_mkfn f cs)) (dflt O p_mkmap) (λsz by' z l c pu=>dflt O (p_mkslice sz by' z l c pu)) (λsz s x lo hi mx=>dflt O (p_slice sz s x lo hi mx)) (λn sz x lo hi=>dflt O (p_sliceA n sz x lo hi))
 f_faddr f_field f_iaddr (λn sz x i=>dflt O (p_iaddrA n sz x i)) f_index (λkk z x i ok=>dflt O (p_lookup kk z x i ok)) (λkk m k v=>dflt O (p_mapup kk m k v))
 (λx=>dflt O (p_rangeS x)) (λx=>dflt O (p_nextS x)) f_extract (f_call O) (f_len O) (λx=>dflt O (p_cap x)) (λsz by' hp a b=>dflt O (p_append sz by' hp a b)) (λsz a b=>dflt O (p_copy sz a b))
 (λmx xs=>dflt O (p_minmax mx xs)) (λ_ _ _ _=>none) op
abbrev setD(tm:TM TVal)(dst:Option Nat)(v:TVal):TM TVal:=Option.rec (motive:=λ_=>TM TVal) tm (λd=>tm.set v d) dst
abbrev dstN(dst:Option Nat):Nat:=Option.rec (motive:=λ_=>Nat) 1000000 (λd=>d) dst
def doK(O:Oracle)(dst:Option Nat)(op:AOp)(st:St)(k:St->Option β):Option β:=opK O op st.tm st.h (dstN dst) λv h=>k ⟨setD st.tm dst v,h⟩
def cbool(c:Cell)(k:Bool->Option β):Option β:=match c with | .p (.bool b)=>k b|_=>none
def beqB(b w:Bool):Bool:=Bool.rec (motive:=λ_=>Bool) (Bool.not w) w b
def guardK(O:Oracle)(dst:Option Nat)(op:AOp)(g:Nat×Bool)(st:St)(k:St->Option β):Option β :=
 bnd (st.tm.get g.1) λv=>TVal.rec (motive:=λ_=>Option β)
  (λc=>Comp.rec (motive:=λ_=>Option β) (λc=>cbool c λb=>bif beqB b g.2 then doK O dst op st k else k ⟨setD st.tm dst .undef,st.h⟩) (λ_=>none) c)
  (λvs=>List.rec (motive:=λ_=>Option β) (k ⟨setD st.tm dst .undef,st.h⟩) (λ_ _ _=>none) vs) v
def stepK(O:Oracle)(o:AOper)(st:St)(k:St->Option β):Option β :=
 AOper.rec (motive:=λ_=>Option β) (λdst op guard=>Option.rec (motive:=λ_=>Option β) (doK O dst op st k) (λg=>guardK O dst op g st k) guard) o
def opsK(O:Oracle)(ops:List AOper):St->(St->Option β)->Option β :=
 List.rec (motive:=λ_=>St->(St->Option β)->Option β) (λst k=>k st) (λo _ ih st k=>stepK O o st λst'=>ih st' k) ops
def do2(O:Oracle)(o:AOper)(st:St):Option (St×Touch):=bnd (plan2 o.op st.tm) λp=>bnd (p.exec O (dstN o.dst) st.h) λx=>some ({ tm:=setD st.tm o.dst x.1,h:=x.2.1 },x.2.2)
def step2(O:Oracle)(o:AOper)(st:St):Option (St×Touch) :=
 match o.guard with
 |none=>do2 O o st
 |some (t,want)=>match st.tm.get t with
  |some (.v (.c (.p (.bool b))))=>bif beqB b want then do2 O o st else some ({ st with tm:=setD st.tm o.dst .undef },noTouch)
  |some (.tup [])=>some ({ st with tm:=setD st.tm o.dst .undef },noTouch)
  |_=>none
def ops2(O:Oracle)(ops:List AOper):St->Option (St×List Touch) :=
 List.rec (motive:=λ_=>St->Option (St×List Touch)) (λst=>some (st,[])) (λo _ ih st=>bnd (step2 O o st) λx=>bnd (ih x.1) λy=>some (y.1,x.2::y.2)) ops
def regK(O:Oracle)(ops:List AOper)(pairs:List (Nat×Nat))(st:St)(k:St->Option β):Option β :=
 List.rec (motive:=λ_=>Option β) (opsK O ops st k) (λ_ _ _=>bnd (ops2 O ops st) λx=>bif apartAll x.2 pairs then k x.1 else none) pairs
abbrev Run2(β:Type):=St->(AExit->St->Option β)->Option β
def runK(O:Oracle)(rec:ACode->Run2 β)(c:ACode):Run2 β:=ACode.rec (motive:=λ_=>Run2 β)
 (λst k=>k .norm st)
 (λops pairs st k=>regK O ops pairs st λst'=>k .norm st')
 (λ_ _ ra rb st k=>ra st λex st'=>AExit.rec (motive:=λ_=>Option β) (rb st' k) (λid=>k (.exit id) st') (k .ret st') ex)
 (λc _ _ ra rb st k=>xev st.tm c λv=>tcell v λc=>cbool c λb=>Bool.rec (motive:=λ_=>Option β) (rb st k) (ra st k) b)
 (λid _ r st k=>r st λex st'=>AExit.rec (motive:=λ_=>Option β) (k .norm st') (λj=>bif Nat.beq j id then k .norm st' else k (.exit j) st') (k .ret st') ex)
 (λc r st k=>r st λex st'=>AExit.rec (motive:=λ_=>Option β) (rec (.loop c) st' k) (λid=>k (.exit id) st') (k .ret st') ex)
 (λid st k=>k (.exit id) st)
 (λ_ r st k=>r st k)
 (λst k=>k .ret st)
 (λ_ _=>none) c
def runN(O:Oracle)(n:Nat):ACode->Run2 β:=Nat.rec (motive:=λ_=>ACode->Run2 β) (λ_ _ _=>none) (λ_ ih=>runK O ih) n
def resK(st:St)(r:ARes)(k:Comp->Option β):Option β :=
 ARes.rec (motive:=λ_=>Option β) (λn=>bnd (st.tm.get n) λv=>tcomp v k)
  (λn agg size=>bnd (st.tm.get n) λv=>tcell v λc=>match c with
   |.ptr r off=>bnd (getF st.h r) λo=>cellsOf o λcs _=>partF agg size cs off λv=>tcomp v k
   |_=>none) r
def resAll(st:St)(rs:List ARes)(k:List Comp->Option β):Option β:=List.rec (motive:=λ_=>(List Comp->Option β)->Option β) (λk=>k []) (λr _ ih k=>resK st r λv=>ih λvs=>k (v::vs)) rs k
def finK(F:AFunc)(st:St)(n:Nat):Option (TVal×List AObj) :=
 Nat.rec (motive:=λ_=>Option (TVal×List AObj)) (resAll st F.res λvs=>bif allB pComp vs then some (oneOf vs,[]) else finish F st 0) (λm _=>finish F st (m+1)) n
def argsK(vs:List TVal):Nat->TM TVal->TM TVal:=List.rec (motive:=λ_=>Nat->TM TVal->TM TVal) (λ_ tm=>tm) (λv _ ih i tm=>ih (Nat.succ i) (tm.set v i)) vs
def callK(O:Oracle)(n:Nat)(F:AFunc)(args:List TVal)(objs:List AObj):Option (TVal×List AObj) :=
 bif Nat.beq (lenF args) F.np then runN O n F.body { tm:=argsK args 0 .nil,h:={ ims:=objs,owns := .nil } } λex st=>AExit.rec (motive:=λ_=>Option (TVal×List AObj)) (finK F st (lenF objs)) (λ_=>none) (finK F st (lenF objs)) ex else none
def fullK(T:FuncId->Option AFunc)(S:Oracle)(n:Nat):Oracle :=
 Nat.rec (motive:=λ_=>Oracle) (λ_ _ _=>none) (λn ih f args objs=>Option.rec (motive:=λ_=>Option (TVal×List AObj)) (Option.rec (motive:=λ_=>Option (TVal×List AObj)) none (λF=>callK ih n F args objs) (T f)) some (S f args objs)) n
end
variable {β:Type}
theorem qAl{α:Type}{k k':IntKind}(x y:α):(bif keq k k' then x else y)=if k=k' then x else y:=by rw[qPd,Bool.cond_decide]
theorem qMS(k:IntKind)(m n:Nat)(hm:m<kLim k)(hn:n<kLim k):intBin .or k (.ofNat m) (.ofNat n)=some (.int k (.ofNat (Nat.lor m n))):=by
 have key:∀ b c:Nat,c<=b->m<2 ^ c->n<2 ^ c->(BitVec.ofInt b (Int.ofNat m) ||| BitVec.ofInt b (Int.ofNat n)).toNat=Nat.lor m n/\Nat.lor m n<2 ^ c:=by
  intro b c hbc h1 h2;have hb:(2:Nat) ^ c<=2 ^ b:=Nat.pow_le_pow_right (by decide) hbc;have e:Nat.lor m n<2 ^ c:=Nat.or_lt_two_pow h1 h2;refine⟨?_,e⟩;rw[BitVec.toNat_or,Int.ofNat_eq_natCast,Int.ofNat_eq_natCast,BitVec.ofInt_natCast,BitVec.ofInt_natCast,BitVec.toNat_ofNat,BitVec.toNat_ofNat,Nat.mod_eq_of_lt (by omega),Nat.mod_eq_of_lt (by omega)];rfl
 have fin:∀ c:Nat,c<=k.bits->m<2 ^ c->n<2 ^ c->(2:Nat) ^ c=kLim k->intBin .or k (.ofNat m) (.ofNat n)=some (.int k (.ofNat (Nat.lor m n))):=by
  intro c hc h1 h2 h3;obtain⟨e1,e2⟩:=key k.bits c hc h1 h2;unfold intBin;dsimp only;rw[e1,<- qAk];show some (PVal.int k (bif Nat.blt (Nat.lor m n) (kLim k) then Int.ofNat (Nat.lor m n) else _))=_;rw[qBZ,decide_eq_true (by omega)];rfl
 cases k
 ·exact fin 7 (by decide) hm hn rfl
 ·exact fin 15 (by decide) hm hn rfl
 ·exact fin 31 (by decide) hm hn rfl
 ·exact fin 63 (by decide) hm hn rfl
 ·exact fin 8 (by decide) hm hn rfl
 ·exact fin 16 (by decide) hm hn rfl
 ·exact fin 32 (by decide) hm hn rfl
 ·exact fin 64 (by decide) hm hn rfl
theorem qOg(k k':IntKind)(x y:Int):j_or k k' x y=if k=k' then (intBin .or k x y).map .p else none:=by
 unfold j_or;rw[qAl];split
 ·have hb:∀ o:Option PVal,(bnd o λv=>some (Cell.p v))=o.map .p:=λo=>by cases o <;> rfl
  rw[hb];cases x with
  |negSucc m=>rfl
  |ofNat m =>
   cases y with
   |negSucc n=>rfl
   |ofNat n =>
    show(Option.rec (motive:=λ_=>Option Cell) ((intBin .or k (.ofNat m) (.ofNat n)).map .p) (λn=>some (Cell.p (.int k (.ofNat n)))) (bif Nat.blt m (kLim k)&&Nat.blt n (kLim k) then some (Nat.lor m n) else none):Option Cell)=_;rw[qBZ,qBZ];by_cases h:m<kLim k/\n<kLim k
    ·rw[decide_eq_true h.1,decide_eq_true h.2,qMS k m n h.1 h.2]; rfl
    ·have:(decide (m<kLim k)&&decide (n<kLim k))=false:=by
      rw[<- Bool.decide_and]; exact decide_eq_false h
     rw[this]; rfl
 ·rfl
theorem qOw(op:BinOp)(kd:Nat)(k k':IntKind)(x y:Int):jBin op k k' x y=binV op kd (.p (.int k x)) (.p (.int k' y)):=by
 have hb:∀ o:Option PVal,(bnd o λv=>some (Cell.p v))=o.map .p:=λo=>by cases o <;> rfl
 have nt:∀ b:Bool,Bool.not b = !b:=λ_=>rfl
 cases op
 case or=>exact qOg k k' x y
 case shl=>exact hb _
 case shr=>exact hb _
 case quo =>
  show(bif keq k k' then (bif beqI y 0 then none else some (Cell.p (.int k (wrapF k (Int.tdiv x y))))) else none)=if k=k' then ((if y=0 then none else some (PVal.int k (k.wrap (x.tdiv y)))):Option PVal).map Cell.p else none
  rw[qAl,qBq,Bool.cond_decide,qAk];split <;> (try rfl)
  split <;> rfl
 case rem =>
  show(bif keq k k' then (bif beqI y 0 then none else some (Cell.p (.int k (Int.tmod x y)))) else none)=if k=k' then ((if y=0 then none else some (PVal.int k (x.tmod y))):Option PVal).map Cell.p else none
  rw[qAl,qBq,Bool.cond_decide];split <;> (try rfl)
  split <;> rfl
 case add=>show(bif keq k k' then some (Cell.p (.int k (wrapF k (x+y)))) else none)=if k=k' then some (Cell.p (.int k (k.wrap (x+y)))) else none; rw[qAl,qAk]
 case sub=>show(bif keq k k' then some (Cell.p (.int k (wrapF k (x - y)))) else none)=if k=k' then some (Cell.p (.int k (k.wrap (x - y)))) else none; rw[qAl,qAk]
 case mul=>show(bif keq k k' then some (Cell.p (.int k (wrapF k (x*y)))) else none)=if k=k' then some (Cell.p (.int k (k.wrap (x*y)))) else none; rw[qAl,qAk]
 case eql=>show(bif keq k k' then some (Cell.p (.bool (beqI x y))) else none)=if k=k' then some (Cell.p (.bool (x==y))) else none; rw[qAl,qBq]; rfl
 case neq=>show(bif keq k k' then some (Cell.p (.bool (!(beqI x y)))) else none)=if k=k' then some (Cell.p (.bool (!(x==y)))) else none; rw[qAl,qBq]; rfl
 case lss=>show(bif keq k k' then some (Cell.p (.bool (bltI x y))) else none)=if k=k' then some (Cell.p (.bool (decide (x<y)))) else none; rw[qAl,qBi]
 case leq=>show(bif keq k k' then some (Cell.p (.bool (!(bltI y x)))) else none)=if k=k' then some (Cell.p (.bool (decide (x<=y)))) else none; rw[qAl,qBi,<- decide_not]; simp only[Int.not_lt]
 case gtr=>show(bif keq k k' then some (Cell.p (.bool (bltI y x))) else none)=if k=k' then some (Cell.p (.bool (decide (x>y)))) else none; rw[qAl,qBi]
 case geq=>show(bif keq k k' then some (Cell.p (.bool (!(bltI x y)))) else none)=if k=k' then some (Cell.p (.bool (decide (x>=y)))) else none; rw[qAl,qBi,<- decide_not]; simp only[Int.not_lt,ge_iff_le]
 all_goals
  show(bif keq k k' then (bnd (intBin _ k x y) λv=>some (Cell.p v)) else none)=if k=k' then (intBin _ k x y).map .p else none
  rw[qAl,hb]
theorem qOi(op:BinOp)(kd:Nat)(x y:List UInt8):sBin op x y=binV op kd (.p (.str x)) (.p (.str y)):=by
 have hb:∀ o:Option PVal,(bnd o λv=>some (Cell.p v))=o.map .p:=λo=>by cases o <;> rfl
 cases op
 case add =>
  show(bif Nat.ble (lenF x+lenF y) 4611686018427387904 then some (Cell.p (.str (x++y))) else none)=(if x.length+y.length<=2 ^ 62 then some (PVal.str (x++y)) else none).map .p;rw[qAI,qAI];by_cases h:x.length+y.length<=2 ^ 62
  ·rw[if_pos h,show Nat.ble (x.length+y.length) 4611686018427387904=true from Nat.ble_eq_true_of_le h]; rfl
  ·rw[if_neg h];cases hb:Nat.ble (x.length+y.length) 4611686018427387904 with
   |true=>exact absurd (Nat.le_of_ble_eq_true hb) h
   |false=>rfl
 case eql=>show some (Cell.p (.bool (beqS x y)))=some (Cell.p (.bool (x==y))); rw[qD8]
 case neq=>show some (Cell.p (.bool (!(beqS x y))))=some (Cell.p (.bool (!(x==y)))); rw[qD8]
 case sub=>exact hb (strBin .sub x y)
 case mul=>exact hb (strBin .mul x y)
 case quo=>exact hb (strBin .quo x y)
 case rem=>exact hb (strBin .rem x y)
 case and=>exact hb (strBin .and x y)
 case or=>exact hb (strBin .or x y)
 case xor=>exact hb (strBin .xor x y)
 case shl=>exact hb (strBin .shl x y)
 case shr=>exact hb (strBin .shr x y)
 case andNot=>exact hb (strBin .andNot x y)
 case lss=>exact hb (strBin .lss x y)
 case leq=>exact hb (strBin .leq x y)
 case gtr=>exact hb (strBin .gtr x y)
 case geq=>exact hb (strBin .geq x y)
theorem qIX(op:BinOp)(kd:Nat)(x y:Cell):binF op kd x y=binV op kd x y:=by
 cases x with
 |p a =>
  cases y with
  |p b =>
   show pvBin op kd a b=_;cases a with
   |int k a=>cases b with
    |int k' b=>exact qOw op kd k k' a b
    |_=>rfl
   |str a=>cases b with
    |str b=>exact qOi op kd a b
    |_=>rfl
   |_=>rfl
  |_=>rfl
 |_=>rfl
theorem qLa(o:AObj):undead o=match o with | .dead=>none|o=>some o:=by cases o <;> rfl
theorem qA6(h:Heap)(r:Ref):getF h r=h.get r:=by
 cases r with
 |im i =>
  show bnd (nthF h.ims i) undead=match h.ims[i]? with|some .dead=>none|o=>o
  rw[qAc];cases h.ims[i]? with
  |none=>rfl
  |some o=>cases o <;> rfl
 |own d g =>
  show bnd (h.owns.get d) _=match h.owns.get d with|some (g',o)=>bif Nat.beq g g' then (match o with | .dead=>none|o=>some o) else none|none=>none
  cases h.owns.get d with
  |none=>rfl
  |some p=>obtain⟨g',o⟩:=p; show(bif Nat.beq g g' then undead o else none)=_; rw[qLa]
theorem qEe(agg:Bool)(n:Nat)(cs:List Cell)(off:Nat)(k:TVal->Option β):partF agg n cs off k=(partOf agg n cs off).bind k:=by
 cases agg with
 |false =>
  show bnd (nthF cs off) (λx=>k (.v (.c x)))=Option.bind (match cs[off]? with|some x=>some (TVal.v (.c x))|none=>none) k;rw[qAc]; cases cs[off]? <;> rfl
 |true =>
  show(bif Nat.beq (lenF (takeF (dropF cs off) n)) n then k (.v (.agg (takeF (dropF cs off) n))) else none)=Option.bind (if ((cs.drop off).take n).length=n then some (TVal.v (.agg ((cs.drop off).take n))) else none) k;rw[qAI,qBR,qBT,qAH,Bool.cond_decide];split <;> rfl
theorem qIW(tm:TM TVal)(x:X)(k:Nat->Option β):xnat tm x k=((x.ev tm).bind asN).bind k:=by
 unfold xnat;rw[qAL];cases x.ev tm with
 |none=>rfl
 |some v =>
  show tcell v _=(asN v).bind k;cases v with
  |tup vs=>rfl
  |v c=>cases c with
   |agg cs=>rfl
   |c c=>cases c with
    |p v=>cases v with
     |int kd z=>cases z with
      |ofNat n=>rfl
      |negSucc n=>rfl
     |_=>rfl
    |_=>rfl
noncomputable def slow(O:Oracle)(op:AOp)(tm:TM TVal)(h:Heap)(d:Nat):Option (TVal×Heap):=(plan tm op).bind λp=>(p.exec O d h).map λx=>(x.1,x.2.1)
def Fits(O:Oracle)(op:AOp)(f:Go2 β):Prop:=∀ tm h d k,f tm h d k=(slow O op tm h d).bind λx=>k x.1 x.2
theorem qFy(O:Oracle)(r:Ref)(pk:AObj->Option TVal)(d:Nat)(h:Heap):((Plan.read r pk).exec O d h).map (λx=>(x.1,x.2.1))=(h.get r).bind λo=>(pk o).map λv=>(v,h):=by
 show(goOp [r] _ d h).map _=_;unfold goOp;simp only[List.mapM_cons,List.mapM_nil];cases h.get r with
 |none=>rfl
 |some o =>
  cases hp:pk o with
  |none=>simp[hp]
  |some v=>simp[hp]
theorem qJh(O:Oracle)(r:Ref)(pk:AObj->Option (TVal×AObj))(d:Nat)(h:Heap):((Plan.write r pk).exec O d h).map (λx=>(x.1,x.2.1))=(h.get r).bind λo=>(pk o).map λv=>(v.1,h.put r v.2):=by
 show(goOp [r] _ d h).map _=_;unfold goOp;simp only[List.mapM_cons,List.mapM_nil];cases h.get r with
 |none=>rfl
 |some o =>
  cases hp:pk o with
  |none=>simp[hp]
  |some v=>simp[hp]
theorem qIM(O:Oracle)(x:X):Fits (β:=β) O (.mv x) (f_mv x):=by
 intro tm h d k;unfold f_mv slow;rw[qAL];show _=Option.bind (Option.bind ((x.ev tm).map Plan.pure) _) _;cases x.ev tm <;> rfl
theorem qEd(O:Oracle)(op:BinOp)(kd:Nat)(x y:X):Fits (β:=β) O (.bin op kd x y) (f_bin op kd x y):=by
 intro tm h d k;unfold f_bin slow;simp only[qAL];show _=Option.bind (Option.bind (match x.ev tm,y.ev tm with|some (.v (.c a)),some (.v (.c b))=>(binV op kd a b).map λc=>Plan.pure (.v (.c c))|some (.v (.agg a)),some (.v (.agg b))=>(binAgg op kd a b).map λc=>Plan.pure (.v (.c c))|_,_=>none) _) _;cases x.ev tm with
 |none=>cases y.ev tm <;> rfl
 |some a =>
  cases y.ev tm with
  |none=>cases a with
   |tup _=>rfl
   |v a=>cases a <;> rfl
  |some b =>
   cases a with
   |tup _=>rfl
   |v a=>cases a with
    |agg a=>cases b with
     |tup _=>rfl
     |v b=>cases b with
      |c _=>rfl
      |agg b =>
       show bnd (binAgg op kd a b) _=Option.bind (Option.bind ((binAgg op kd a b).map λc=>Plan.pure (.v (.c c))) _) _;cases binAgg op kd a b <;> rfl
    |c a=>cases b with
     |tup _=>rfl
     |v b=>cases b with
      |agg _=>rfl
      |c b =>
       show bnd (binF op kd a b) _=Option.bind (Option.bind ((binV op kd a b).map λc=>Plan.pure (.v (.c c))) _) _;rw[qIX];cases binV op kd a b <;> rfl
theorem qFB(O:Oracle)(kd:IntKind)(x:X):Fits (β:=β) O (.toInt kd x) (f_toInt kd x):=by
 intro tm h d k;unfold f_toInt slow;simp only[qAL,qAk];show _=Option.bind (Option.bind (match x.ev tm with|some (.v (.c (.p (.int _ n))))=>some (Plan.pure (.pv (.int kd (kd.wrap n))))|_=>none) _) _;cases x.ev tm with
 |none=>rfl
 |some a=>cases a with
  |tup _=>rfl
  |v a=>cases a with
   |agg _=>rfl
   |c a=>cases a with
    |p a=>cases a <;> rfl
    |_=>rfl
theorem qDl(O:Oracle)(agg:Bool)(n:Nat)(x:X):Fits (β:=β) O (.load agg n x) (f_load agg n x):=by
 intro tm h d k;unfold f_load slow;simp only[qAL,qEe,qA6]
 show _=Option.bind (Option.bind (match x.ev tm with
  |some (.v (.c (.ptr r off)))=>some (Plan.read r λ| .cells cs _=>partOf agg n cs off|_=>none)
  |some (.v (.c (.p (.pptr row off))))=>(partOf agg n (pcells row) off).map Plan.pure
  |_=>none) _) _
 cases x.ev tm with
 |none=>rfl
 |some a=>cases a with
  |tup _=>rfl
  |v a=>cases a with
   |agg _=>rfl
   |c a=>cases a with
    |p a=>cases a with
     |pptr row off =>
      show Option.bind (partOf agg n (pcells row) off) _=Option.bind (Option.bind ((partOf agg n (pcells row) off).map Plan.pure) _) _;cases partOf agg n (pcells row) off <;> rfl
     |_=>rfl
    |ptr r off =>
     show bnd (h.get r) _=Option.bind (((Plan.read r _).exec O d h).map _) _;rw[qFy];cases h.get r with
     |none=>rfl
     |some o=>cases o with
      |cells cs imm =>
       show Option.bind (partOf agg n cs off) _=Option.bind ((partOf agg n cs off).map _) _;cases partOf agg n cs off <;> rfl
      |_=>rfl
    |_=>rfl
theorem qB4(m n:Nat):Nat.ble m n=decide (m<=n):=by
 cases h:Nat.ble m n with
 |true=>exact(decide_eq_true (Nat.le_of_ble_eq_true h)).symm
 |false=>exact(decide_eq_false λc=>by rw[Nat.ble_eq_true_of_le c] at h; cases h).symm
theorem qFC(O:Oracle)(n:Nat)(a v:X):Fits (β:=β) O (.store n a v) (f_store n a v):=by
 intro tm h d k;unfold f_store slow;simp only[qAL,qA6,qAI]
 show _=Option.bind (Option.bind (match a.ev tm,v.ev tm with
  |some (.v (.c (.ptr r off))),some (.v x)=>some (Plan.write r λ
   |.cells cs imm=>if imm<=off/\x.cells.length=n/\off+n<=cs.length then some (.undef,.cells (splice cs off x.cells) imm) else none
   |_=>none)
  |_,_=>none) _) _
 cases a.ev tm with
 |none=>cases v.ev tm <;> rfl
 |some a =>
  cases v.ev tm with
  |none=>cases a with
   |tup _=>rfl
   |v a=>cases a with
    |agg _=>rfl
    |c a=>cases a <;> rfl
  |some v =>
   cases a with
   |tup _=>rfl
   |v a=>cases a with
    |agg _=>rfl
    |c a =>
     cases v with
     |tup _=>cases a <;> rfl
     |v x =>
      cases a with
      |ptr r off =>
       show bnd (h.get r) _=Option.bind (((Plan.write r _).exec O d h).map _) _;rw[qJh];cases h.get r with
       |none=>rfl
       |some o=>cases o with
        |cells cs imm =>
         show(bif Nat.ble imm off&&(Nat.beq x.cells.length n&&Nat.ble (off+n) cs.length) then _ else none)=Option.bind (Option.map _ (if _ then _ else none)) _;rw[qB4,qB4,qAH,<- Bool.decide_and,<- Bool.decide_and,Bool.cond_decide];by_cases hc:imm<=off/\x.cells.length=n/\off+n<=cs.length
         ·rw[if_pos hc,if_pos hc]; rfl
         ·rw[if_neg hc,if_neg hc]; rfl
        |_=>rfl
      |_=>rfl
theorem qEx(O:Oracle)(off n:Nat)(agg:Bool)(x:X):Fits (β:=β) O (.field off n agg x) (f_field off n agg x):=by
 intro tm h d k;unfold f_field slow;simp only[qAL,qEe]
 show _=Option.bind (Option.bind (match x.ev tm with
  |some (.v (.agg cs))=>(partOf agg n cs off).map Plan.pure
  |_=>none) _) _
 cases x.ev tm with
 |none=>rfl
 |some a=>cases a with
  |tup _=>rfl
  |v a=>cases a with
   |c _=>rfl
   |agg cs =>
    show Option.bind (partOf agg n cs off) _=Option.bind (Option.bind ((partOf agg n cs off).map Plan.pure) _) _;cases partOf agg n cs off <;> rfl
theorem qFH(O:Oracle)(off:Nat)(x:X):Fits (β:=β) O (.faddr off x) (f_faddr off x):=by
 intro tm h d k;unfold f_faddr slow;simp only[qAL]
 show _=Option.bind (Option.bind (match x.ev tm with
  |some (.v (.c (.ptr r o)))=>some (Plan.pure (.v (.c (.ptr r (o+off)))))
  |some (.v (.c (.p (.pptr row o))))=>some (.pure (.pv (.pptr row (o+off))))
  |_=>none) _) _
 cases x.ev tm with
 |none=>rfl
 |some a=>cases a with
  |tup _=>rfl
  |v a=>cases a with
   |agg _=>rfl
   |c a=>cases a with
    |p a=>cases a <;> rfl
    |_=>rfl
theorem qDJ(O:Oracle)(sz:Nat)(x i:X):Fits (β:=β) O (.iaddr sz x i) (f_iaddr sz x i):=by
 intro tm h d k;unfold f_iaddr slow;simp only[qAL,qIW,qAc]
 show _=Option.bind (Option.bind (match x.ev tm,(i.ev tm).bind asN with
  |some (.v (.c (.p (.slice sz' _ rows)))),some k =>
   if sz'=sz then (match rows[k]? with|some row=>some (Plan.pure (.pv (.pptr row 0)))|none=>none) else none
  |some (.v (.c (.tsl sz' rows _))),some k =>
   if sz'=sz then (match rows[k]? with|some row=>some (.pure (.pv (.pptr row 0)))|none=>none) else none
  |some (.v (.c (.sref r off len _ sz'))),some k=>if sz'=sz/\k<len then some (.pure (.v (.c (.ptr r (off+k*sz))))) else none
  |_,_=>none) _) _
 cases x.ev tm with
 |none=>rfl
 |some a=>cases a with
  |tup _=>rfl
  |v a=>cases a with
   |agg _=>rfl
   |c a =>
    cases (i.ev tm).bind asN with
    |none=>cases a with
     |p a=>cases a <;> rfl
     |_=>rfl
    |some m =>
     cases a with
     |p a=>cases a with
      |slice sz' t rows =>
       show(bif Nat.beq sz' sz then bnd rows[m]? _ else none)=Option.bind (Option.bind (if sz'=sz then _ else none) _) _;rw[qAH,Bool.cond_decide];split
       ·cases rows[m]? <;> rfl
       ·rfl
      |_=>rfl
     |tsl sz' rows r =>
      show(bif Nat.beq sz' sz then bnd rows[m]? _ else none)=Option.bind (Option.bind (if sz'=sz then _ else none) _) _;rw[qAH,Bool.cond_decide];split
      ·cases rows[m]? <;> rfl
      ·rfl
     |sref r off len cap sz' =>
      show(bif Nat.beq sz' sz&&Nat.blt m len then _ else none)=Option.bind (Option.bind (if sz'=sz/\m<len then _ else none) _) _;rw[qAH,qBZ,<- Bool.decide_and,Bool.cond_decide];split <;> rfl
     |_=>rfl
theorem qFN(O:Oracle)(x i:X):Fits (β:=β) O (.index x i) (f_index x i):=by
 intro tm h d k;unfold f_index slow;simp only[qAL,qIW,qAc]
 show _=Option.bind (Option.bind (match x.ev tm,(i.ev tm).bind asN with
  |some (.v (.c (.p (.str s)))),some k=>match s[k]? with|some b=>some (Plan.pure (.pv (.int .u8 b.toNat)))|none=>none
  |_,_=>none) _) _
 cases x.ev tm with
 |none=>rfl
 |some a=>cases a with
  |tup _=>rfl
  |v a=>cases a with
   |agg _=>rfl
   |c a=>cases a with
    |p a=>cases a with
     |str s =>
      cases (i.ev tm).bind asN with
      |none=>rfl
      |some m =>
       show bnd s[m]? _=Option.bind (Option.bind (match s[m]? with|some b=>_|none=>none) _) _;cases s[m]? <;> rfl
     |_=>rfl
    |_=>rfl
theorem qDm(O:Oracle)(x:X)(i:Nat):Fits (β:=β) O (.extract x i) (f_extract x i):=by
 intro tm h d k;unfold f_extract slow;simp only[qAL,qAc]
 show _=Option.bind (Option.bind (match x.ev tm with
  |some (.tup vs)=>match vs[i]? with|some v=>some (Plan.pure (.v v))|none=>none
  |_=>none) _) _
 cases x.ev tm with
 |none=>rfl
 |some a=>cases a with
  |v _=>rfl
  |tup vs =>
   show bnd vs[i]? _=Option.bind (Option.bind (match vs[i]? with|some v=>_|none=>none) _) _;cases vs[i]? <;> rfl
theorem qIm{c:Cell}(h:isP c=true):∃ v,c = .p v:=by
 cases c with
 |p v=>exact⟨v,rfl⟩
 |_=>cases h
theorem qAj{α:Type}{p:α->Bool}{a:α}{l:List α}(h:allB p (a::l)=true):p a=true/\allB p l=true:=by
 have h':(bif p a then allB p l else false)=true:=h;cases hp:p a with
 |false=>rw[hp] at h'; cases h'
 |true=>rw[hp] at h'; exact⟨rfl,h'⟩
theorem qON:∀ {cs:List Cell},allB isP cs=true->∃ ps:List PVal,cs=ps.map .p:=by
 intro cs
 induction cs with
 |nil=>intro _; exact⟨[],rfl⟩
 |cons c cs ih =>
  intro h;obtain⟨h1,h2⟩:=qAj h;obtain⟨v,rfl⟩:=qIm h1;obtain⟨ps,rfl⟩:=ih h2;exact⟨v::ps,rfl⟩
theorem qEH{c:Comp}(h:pComp c=true):c.refs=[]/\c.strip=c/\(∀ σ,c.ren σ=c)/\∀ hp:Heap,freezeC hp c=some (c,[]):=by
 cases c with
 |c x =>
  obtain⟨v,rfl⟩:=qIm h;exact⟨rfl,rfl,λ_=>rfl,λ_=>rfl⟩
 |agg cs =>
  obtain⟨ps,rfl⟩:=qON h;refine⟨?_,?_,?_,?_⟩
  ·show(ps.map Cell.p).flatMap Cell.refs=[]
   induction ps with
   |nil=>rfl
   |cons p ps ih=>simp[Cell.refs]
  ·show Comp.agg ((ps.map Cell.p).map Cell.strip)=_;rw[List.map_map]; rfl
  ·intro σ;show Comp.agg ((ps.map Cell.p).map (Cell.ren σ))=_;rw[List.map_map]; rfl
  ·intro hp;have key:∀ qs:List PVal,(qs.map Cell.p).mapM (freeze hp fuelFreeze)=some (qs.map λq=>(q,[])):=by
    intro qs
    induction qs with
    |nil=>rfl
    |cons q qs ih =>
     rw[List.map_cons,List.mapM_cons,ih];rfl
   show((ps.map Cell.p).mapM (freeze hp fuelFreeze)).map _=_;rw[key];simp only[Option.map_some,List.map_map]
   congr 2
   ·simp[List.flatMap_map]
theorem qAU{v:TVal}(h:pT v=true):v.refs=[]/\v.strip=v/\(∀ σ,v.ren σ=v)/\∀ hp:Heap,freezeT hp v=some (v,[]):=by
 cases v with
 |v c =>
  obtain⟨a,b,c',d⟩:=qEH (c:=c) h;exact⟨a,congrArg TVal.v b,λσ=>congrArg TVal.v (c' σ),λhp=>by show(freezeC hp c).map _=_; rw[d]; rfl⟩
 |tup vs =>
  have key:∀ vs:List Comp,allB pComp vs=true->vs.flatMap Comp.refs=[]/\vs.map Comp.strip=vs/\(∀ σ,vs.map (Comp.ren σ)=vs)/\∀ hp:Heap,vs.mapM (freezeC hp)=some (vs.map λx=>(x,[])):=by
   intro vs
   induction vs with
   |nil=>intro _; exact⟨rfl,rfl,λ_=>rfl,λ_=>rfl⟩
   |cons c vs ih =>
    intro h;obtain⟨h1,h2⟩:=qAj h;obtain⟨a1,a2,a3,a4⟩:=qEH h1;obtain⟨b1,b2,b3,b4⟩:=ih h2;refine⟨by rw[List.flatMap_cons,a1,b1]; rfl,by rw[List.map_cons,a2,b2],λσ=>by rw[List.map_cons,a3,b3],λhp => ?_⟩;rw[List.mapM_cons,a4,b4];rfl
  obtain⟨a,b,c,d⟩:=key vs h;refine⟨a,congrArg TVal.tup b,λσ=>congrArg TVal.tup (c σ),λhp => ?_⟩;show(vs.mapM (freezeC hp)).map _=_;rw[d];simp only[Option.map_some,List.map_map]
  congr 2
  ·congr 1; exact List.map_id'' (λ_=>rfl) vs
  ·simp[List.flatMap_map]
theorem qFZ:∀ {args:List TVal},allB pT args=true->args.map TVal.strip=args/\args.flatMap TVal.refs=[]/\∀ σ,args.map (TVal.ren σ)=args:=by
 intro args
 induction args with
 |nil=>intro _; exact⟨rfl,rfl,λ_=>rfl⟩
 |cons v vs ih =>
  intro h;obtain⟨h1,h2⟩:=qAj h;obtain⟨a1,a2,a3,_⟩:=qAU h1;obtain⟨b1,b2,b3⟩:=ih h2;exact⟨by rw[List.map_cons,a2,b1],by rw[List.flatMap_cons,a1,b2]; rfl,λσ=>by rw[List.map_cons,a3,b3]⟩
theorem qBG(O:Oracle)(f:FuncId)(args:List TVal)(d:Nat)(h:Heap)(k:TVal->Heap->Option β):callF O f args d h k=(callOp O f args d h).bind λx=>k x.1 x.2.1:=by
 unfold callF;cases hp:allB pT args with
 |false=>exact qC4 _ _
 |true =>
  obtain⟨e1,e2,e3⟩:=qFZ hp;have hc:callOp O f args d h=match O f args [] with
    |none=>none
    |some (v,objs')=>callOp O f args d h:=by
   cases hO:O f args [] with
   |none =>
    unfold callOp;simp only[e1,e2];rw[show reach h fuelReach [] []=[] from rfl];simp only[List.mapM_nil,List.map_nil,e3,hO,Option.pure_def]
   |some r=>rfl
  show bnd (O f args []) _=_;cases hO:O f args [] with
  |none=>rw[hc,hO]; rfl
  |some r =>
   obtain⟨v,objs⟩:=r;cases objs with
   |cons o os =>
    show bnd (callOp O f args d h) (λx=>k x.1 x.2.1)=_;exact qC4 _ _
   |nil =>
    show(bif pT v then k v h else _)=_;cases hv:pT v with
    |false =>
     show bnd (callOp O f args d h) (λx=>k x.1 x.2.1)=_;exact qC4 _ _
    |true =>
     obtain⟨v1,v2,v3,_⟩:=qAU hv;unfold callOp;simp only[e1,e2];rw[show reach h fuelReach [] []=[] from rfl];simp only[List.mapM_nil,List.map_nil,e3,hO,Option.pure_def,v3];rfl
theorem qPk(needs:List Ref)(pk:List AObj->Option Res)(d:Nat)(h:Heap)(k:TVal->Heap->Option β):goF needs pk d h k=(goOp needs pk d h).bind λx=>k x.1 x.2.1:=by
 cases needs with
 |cons r rs=>exact qC4 _ _
 |nil =>
  unfold goF goOp;simp only[List.mapM_nil,Option.pure_def];cases pk [] with
  |none=>rfl
  |some res =>
   obtain⟨out,ups,new,push⟩:=res;cases ups with
   |cons u us=>rfl
   |nil =>
    cases new with
    |none=>rfl
    |some o =>
     show(bif push then k (out (.im (lenF h.ims))) { h with ims:=h.ims++[o] } else _)=_;rw[qAI];cases push <;> rfl
theorem qIf(O:Oracle)(op:AOp)(p:TM TVal->Option Plan)(hp:∀ tm,p tm=plan tm op):Fits (β:=β) O op (dflt O p):=by
 intro tm h d k;unfold dflt slow;rw[hp];cases plan tm op with
 |none=>rfl
 |some p=>cases p with
  |go needs pk =>
   show goF needs pk d h k=Option.bind ((goOp needs pk d h).map _) _;rw[qPk];cases goOp needs pk d h <;> rfl
  |call f args =>
   show callF O f args d h k=Option.bind ((callOp O f args d h).map _) _;rw[qBG];cases callOp O f args d h <;> rfl
theorem qHD(tm:TM TVal):∀ (xs:List X) (k:List TVal->Option β),evAll tm xs k=(xs.mapM λx=>X.ev tm x).bind k:=by
 intro xs
 induction xs with
 |nil=>intro k; rfl
 |cons x xs ih =>
  intro k;show xev tm x (λv=>evAll tm xs λvs=>k (v::vs))=_;rw[qAL,List.mapM_cons];cases x.ev tm with
  |none=>rfl
  |some v =>
   show evAll tm xs (λvs=>k (v::vs))=_;rw[ih];cases xs.mapM λx=>X.ev tm x <;> rfl
theorem qGP(O:Oracle)(f:X)(args:List X):Fits (β:=β) O (.call f args) (f_call O f args):=by
 intro tm h d k;unfold f_call slow;simp only[qAL,qHD]
 show _=Option.bind (Option.bind (match f.ev tm with
  |some (.v (.c (.func g caps)))=>(args.mapM λx=>X.ev tm x).bind λas=>some (Plan.call g (as++caps.map λr => .v (.c (.ptr r 0))))
  |_=>none) _) _
 cases f.ev tm with
 |none=>rfl
 |some a=>cases a with
  |tup _=>rfl
  |v a=>cases a with
   |agg _=>rfl
   |c a=>cases a with
    |func g caps =>
     show Option.bind (args.mapM λx=>X.ev tm x) _=Option.bind (Option.bind (Option.bind (args.mapM λx=>X.ev tm x) _) _) _;cases args.mapM λx=>X.ev tm x with
     |none=>rfl
     |some as =>
      show callF O g _ d h k=Option.bind ((callOp O g (as++caps.map λr => .v (.c (.ptr r 0))) d h).map _) _;rw[qBG];have:(List.rec (motive:=λ_=>List TVal) as (λ_ _ _=>as++caps.map λr=>TVal.v (.c (.ptr r 0))) caps:List TVal)=as++caps.map λr => .v (.c (.ptr r 0)):=by
       cases caps with
       |nil=>exact(List.append_nil as).symm
       |cons r rs=>rfl
      rw[this];cases callOp O g (as++caps.map λr => .v (.c (.ptr r 0))) d h <;> rfl
    |_=>rfl
theorem qMz(O:Oracle)(kd:Nat)(x:X):Fits (β:=β) O (.len kd x) (f_len O kd x):=by
 have hd:∀ kd,Fits (β:=β) O (.len kd x) (dflt O (p_len kd x)):=λkd=>qIf O _ _ λ_=>rfl
 match kd with
 |0 =>
  intro tm h d k;show f_len0 x tm h d k=_;unfold f_len0 slow;simp only[qAL,qAI,plan];cases x.ev tm with
  |none=>rfl
  |some a=>cases a with
   |tup _=>rfl
   |v a=>cases a with
    |agg _=>rfl
    |c a=>cases a with
     |p a=>cases a <;> rfl
     |_=>rfl
 |1=>exact hd 1
 |2 =>
  intro tm h d k;show f_len2 x tm h d k=_;unfold f_len2 slow;simp only[qAL,plan];cases x.ev tm with
  |none=>rfl
  |some a=>cases a with
   |tup _=>rfl
   |v a=>cases a with
    |agg _=>rfl
    |c a=>cases a with
     |p a=>cases a with
      |slice sz t rows=>show k (.pv (.int .i64 (.ofNat (lenF rows)))) h=_; rw[qAI]; rfl
      |_=>rfl
     |tsl sz rows r=>show k (.pv (.int .i64 (.ofNat (lenF rows)))) h=_; rw[qAI]; rfl
     |_=>rfl
 |m+3=>exact hd (m+3)
theorem qAn(O:Oracle)(op:AOp):Fits (β:=β) O op (opK O op):=by
 have hd:∀ op,Fits (β:=β) O op (dflt O (plan2 op)):=λop=>qIf O _ _ (qAZ op)
 cases op
 case mv=>exact qIM O _
 case load=>exact qDl O _ _ _
 case store=>exact qFC O _ _ _
 case bin=>exact qEd O _ _ _ _
 case toInt=>exact qFB O _ _
 case faddr=>exact qFH O _ _
 case field=>exact qEx O _ _ _ _
 case iaddr=>exact qDJ O _ _ _
 case index=>exact qFN O _ _
 case extract=>exact qDm O _ _
 case call=>exact qGP O _ _
 case len=>exact qMz O _ _
 case bad=>intro tm h d k; rfl
 all_goals exact hd _
theorem qAy(tm:TM TVal)(dst:Option Nat)(v:TVal):setD tm dst v=setDst tm dst v:=by cases dst <;> rfl
theorem qC5(dst:Option Nat):dstN dst=dst.getD 1000000:=by cases dst <;> rfl
theorem qBj(b w:Bool):beqB b w=(b==w):=by cases b <;> cases w <;> rfl
theorem qLj(O:Oracle)(dst:Option Nat)(op:AOp)(gd:Option (Nat×Bool))(st:St)(k:St->Option β):doK O dst op st k=(doOp O ⟨dst,op,gd⟩ st).bind λx=>k x.1:=by
 unfold doK doOp;rw[qAn,slow,qC5];dsimp only;cases plan st.tm op with
 |none=>rfl
 |some p =>
  show Option.bind ((p.exec O (dst.getD 1000000) st.h).map _) _=Option.bind (match p.exec O (dst.getD 1000000) st.h with|none=>none|some (v,h,t)=>_) _;cases p.exec O (dst.getD 1000000) st.h with
  |none=>rfl
  |some x=>obtain⟨v,h,t⟩:=x; show k _=k _; rw[qAy]
theorem qPe(O:Oracle)(o:AOper)(st:St):do2 O o st=doOp O o st:=by
 unfold do2 doOp;rw[qAZ,qC5];cases plan st.tm o.op with
 |none=>rfl
 |some p =>
  show bnd (p.exec O (o.dst.getD 1000000) st.h) _=match p.exec O (o.dst.getD 1000000) st.h with|none=>none|some (v,h,t)=>_
  cases p.exec O (o.dst.getD 1000000) st.h with
  |none=>rfl
  |some x=>obtain⟨v,h,t⟩:=x; show some _=some _; rw[qAy]
theorem qM6(O:Oracle)(o:AOper)(st:St)(k:St->Option β):stepK O o st k=(stepOp O o st).bind λx=>k x.1:=by
 obtain⟨dst,op,gd⟩:=o;cases gd with
 |none=>exact qLj O dst op none st k
 |some g =>
  obtain⟨t,want⟩:=g;show guardK O dst op (t,want) st k=_;unfold guardK stepOp;dsimp only;cases st.tm.get t with
  |none=>rfl
  |some v=>cases v with
   |tup vs=>cases vs with
    |nil=>show k _=k _; rw[qAy]
    |cons _ _=>rfl
   |v c=>cases c with
    |agg _=>rfl
    |c c=>cases c with
     |p v=>cases v with
      |bool b =>
       show(bif beqB b want then doK O dst op st k else k ⟨setD st.tm dst .undef,st.h⟩)=Option.bind (bif b==want then _ else _) _;rw[qBj];cases b==want with
       |true=>exact qLj O dst op (some (t,want)) st k
       |false=>show k _=k _; rw[qAy]
      |_=>rfl
     |_=>rfl
theorem qNS(O:Oracle)(o:AOper)(st:St):step2 O o st=stepOp O o st:=by
 unfold step2 stepOp;simp only[qPe,qAy,qBj];rfl
theorem qPB(O:Oracle):∀ (ops:List AOper) (st:St) (k:St->Option β),opsK O ops st k=(runOps O ops st).bind λx=>k x.1:=by
 intro ops
 induction ops with
 |nil=>intro st k; rfl
 |cons o os ih =>
  intro st k;show stepK O o st (λst'=>opsK O os st' k)=_;rw[qM6];unfold runOps;cases stepOp O o st with
  |none=>rfl
  |some x =>
   obtain⟨st',t⟩:=x;show opsK O os st' k=Option.bind (match runOps O os st' with|none=>none|some (st'',ts)=>some (st'',t::ts)) _;rw[ih];cases runOps O os st' <;> rfl
theorem qPF(O:Oracle):∀ (ops:List AOper) (st:St),ops2 O ops st=runOps O ops st:=by
 intro ops
 induction ops with
 |nil=>intro st; rfl
 |cons o os ih =>
  intro st;show bnd (step2 O o st) (λx=>bnd (ops2 O os x.1) λy=>some (y.1,x.2::y.2))=_;rw[qNS];unfold runOps;cases stepOp O o st with
  |none=>rfl
  |some x =>
   obtain⟨st',t⟩:=x;show bnd (ops2 O os st') _=match runOps O os st' with|none=>none|some (st'',ts)=>some (st'',t::ts)
   rw[ih];cases runOps O os st' <;> rfl
theorem qOC(O:Oracle)(ops:List AOper)(pairs:List (Nat×Nat))(st:St)(k:St->Option β):regK O ops pairs st k=(runReg O ops pairs st).bind k:=by
 unfold runReg;cases pairs with
 |nil =>
  show opsK O ops st k=_;rw[qPB];cases runOps O ops st <;> rfl
 |cons p ps =>
  show bnd (ops2 O ops st) (λx=>bif apartAll x.2 (p::ps) then k x.1 else none)=_;rw[qPF];cases runOps O ops st with
  |none=>rfl
  |some x =>
   obtain⟨st',ts⟩:=x;show(bif apartAll ts (p::ps) then k st' else none)=Option.bind (bif apartAll ts (p::ps) then some st' else none) k;cases apartAll ts (p::ps) <;> rfl
theorem qOO(O:Oracle)(rec:ACode->St->Option (AExit×St))(recK:ACode->Run2 β)(hr:∀ c st k,recK c st k=(rec c st).bind λx=>k x.1 x.2):∀ (c:ACode) (st:St) (k:AExit->St->Option β),runK O recK c st k=(runF O rec c st).bind λx=>k x.1 x.2:=by
 intro c
 induction c with
 |skip=>intro st k; rfl
 |reg ops pairs =>
  intro st k;show regK O ops pairs st (λst'=>k .norm st')=Option.bind (match runReg O ops pairs st with|some st'=>some (AExit.norm,st')|none=>none) _;rw[qOC];cases runReg O ops pairs st <;> rfl
 |seq a b iha ihb =>
  intro st k;show runK O recK a st _=Option.bind (match runF O rec a st with|some (.norm,st')=>runF O rec b st'|r=>r) _;rw[iha];cases runF O rec a st with
  |none=>rfl
  |some x =>
   obtain⟨ex,st'⟩:=x;cases ex with
   |norm=>exact ihb st' k
   |exit _=>rfl
   |ret=>rfl
 |cond c a b iha ihb =>
  intro st k
  show xev st.tm c _=Option.bind (match c.ev st.tm with
   |some (.v (.c (.p (.bool true))))=>runF O rec a st
   |some (.v (.c (.p (.bool false))))=>runF O rec b st
   |_=>none) _
  rw[qAL];cases c.ev st.tm with
  |none=>rfl
  |some v=>cases v with
   |tup _=>rfl
   |v c=>cases c with
    |agg _=>rfl
    |c c=>cases c with
     |p v=>cases v with
      |bool b=>cases b with
       |true=>exact iha st k
       |false=>exact ihb st k
      |_=>rfl
     |_=>rfl
 |block id c ih =>
  intro st k
  show runK O recK c st _=Option.bind (match runF O rec c st with
   |some (.exit j,st')=>bif Nat.beq j id then some (AExit.norm,st') else some (AExit.exit j,st')
   |r=>r) _
  rw[ih];cases runF O rec c st with
  |none=>rfl
  |some x =>
   obtain⟨ex,st'⟩:=x;cases ex with
   |norm=>rfl
   |ret=>rfl
   |exit j =>
    show(bif Nat.beq j id then k .norm st' else k (.exit j) st')=Option.bind (bif Nat.beq j id then some (AExit.norm,st') else some (AExit.exit j,st')) _;cases Nat.beq j id <;> rfl
 |loop c ih =>
  intro st k;show runK O recK c st _=Option.bind (match runF O rec c st with|some (.norm,st')=>rec (.loop c) st'|r=>r) _;rw[ih];cases runF O rec c st with
  |none=>rfl
  |some x =>
   obtain⟨ex,st'⟩:=x;cases ex with
   |norm=>exact hr _ _ _
   |exit _=>rfl
   |ret=>rfl
 |exit id=>intro st k; rfl
 |scope c ih=>intro st k; exact ih st k
 |ret=>intro st k; rfl
 |bad=>intro st k; rfl
theorem qO4(O:Oracle):∀ (n:Nat) (c:ACode) (st:St) (k:AExit->St->Option β),runN O n c st k=(run O n c st).bind λx=>k x.1 x.2:=by
 intro n
 induction n with
 |zero=>intro c st k; rfl
 |succ n ih=>intro c st k; exact qOO O (run O n) (runN O n) ih c st k
theorem qIK(st:St)(r:ARes)(k:Comp->Option β):resK st r k=(getRes st r).bind k:=by
 cases r with
 |t n =>
  show bnd (st.tm.get n) (λv=>tcomp v k)=Option.bind (match st.tm.get n with|some (.v x)=>some x|_=>none) k;cases st.tm.get n with
  |none=>rfl
  |some v=>cases v <;> rfl
 |cell n agg size =>
  show bnd (st.tm.get n) _=Option.bind (match st.tm.get n with
   |some (.v (.c (.ptr r off)))=>match st.h.get r with
    |some (.cells cs _)=>match partOf agg size cs off with|some (.v x)=>some x|_=>none
    |_=>none
   |_=>none) k
  cases st.tm.get n with
  |none=>rfl
  |some v=>cases v with
   |tup _=>rfl
   |v c=>cases c with
    |agg _=>rfl
    |c c=>cases c with
     |ptr r off =>
      show bnd (getF st.h r) (λo=>cellsOf o λcs _=>partF agg size cs off λv=>tcomp v k)=Option.bind (match st.h.get r with
       |some (.cells cs _)=>match partOf agg size cs off with|some (.v x)=>some x|_=>none
       |_=>none) k
      rw[qA6];cases st.h.get r with
      |none=>rfl
      |some o=>cases o with
       |cells cs imm =>
        show partF agg size cs off (λv=>tcomp v k)=Option.bind (match partOf agg size cs off with|some (.v x)=>some x|_=>none) k;rw[qEe];cases partOf agg size cs off with
        |none=>rfl
        |some v=>cases v <;> rfl
       |_=>rfl
     |_=>rfl
theorem qLV(st:St):∀ (rs:List ARes) (k:List Comp->Option β),resAll st rs k=(rs.mapM (getRes st)).bind k:=by
 intro rs
 induction rs with
 |nil=>intro k; rfl
 |cons r rs ih =>
  intro k;show resK st r (λv=>resAll st rs λvs=>k (v::vs))=_;rw[qIK,List.mapM_cons];cases getRes st r with
  |none=>rfl
  |some v =>
   show resAll st rs (λvs=>k (v::vs))=_;rw[ih];cases rs.mapM (getRes st) <;> rfl
theorem qBk{vs:List Comp}(h:allB pComp vs=true):pT (oneOf vs)=true:=by
 match vs,h with
 |[],_=>rfl
 |[x],h=>exact(qAj h).1
 |x::y::zs,h=>exact h
theorem qHh(F:AFunc)(st:St){vs:List Comp}(h:F.res.mapM (getRes st)=some vs)(hp:allB pComp vs=true):finish F st 0=some (oneOf vs,[]):=by
 obtain⟨e1,_,e3,e4⟩:=qAU (qBk hp);unfold finish;rw[h];dsimp only;rw[e4];cases F.frz <;> simp[e1,e3,ims,settle,reach,fuelReach]
theorem qIn(F:AFunc)(st:St)(n:Nat):finK F st n=finish F st n:=by
 cases n with
 |succ m=>rfl
 |zero =>
  show resAll st F.res _=_;rw[qLV];cases h:F.res.mapM (getRes st) with
  |none=>unfold finish; rw[h]; rfl
  |some vs =>
   show(bif allB pComp vs then some (oneOf vs,[]) else finish F st 0)=_;cases hp:allB pComp vs with
   |false=>rfl
   |true=>exact(qHh F st h hp).symm
theorem qMB:∀ (vs:List TVal) (i:Nat) (tm:TM TVal),argsK vs i tm=setArgs vs i tm:=by
 intro vs
 induction vs with
 |nil=>intro i tm; rfl
 |cons v vs ih=>intro i tm; exact ih (i+1) (tm.set v i)
theorem qNc(O:Oracle)(n:Nat)(F:AFunc)(args:List TVal)(objs:List AObj):callK O n F args objs=call1 O n F args objs:=by
 unfold callK call1;rw[qAI,qAI,qMB,qAH,Bool.cond_decide,qO4];split
 ·cases run O n F.body { tm:=setArgs args 0 .nil,h:={ ims:=objs,owns := .nil } } with
  |none=>rfl
  |some x =>
   obtain⟨ex,st⟩:=x;cases ex with
   |norm=>exact qIn F st _
   |exit _=>rfl
   |ret=>exact qIn F st _
 ·rfl
theorem qQl(T:FuncId->Option AFunc)(S:Oracle):∀ n,fullK T S n=full T S n:=by
 intro n
 induction n with
 |zero=>rfl
 |succ n ih =>
  funext f args objs
  show Option.rec (Option.rec none (λF=>callK (fullK T S n) n F args objs) (T f)) some (S f args objs)=match S f args objs with|some r=>some r|none=>match T f with|some F=>call1 (full T S n) n F args objs|none=>none
  rw[ih];cases S f args objs with
  |some r=>rfl
  |none=>cases T f with
   |none=>rfl
   |some F=>exact qNc _ _ _ _ _
end Go.AI
namespace Go.AI
open Go.RowKit Go.ChangeShapes Go.WideShapes
def wi(a n:Int):Int:=if a.tmod n<0 then a.tmod n+n else a.tmod n
section
variable [Sym] {P:Program} {G:Nat->Option (List PVal)} {T:FuncId->Option AFunc}
end
theorem qKY{p:Nat->Bool}{n:Nat}(h:(List.range n).all p=true){i:Nat}(hi:i<n):p i=true:=List.all_eq_true.1 h i (List.mem_range.2 hi)
structure Tabl where
 name:String
 g:Nat
 k:IntKind
 vals:List Int
def rowOfT(t:Tabl):List PVal:=t.vals.map (.int t.k)
def globs:List Tabl->Nat->Option (List PVal)
 |[],_=>none
 |t::ts,g=>bif Nat.beq t.g g then some (rowOfT t) else globs ts g
def immG(ts:List Tabl):Imm where
 cell b o:=match globs ts b with
  |some row=>match row[o]? with
   |some (.int k n)=>some (.int k n)
   |_=>none
  |none=>none
 map _:=none
theorem qDv:∀ {ts:List Tabl}{g:Nat}{row:List PVal},globs ts g=some row->∃ t∈ts,t.g=g/\row=rowOfT t:=by
 intro ts
 induction ts with
 |nil=>intro g row h; cases h
 |cons t ts ih =>
  intro g row h;unfold globs at h;rw[qAH,Bool.cond_decide] at h;split at h
  ·rename_i e;exact⟨t,by simp,e,(Option.some.inj h).symm⟩
  ·obtain⟨u,hu,e⟩:=ih h;exact⟨u,by simp[hu],e⟩
theorem qOd[Sym](ts:List Tabl):GRel (globs ts) (immG ts):=by
 intro g row h;obtain⟨t,_,_,rfl⟩:=qDv h;refine⟨λk=>match t.vals[k]? with|some n => .int t.k n|none => .bool false,λk v e => ?_⟩;unfold rowOfT at e;rw[List.getElem?_map] at e;cases hv:t.vals[k]? with
 |none=>rw[hv] at e; cases e
 |some n =>
  rw[hv] at e;obtain rfl:=Option.some.inj e;refine⟨?_,by simp only[hv]; exact .int _ _⟩;unfold immG;simp only[h,rowOfT,List.getElem?_map,hv,Option.map_some]
section
variable {P:Program}
theorem qHx{H:Type}{enc:TypeId×Value->H}{w:World}{base:Nat}{sp:Nat->Bool}{held:Bool}{fuel:Nat}{t:TypeId}{k:IntKind}{c:Value}{y:DataW H×List MemPlace}
  (ht:P.underlying t=some (.int k)) (h:DataW.trod enc P w base sp held fuel t [c]=some y):∃ n,c = .int k n/\y=(.lit (.int k n),[]):=by
 cases fuel with
 |zero=>simp[DataW.trod] at h
 |succ fuel =>
  cases c <;> simp[DataW.trod,ht] at h
  rename_i k' n;obtain⟨⟨rfl,_⟩,rfl⟩:=h;exact⟨n,rfl,rfl⟩
theorem qHd{H:Type}{enc:TypeId×Value->H}{w:World}{base:Nat}{sp:Nat->Bool}{held:Bool}{fuel:Nat}{t e:TypeId}{n:Nat}{k:IntKind}{cs:List Value}{vals:List Int}{p:List MemPlace}
  (hu:P.underlying t=some (.array n e)) (he:P.underlying e=some (.int k)) (hc:P.cellsOf e=1)
  (h:DataW.trod enc P w base sp held fuel t cs=some (.agg (vals.map λv => .lit (.int k v)),p)):∀ (i:Nat) v,vals[i]?=some v->cs[i]?=some (.int k v):=by
 cases fuel with
 |zero=>simp[DataW.trod] at h
 |succ fuel =>
  simp only[DataW.trod,hu,hc] at h;split at h
  ·simp only[Option.map_eq_some_iff,Prod.mk.injEq,DataW.agg.injEq] at h;obtain⟨xs,hx,h1,_⟩:=h
   letI:Sym:=⟨λ_=>0⟩
   have hall:=qAP hx;intro i v hv;have hxi:(xs.map (·.1))[i]?=some (.lit (.int k v)):=by rw[h1,List.getElem?_map,hv]; rfl
   rw[List.getElem?_map] at hxi;cases hxs:xs[i]? with
   |none=>rw[hxs] at hxi; cases hxi
   |some x =>
    rw[hxs] at hxi;have hx1:x.1 = .lit (.int k v):=Option.some.inj hxi;have hlen:=hall.length;have hi:i<xs.length:=(List.getElem?_eq_some_iff.1 hxs).1;have hr:(List.range n)[i]?=some i:=by
     rw[List.getElem?_range (by simp at hlen; omega)]
    obtain⟨b,hb,hf⟩:=hall.get i i hr;rw[hxs] at hb;obtain rfl:=Option.some.inj hb;rw[Nat.mul_one] at hf;cases hd:cs.drop i with
    |nil =>
     rw[hd] at hf;cases fuel <;> simp[DataW.trod,he] at hf
    |cons c rest =>
     rw[hd] at hf;obtain⟨m,rfl,rfl⟩:=qHx he (show DataW.trod enc P w base sp held fuel e [c]=some x from hf);simp only[DataW.lit.injEq,Lit.int.injEq,true_and] at hx1;subst hx1;have:(cs.drop i)[0]?=some (.int k m):=by rw[hd]; rfl
     simpa using this
  ·cases h
def TablOK(P:Program)(laid:List (String×DataW Unit))(t:Tabl):Prop :=
 (t.name,DataW.agg (t.vals.map λv => .lit (.int t.k v)))∈laid/\P.globalNamed t.name=some t.g/\∃ ty e n,(P.globals[t.g]?).map (·.type)=some ty/\P.underlying ty=some (.array n e)/\P.underlying e=some (.int t.k)/\P.cellsOf e=1
theorem qNf{w:World}:∀ {l:List (String×DataW Unit)}{ps:List MemPlace},DataW.LaidVars P w l ps->∀ {n:String}{d:DataW Unit},(n,d)∈l->∃ g t cs fuel p,P.globalNamed n=some g/\(P.globals[g]?).map (·.type)=some t/\w.var? P n=some cs/\DataW.trod (λ_=>()) P w 0 (λ_=>true) false fuel t cs.toList=some (d,p):=by
 intro l
 induction l with
 |nil=>intro ps _ n d h; cases h
 |cons x l ih =>
  intro ps h n d hm;obtain⟨m,d'⟩:=x;obtain⟨g,t,cs,fuel,p,q,h1,h2,h3,h4,h5,_⟩:=h
  rcases List.mem_cons.1 hm with e|e
  ·obtain⟨rfl,rfl⟩:=Prod.mk.inj e;exact⟨g,t,cs,fuel,p,h1,h2,h3,h4⟩
  ·exact ih h5 e
theorem qKL{laid:List (String×DataW Unit)}{w:World}(h:laidMet P laid w){ts:List Tabl}(hts:∀ t∈ts,TablOK P laid t):∀ b o v,(immG ts).cell b o=some v->w.cell? ⟨b,o,none⟩=some v:=by
 intro b o v hv;obtain⟨ps,hl,_⟩:=h;unfold immG at hv;dsimp only at hv;split at hv
 ·rename_i row hrow;obtain⟨t,ht,rfl,rfl⟩:=qDv hrow;obtain⟨hm,hg,ty,e,n,k1,k2,k3,k4⟩:=hts t ht;obtain⟨g,ty',cs,fuel,p,q1,q2,q3,q4⟩:=qNf hl hm;obtain rfl:=Option.some.inj (hg.symm.trans q1);obtain rfl:=Option.some.inj (k1.symm.trans q2);split at hv
  ·rename_i k m hk;unfold rowOfT at hk;rw[List.getElem?_map] at hk;cases hvv:t.vals[o]? with
   |none=>rw[hvv] at hk; cases hk
   |some x =>
    rw[hvv] at hk;simp only[Option.map_some,Option.some.injEq,PVal.int.injEq] at hk;obtain⟨rfl,rfl⟩:=hk;have:=qHd k2 k3 k4 q4 o x hvv;rw[<- Option.some.inj hv];have hc:=World.var?_cell hg q3 o;rw[hc]
    simpa using this
  ·cases hv
 ·cases hv
variable [Sym]
end
def orS(S1 S2:Oracle):Oracle:=λf args objs=>match S1 f args objs with
 |some r=>some r
 |none=>S2 f args objs
theorem qCw[Sym]{P:Program}{G:Nat->Option (List PVal)}{S1 S2:Oracle}(h1:FSound P G S1)(h2:FSound P G S2):FSound P G (orS S1 S2):=by
 intro f args objs v objs' e;unfold orS at e;split at e
 ·rename_i r hr;cases e;exact h1 f args objs v objs' hr
 ·exact h2 f args objs v objs' e
def globs2(ts:List Tabl)(o:Option Nat)(g:Nat):Option (List PVal):=match globs ts g with
 |some row=>some row
 |none=>match o with
  |some g'=>bif Nat.beq g' g then some [.sym .i64 63 (.ofNat 0) (.ofNat 1) (.ofNat 0)] else none
  |none=>none
def immG2[Sym](ts:List Tabl)(o:Option Nat):Imm where
 cell b k:=match globs ts b with
  |some _=>(immG ts).cell b k
  |none=>if o=some b/\k=0 then some (.int .i64 (Sym.num 63)) else none
 map _:=none
variable [Sym]
theorem qNZ(ts:List Tabl)(o:Option Nat):GRel (globs2 ts o) (immG2 ts o):=by
 intro g row h;unfold globs2 at h;split at h
 ·rename_i row' hr;cases h;obtain⟨cv,hc⟩:=qOd ts g _ hr;refine⟨cv,λk v e => ?_⟩;obtain⟨h1,h2⟩:=hc k v e;have e1:(immG2 ts o).cell g k=(immG ts).cell g k:=by unfold immG2; simp only[hr]
  refine⟨e1.trans h1,?_⟩;unfold rowOfT at *;obtain⟨t,_,_,rfl⟩:=qDv hr;unfold rowOfT at e;rw[List.getElem?_map] at e;cases hv:t.vals[k]? with
  |none=>rw[hv] at e; cases e
  |some n =>
   rw[hv] at e;obtain rfl:=Option.some.inj e;have key:∀ z,PRel (immG ts) (.int t.k n) z->PRel (immG2 ts o) (.int t.k n) z:=λz h=>by cases h; exact .int _ _
   exact key _ h2
 ·rename_i hr;split at h
  ·rename_i g';rw[qAH,Bool.cond_decide] at h;split at h
   ·rename_i hg;subst hg;cases h;refine⟨λ_ => .int .i64 (Sym.num 63),λk v e => ?_⟩;cases k with
    |succ k=>simp at e
    |zero =>
     simp only[List.getElem?_cons_zero,Option.some.injEq] at e;subst e;refine⟨by unfold immG2; simp[hr],.sym _ _ _ _ _ _ (by simp) (λh=>absurd h (by decide))⟩
   ·cases h
  ·cases h
theorem qGf{P:Program}{laid:List (String×DataW Unit)}{w:World}(h:laidMet P laid w){ts:List Tabl}(hts:∀ t∈ts,TablOK P laid t){o:Option Nat}(ho:∀ g,o=some g->w.cell? ⟨g,0,none⟩=some (.int .i64 (Sym.num 63))):∀ b k v,(immG2 ts o).cell b k=some v->w.cell? ⟨b,k,none⟩=some v:=by
 intro b k v e;unfold immG2 at e;dsimp only at e;split at e
 ·exact qKL h hts b k v e
 ·split at e
  ·rename_i hc;obtain⟨h1,rfl⟩:=hc;rw[<- Option.some.inj e];exact ho b h1
  ·cases e
noncomputable def preB(a:List UInt8):List UInt8->Bool:=List.rec (motive:=λ_=>List UInt8->Bool) (λ_=>true) (λx _ ih b=>List.rec (motive:=λ_=>Bool) false (λy b' _=>bif Nat.beq x.toNat y.toNat then ih b' else false) b) a
theorem qOz:∀ (a b:List UInt8),preB a b=a.isPrefixOf b:=by
 intro a
 induction a with
 |nil=>intro b; cases b <;> rfl
 |cons x a ih =>
  intro b;cases b with
  |nil=>rfl
  |cons y b =>
   show(bif Nat.beq x.toNat y.toNat then preB a b else false)=(x==y&&a.isPrefixOf b);rw[qAH,ih,Bool.cond_decide];by_cases h:x=y
   ·subst h; simp
   ·have:¬ x.toNat=y.toNat:=λe=>h (UInt8.toNat_inj.1 e)
    simp[h,this]
noncomputable def idx2F(s sub:List UInt8):Nat->Int:=List.rec (motive:=λ_=>Nat->Int) (λi=>List.rec (motive:=λ_=>Int) (.ofNat i) (λ_ _ _ => .negSucc 0) sub) (λb l ih i=>bif preB sub (b::l) then .ofNat i else ih (Nat.succ i)) s
theorem qO1(sub:List UInt8)(s:List UInt8)(i:Nat):idx2F s sub i=if Lib.index s sub = -1 then -1 else i+Lib.index s sub:=by
 induction s generalizing i with
 |nil=>cases sub <;> simp[idx2F,Lib.index]
 |cons b s ih =>
  show(bif preB sub (b::s) then Int.ofNat i else idx2F s sub (i+1))=_;have e0:Lib.index (b::s) sub=if sub.isPrefixOf (b::s)=true then 0 else if (Lib.index s sub == -1)=true then -1 else Lib.index s sub+1:=rfl
  rw[qOz,ih,e0];have hg:=Lib.index_ge s sub;cases hp:sub.isPrefixOf (b::s) with
  |true=>simp
  |false =>
   simp only[cond_false,Bool.false_eq_true,if_false];by_cases h2:Lib.index s sub = -1
   ·simp[h2]
   ·have h3:¬ (Lib.index s sub == -1)=true:=by simpa using h2
    rw[if_neg h2,show(if (Lib.index s sub == -1)=true then (-1:Int) else Lib.index s sub+1)=Lib.index s sub+1 from if_neg h3,if_neg (by omega)];omega
theorem qKW(s sub:List UInt8):Lib.index s sub=idx2F s sub 0:=by
 rw[qO1];split
 ·rename_i h; exact h
 ·simp
noncomputable def SI(xid:FuncId):Oracle:=λf args objs =>
 bif Nat.beq f xid then (match args,objs with
  |[.v (.c (.p (.str s))),.v (.c (.p (.str sub)))],[]=>bif Nat.blt (lenF s) 4294967281 then some (.pv (.int .i64 (idx2F s sub 0)),[]) else none
  |_,_=>none) else none
theorem qND{P:Program}{ts:List Tabl}{g:Nat}(hgl:globs ts g=none){xid:FuncId}(hfn:∃ fn,P.funcs[xid]?=some fn/\fn.body.isSome=true/\fn.name ≠ "runtime.NumGoroutine")
  (hx:∀ (s sub:ByteArray) (m:Int) (w:World),s.size<4294967281->w.cell? ⟨g,0,none⟩=some (.int .i64 m)->Calls P xid #[.string s,.string sub] w λe w'=>e = .returned (.int .i64 (Lib.index s.data.toList sub.data.toList))/\w'=w):FSound P (globs2 ts (some g)) (SI xid):=by
 intro f args objs v objs' e;unfold SI at e;rw[qAH,Bool.cond_decide] at e;split at e
 ·rename_i hf;subst hf;split at e
  ·rename_i s sub;rw[qAI,qBZ,Bool.cond_decide] at e;split at e
   ·rename_i hlen;cases e;refine⟨hfn,λρ I w avs hG hW ha hown => ?_⟩;obtain⟨cv,hc⟩:=hG g [.sym .i64 63 (.ofNat 0) (.ofNat 1) (.ofNat 0)] (by unfold globs2; rw[hgl]; simp[qAH]);obtain⟨c1,c2⟩:=hc 0 _ rfl;have c3:=hW.icell _ _ _ c1;have c4:∃ m,cv 0 = .int .i64 m:=by
     generalize cv 0=z at c2;cases c2;exact⟨_,rfl⟩
    obtain⟨m,c4⟩:=c4;rw[c4] at c3;obtain⟨l⟩:=avs
    match l,ha with
    |[x,y],⟨hx1,hy1,_⟩ =>
     cases hx1 with|p _ _ hx1=>cases hx1 with|str _ b hb =>
     cases hy1 with|p _ _ hy1=>cases hy1 with|str _ b2 hb2 =>
     subst hb hb2;have hs:b.size<4294967281:=by
      have:b.size=b.data.toList.length:=by rw[Array.length_toList]; rfl
      omega
     exact Calls.mono (hx b b2 m w hs c3) λe w' ⟨e1,e2⟩=>by
      subst e2;exact⟨_,ρ,I,e1,by rw[qKW]; exact qKe .i64 _,hW,Good.refl _ _ _ _,hown⟩
   ·cases e
  ·cases e
 ·cases e
theorem qKm{ρ:Env}{I:Imm}{w w':World}(hW:WRel ρ I { ims:=[],owns := .nil } w)(hb:Below w.heap.size w w'):WRel ρ I { ims:=[],owns := .nil } w'/\Good ρ I { ims:=[],owns := .nil } w ρ I { ims:=[],owns := .nil } w':=by
 have hn:∀ r,({ ims:=[],owns := .nil }:Heap).get r=none:=qBY;refine⟨⟨λr o e=>(by rw[hn] at e; cases e),λr r' o o' l l' e=>(by rw[hn] at e; cases e),λb o v e => ?_,λb arr c e => ?_,λr o l e=>(by rw[hn] at e; cases e),λr o l e=>(by rw[hn] at e; cases e),hW.fresh,hW.freshi⟩,?_⟩
 ·have h1:=hW.icell b o v e;have h2:=World.block_lt_of_cell? _ _ h1;exact(hb.cell (p:=⟨b,o,none⟩) h2).trans h1
 ·have h1:=hW.imap b arr c e;have h2:b<w.heap.size:=by
   rcases Nat.lt_or_ge b w.heap.size with h|h
   ·exact h
   ·rw[Array.getElem?_eq_none h] at h1; cases h1
  exact(hb.block b h2).trans h1
 ·exact⟨Env.le_refl _,Imm.le_refl _,⟨hb.os,hb.tape,hb.output,hb.size,λb h _=>hb.block b h⟩,λ_ h => .inl h,λ_ _ _ h => .inl h,λ_ _ h => .inl h⟩
end Go.AI
namespace Go.AI
open Go.RowKit
noncomputable def strRow(r:List PVal):Option (List UInt8):=match r with|[.str s]=>some s|_=>none
noncomputable def strRows(rows:List (List PVal)):Option (List (List UInt8)):=List.rec (motive:=λ_=>Option (List (List UInt8))) (some []) (λr _ ih=>bnd (strRow r) λs=>bnd ih λt=>some (s::t)) rows
noncomputable def joinO(xs:List (List UInt8))(sep:List UInt8):Option (TVal×List AObj) :=
 (λt=>bif Nat.ble (lenF t) 140737488355328&&Nat.ble (lenF xs) 140737488355328 then some (.pv (.str t),[]) else none) (Lib.join xs sep)
noncomputable def joinP(v:PVal)(sep:List UInt8):Option (TVal×List AObj):=match v with
 |.nilslice=>some (.pv (.str []),[])
 |.slice sz _ rows=>bif Nat.beq sz 1 then bnd (strRows rows) λxs=>joinO xs sep else none
 |_=>none
noncomputable def SJ(jid:FuncId):Oracle:=λf args objs =>
 bif Nat.beq f jid then (match args,objs with
  |[.v (.c (.p v)),.v (.c (.p (.str sep)))],[]=>joinP v sep
  |_,_=>none) else none
theorem qIB:∀ {rows:List (List PVal)}{xs:List (List UInt8)},strRows rows=some xs->xs.length=rows.length/\∀ (i:Nat) s,xs[i]?=some s->rows[i]?=some [.str s]:=by
 intro rows
 induction rows with
 |nil =>
  intro xs h;obtain rfl:=Option.some.inj h;exact⟨rfl,λi s e=>by simp at e⟩
 |cons r rows ih =>
  intro xs h;have h':(bnd (strRow r) λs=>bnd (strRows rows) λt=>some (s::t))=some xs:=h;cases hr:strRow r with
  |none=>rw[hr] at h'; cases h'
  |some s =>
   rw[hr] at h';cases ht:strRows rows with
   |none=>rw[ht] at h'; cases h'
   |some t =>
    rw[ht] at h';obtain rfl:=Option.some.inj h';obtain⟨h1,h2⟩:=ih ht;have hrow:r=[.str s]:=by
     unfold strRow at hr;split at hr
     ·obtain rfl:=Option.some.inj hr; rfl
     ·cases hr
    subst hrow;refine⟨by simp[h1],λi u e => ?_⟩;cases i with
    |zero=>simp at e; subst e; rfl
    |succ i=>simpa using h2 i u (by simpa using e)
theorem qCa{b:ByteArray}{s:List UInt8}(h:b.data.toList=s):b=⟨s.toArray⟩:=by
 obtain⟨⟨l⟩⟩:=b;have:l=s:=h;rw[this]
variable [Sym]
theorem qMf{P:Program}{G:Nat->Option (List PVal)}{jid:FuncId}(hfn:∃ fn,P.funcs[jid]?=some fn/\fn.body.isSome=true/\fn.name ≠ "runtime.NumGoroutine")
  (hx0:∀ (a:Option Addr) (c:Nat) (sep:ByteArray) (w:World),Calls P jid #[.slice a 0 c,.string sep] w λe w'=>e = .returned (.string ⟨#[]⟩)/\w'=w)
  (hx:∀ (bk o c:Nat) (xs:List ByteArray) (sep:ByteArray) (w:World),(∀ (j:Nat) x,xs[j]?=some x->w.cell? ⟨bk,o+j,none⟩=some (.string x))->bk<w.heap.size->xs.length<=140737488355328->xs.length<=c->(Lib.join (xs.map (·.data.toList)) sep.data.toList).length<=140737488355328 ->
   Calls P jid #[.slice (some ⟨bk,o,none⟩) xs.length c,.string sep] w λe w'=>e = .returned (.string ⟨(Lib.join (xs.map (·.data.toList)) sep.data.toList).toArray⟩)/\Below w.heap.size w w'):FSound P G (SJ jid):=by
 intro f args objs v objs' e;unfold SJ at e;rw[qAH,Bool.cond_decide] at e;split at e
 ·rename_i hf;subst hf;split at e
  ·rename_i sl sep;refine⟨hfn,λρ I w avs hG hW ha hown => ?_⟩;obtain⟨l⟩:=avs
   match l,ha with
   |[x,y],⟨hx1,hy1,_⟩ =>
    cases hx1 with|p _ _ hx1 =>
    cases hy1 with|p _ _ hy1=>cases hy1 with|str _ b2 hb2 =>
    subst hb2;unfold joinP at e;split at e
    ·cases e;cases hx1;exact Calls.mono (hx0 none 0 b2 w) λe w' ⟨e1,e2⟩=>by
      subst e2;exact⟨_,ρ,I,e1,CRel.p _ _ (.str [] _ rfl),hW,Good.refl _ _ _ _,hown⟩
    ·rename_i sz tight rows;rw[qAH,Bool.cond_decide] at e;split at e
     ·rename_i hsz;subst hsz;cases hr:strRows rows with
      |none=>rw[hr] at e; cases e
      |some xs =>
       rw[hr] at e;have e':(bif Nat.ble (lenF (Lib.join xs b2.data.toList)) 140737488355328&&Nat.ble (lenF xs) 140737488355328 then some (TVal.pv (.str (Lib.join xs b2.data.toList)),([]:List AObj)) else none)=some (v,objs'):=e;rw[qAI,qAI,qB4,qB4,<- Bool.decide_and,Bool.cond_decide] at e';split at e'
       ·rename_i hb;cases e';obtain⟨r1,r2⟩:=qIB hr;cases hx1 with|emp _ _ ad cap ht=>(have:xs=[]:=List.length_eq_zero_iff.1 r1; subst this; refine Calls.mono (hx0 (some ad) cap b2 w) λe w' ⟨e1,e2⟩ => ?_; subst e2; exact⟨_,ρ,I,e1,CRel.p _ _ (.str _ _ (by simp[Lib.join_nil])),hW,Good.refl _ _ _ _,hown⟩)|slice _ _ _ b o cap cv ht hc hs hI hv =>
        cases hxs:rows with
        |nil =>
         rw[hxs] at r1;have:xs=[]:=List.length_eq_zero_iff.1 r1;subst this;refine Calls.mono (hx0 (some ⟨b,o,none⟩) cap b2 w) λe w' ⟨e1,e2⟩ => ?_
         subst e2;exact⟨_,ρ,I,e1,CRel.p _ _ (.str _ _ (by simp[Lib.join_nil])),hW,Good.refl _ _ _ _,hown⟩
        |cons r0 rest =>
         have hcells:∀ (j:Nat) z,(xs.map λs=>(⟨s.toArray⟩:ByteArray))[j]?=some z->w.cell? ⟨b,o+j,none⟩=some (.string z):=by
          intro j z hz;rw[List.getElem?_map] at hz;cases hj:xs[j]? with
          |none=>rw[hj] at hz; cases hz
          |some s =>
           rw[hj] at hz;obtain rfl:=Option.some.inj hz;have h1:=hI j _ 0 (.str s) (r2 j s hj) rfl;have h2:=hv j _ 0 (.str s) (r2 j s hj) rfl;rw[Nat.mul_one,Nat.add_zero] at h1;have h3:=hW.icell _ _ _ h1;generalize cv j 0=q at h2 h3;cases h2 with|str _ bb hbb =>
           rw[h3,qCa hbb]
         have hmap:(xs.map λs=>(⟨s.toArray⟩:ByteArray)).map (λb=>b.data.toList)=xs:=by
          rw[List.map_map];exact List.map_id'' (λ_=>rfl) xs
         have hlt:b<w.heap.size:=by
          have:0<xs.length:=by rw[r1,hxs]; simp
          obtain⟨s,hs0⟩:∃ s,xs[0]?=some s:=⟨xs[0],List.getElem?_eq_getElem this⟩;exact World.block_lt_of_cell? _ _ (hcells 0 _ (by rw[List.getElem?_map,hs0]; rfl))
         have hl:(xs.map λs=>(⟨s.toArray⟩:ByteArray)).length=rows.length:=by rw[List.length_map,r1]
         have:=hx b o cap (xs.map λs=>(⟨s.toArray⟩:ByteArray)) b2 w hcells hlt (by rw[List.length_map]; exact hb.2) (by rw[hl]; exact hc) (by rw[hmap]; exact hb.1);rw[hl,hmap,hxs] at this;refine Calls.mono this λe w' ⟨e1,e2⟩ => ?_
         obtain⟨b1,b3⟩:=qKm hW e2;exact⟨_,ρ,I,e1,CRel.p _ _ (.str _ _ rfl),b1,b3,hown⟩
       ·cases e'
     ·cases e
    ·cases e
  ·cases e
 ·cases e
end Go.AI
namespace Go.AI
open Go.RowKit
variable [Sym]
theorem WRel.below{ρ:Env}{I:Imm}{h:Heap}{w w':World}(H:WRel ρ I h w)(hb:Below w.heap.size w w'):WRel ρ I h w'/\Good ρ I h w ρ I h w':=by
 have old:∀ (b:Nat) o,w.heap[b]?=some o->w'.heap[b]?=some o:=λb o e=>by
  have:b<w.heap.size:=by
   rcases Nat.lt_or_ge b w.heap.size with q|q
   ·exact q
   ·rw[Array.getElem?_eq_none q] at e; cases e
  exact(hb.block b this).trans e
 refine⟨⟨λr o e => ?_,H.inj,λb o v e => ?_,λb arr c e=>old b _ (H.imap b arr c e),H.apart,H.apartm,H.fresh,H.freshi⟩,?_⟩
 ·obtain⟨l,hl,ho⟩:=H.live r o e;refine⟨l,hl,?_⟩;cases o with
  |cells cs imm=>obtain⟨arr,elem,lo,hi,q1,q2⟩:=ho; exact⟨arr,elem,lo,hi,old _ _ q1,q2⟩
  |map es clock=>obtain⟨arr,q1,q2⟩:=ho; exact⟨arr,old _ _ q1,q2⟩
  |siter s pos=>obtain⟨b,q1,q2⟩:=ho; exact⟨b,old _ _ q1,q2⟩
  |dead=>exact trivial
 ·have h1:=H.icell b o v e;have h2:=World.block_lt_of_cell? _ _ h1;exact(hb.cell (p:=⟨b,o,none⟩) h2).trans h1
 ·exact⟨Env.le_refl _,Imm.le_refl _,⟨hb.os,hb.tape,hb.output,hb.size,λb h _=>hb.block b h⟩,λ_ h => .inl h,λ_ _ _ h => .inl h,λ_ _ h => .inl h⟩
section
variable {P:Program} {G:Nat->Option (List PVal)} {O:Oracle} {nt:Nat} {heap:Nat->Bool}
def chain:Nat->Code->Bool
 |0,_=>true
 |n+1,.seq _ b=>chain n b
 |_+1,_=>false
def sufC:Nat->Code->Code
 |0,c=>c
 |n+1,.seq _ b=>sufC n b
 |_+1,c=>c
theorem qHb(hm:P.follows .mixedOrders=true)(hO:FSound P G O)(hnt:nt<1000000)(n:Nat):∀ (k:Nat) (c:Code) (st:St) (ex:AExit) (st1:St) (ρ:Env) (I:Imm) (a:Act) (w:World) (Q:Exit->Act->World->Prop),chain k c=true ->
  runF O (run O n) (preN k (comp P G nt heap c)) st=some (ex,st1)->GRel G I->SRel nt ρ I st a w ->
  Leaves P nt ρ I st w st1 (λa' w'=>match ex with | .norm=>(sufC k c).wp P Q a' w'|ex=>Q ex.toExit a' w')->c.wp P Q a w:=by
 intro k
 induction k with
 |zero =>
  intro c st ex st1 ρ I a w Q hc h hG S hK;simp only[preN,runF,Option.some.injEq,Prod.mk.injEq] at h;obtain⟨rfl,rfl⟩:=h;exact hK ρ I a w S (Good.refl _ _ _ _)
 |succ k ih =>
  intro c st ex st1 ρ I a w Q hc h hG S hK;cases c with
  |seq x y =>
   have hcode:=qF0 (P:=P) (G:=G) (O:=O) (nt:=nt) (heap:=heap) hm hO hnt n (qOq hm hO hnt n) x;simp only[comp,preN,runF] at h;refine Go.wp_seq ?_;cases hx:runF O (run O n) (comp P G nt heap x) st with
   |none=>rw[hx] at h; cases h
   |some r =>
    obtain⟨ex',st'⟩:=r;rw[hx] at h;cases ex' with
    |norm =>
     dsimp only at h;refine hcode st .norm st' ρ I a w _ hx hG S λρ' I' a' w' S' g => ?_
     exact ih y st' ex st1 ρ' I' a' w' Q hc h (hG.mono g.imm) S' λρ2 I2 a2 w2 S2 g2=>hK ρ2 I2 a2 w2 S2 (g.trans g2)
    |exit j =>
     simp only[Option.some.injEq,Prod.mk.injEq] at h;obtain⟨rfl,rfl⟩:=h;exact hcode st _ _ ρ I a w _ hx hG S hK
    |ret =>
     simp only[Option.some.injEq,Prod.mk.injEq] at h;obtain⟨rfl,rfl⟩:=h;exact hcode st _ _ ρ I a w _ hx hG S hK
  |_=>cases hc
end
end Go.AI
namespace Go.AI
open Go.RowKit
section
variable [Sym]
section
variable {P:Program} {G:Nat->Option (List PVal)} {O:Oracle} {nt:Nat} {heap:Nat->Bool}
omit [Sym] in
theorem qBK{c:AOper}{L:List AOper}{st s1:St}{ts:List Touch}(h:runOps O (c::L) st=some (s1,ts)):∃ sx t ts',stepOp O c st=some (sx,t)/\runOps O L sx=some (s1,ts'):=by
 unfold runOps at h;split at h
 ·cases h
 ·rename_i st' t hs;split at h
  ·cases h
  ·rename_i st'' ts' hr';simp only[Option.some.injEq,Prod.mk.injEq] at h;obtain⟨rfl,_⟩:=h;exact⟨st',t,ts',hs,hr'⟩
theorem qKV{ops:Array Oper}{id:Nat}(hm:P.follows .mixedOrders=true)(hO:FSound P G O)(hnt:nt<1000000)(hsz:ops.size=4){c0 c1 c2 c3:AOper}
  (h0:∃ o,ops[0]?=some o/\compOper P G nt heap ops o=some c0) (h1:∃ o,ops[1]?=some o/\compOper P G nt heap ops o=some c1) (h2:∃ o,ops[2]?=some o/\compOper P G nt heap ops o=some c2) (h3:∃ o,ops[3]?=some o/\compOper P G nt heap ops o=some c3)
  (r0:Region.ready .any ops #[false,false,false,false]=[0]) (r1:Region.ready .any ops #[true,false,false,false]=[1,2]) (r2:Region.ready .any ops #[true,true,false,false]=[2]) (r2':Region.ready .any ops #[true,false,true,false]=[1])
  (r3:Region.ready .any ops #[true,true,true,false]=[3]) (r4:Region.ready .any ops #[true,true,true,true]=[])
  {st sa sb sc:St} {t0:Touch} {ts ts':List Touch} (s0:stepOp O c0 st=some (sa,t0)) (s1:runOps O [c1,c2,c3] sa=some (sb,ts)) (s2:runOps O [c2,c1,c3] sa=some (sc,ts'))
  {ρ:Env} {I:Imm} (hG:GRel G I) {a:Act} {w:World} (S:SRel nt ρ I st a w) {Q:Exit->Act->World->Prop} (hK1:Leaves P nt ρ I st w sb (Q .normal)) (hK2:Leaves P nt ρ I st w sc (Q .normal)):(Code.region id ops true).wp P Q a w:=by
 obtain⟨o0,i0,k0⟩:=h0;obtain⟨o1,i1,k1⟩:=h1;obtain⟨o2,i2,k2⟩:=h2;obtain⟨o3,i3,k3⟩:=h3;obtain⟨x1,_,_,p1,p2⟩:=qBK s1;obtain⟨x2,_,_,p3,p4⟩:=qBK p2;obtain⟨x3,_,_,p5,p6⟩:=qBK p4;simp only[runOps,Option.some.injEq,Prod.mk.injEq] at p6;obtain⟨rfl,_⟩:=p6;obtain⟨y1,_,_,q1,q2⟩:=qBK s2;obtain⟨y2,_,_,q3,q4⟩:=qBK q2;obtain⟨y3,_,_,q5,q6⟩:=qBK q4;simp only[runOps,Option.some.injEq,Prod.mk.injEq] at q6;obtain⟨rfl,_⟩:=q6;refine wp_region_any hm ?_;have S':SRel nt ρ I st a { w with drawn:=w.drawn+1 }:=⟨S.heap.same rfl,S.tm,S.size,S.defers⟩;have g0:Good ρ I st.h w ρ I st.h { w with drawn:=w.drawn+1 }:=⟨Env.le_refl _,Imm.le_refl _,⟨rfl,rfl,rfl,Nat.le_refl _,λ_ _ _=>rfl⟩,λ_ h => .inl h,λ_ _ _ h => .inl h,λ_ _ h => .inl h⟩;rw[hsz];refine⟨λh => ?_,λi hi => ?_⟩
 ·exact absurd (show Region.ready .any ops #[false,false,false,false]=[] from h) (by rw[r0]; simp)
 obtain rfl:i=0:=by
  have:i∈Region.ready .any ops #[false,false,false,false]:=hi;rw[r0] at this; simpa using this
 refine qAx hO hG S' hnt i0 k0 s0 λρ1 I1 a1 w1 S1 g1 => ?_
 have G1:=g0.trans g1;have hG1:=hG.mono G1.imm;show wpAny P .any ops Q 3 #[true,false,false,false] a1 w1;refine⟨λh=>absurd h (by rw[r1]; simp),λi hi => ?_⟩;rw[r1] at hi;simp only[List.mem_cons,List.not_mem_nil,or_false] at hi
 rcases hi with rfl|rfl
 ·refine qAx hO hG1 S1 hnt i1 k1 p1 λρ2 I2 a2 w2 S2 g2 => ?_
  have G2:=G1.trans g2;have hG2:=hG.mono G2.imm;show wpAny P .any ops Q 2 #[true,true,false,false] a2 w2;refine⟨λh=>absurd h (by rw[r2]; simp),λi hi => ?_⟩;rw[r2] at hi;simp only[List.mem_cons,List.not_mem_nil,or_false] at hi;subst hi;refine qAx hO hG2 S2 hnt i2 k2 p3 λρ3 I3 a3 w3 S3 g3 => ?_
  have G3:=G2.trans g3;have hG3:=hG.mono G3.imm;show wpAny P .any ops Q 1 #[true,true,true,false] a3 w3;refine⟨λh=>absurd h (by rw[r3]; simp),λi hi => ?_⟩;rw[r3] at hi;simp only[List.mem_cons,List.not_mem_nil,or_false] at hi;subst hi;refine qAx hO hG3 S3 hnt i3 k3 p5 λρ4 I4 a4 w4 S4 g4 => ?_
  show wpAny P .any ops Q 0 #[true,true,true,true] a4 w4;exact⟨r4,hK1 ρ4 I4 a4 w4 S4 (G3.trans g4)⟩
 ·refine qAx hO hG1 S1 hnt i2 k2 q1 λρ2 I2 a2 w2 S2 g2 => ?_
  have G2:=G1.trans g2;have hG2:=hG.mono G2.imm;show wpAny P .any ops Q 2 #[true,false,true,false] a2 w2;refine⟨λh=>absurd h (by rw[r2']; simp),λi hi => ?_⟩;rw[r2'] at hi;simp only[List.mem_cons,List.not_mem_nil,or_false] at hi;subst hi;refine qAx hO hG2 S2 hnt i1 k1 q3 λρ3 I3 a3 w3 S3 g3 => ?_
  have G3:=G2.trans g3;have hG3:=hG.mono G3.imm;show wpAny P .any ops Q 1 #[true,true,true,false] a3 w3;refine⟨λh=>absurd h (by rw[r3]; simp),λi hi => ?_⟩;rw[r3] at hi;simp only[List.mem_cons,List.not_mem_nil,or_false] at hi;subst hi;refine qAx hO hG3 S3 hnt i3 k3 q5 λρ4 I4 a4 w4 S4 g4 => ?_
  show wpAny P .any ops Q 0 #[true,true,true,true] a4 w4;exact⟨r4,hK2 ρ4 I4 a4 w4 S4 (G3.trans g4)⟩
end
end
theorem qCf(acc:List Nat)(k:Nat):∀ es:List Edge,(rowOf acc es).testBit k=es.any λe=>Region.binds .any e&&(decide (e.on=k)||(acc.getD e.on 0).testBit k)
 |[]=>by simp[rowOf]
 |e::es=>by
  unfold rowOf;rw[Nat.testBit_or,qCf acc k es,List.any_cons]
  congr 1
  cases h:Region.binds .any e with
  |false=>simp
  |true =>
   simp only[if_true,Bool.true_and];rw[Nat.testBit_or,Nat.testBit_two_pow]
theorem qJY{o0 o1 o2 o3:Oper}(hb:backward [o0,o1,o2,o3] 0=true)
  (b1:((befs [o0,o1,o2,o3] []).getD 1 0).testBit 0=true) (b2:((befs [o0,o1,o2,o3] []).getD 2 0).testBit 0=true) (n2:((befs [o0,o1,o2,o3] []).getD 2 0).testBit 1=false)
  (b31:((befs [o0,o1,o2,o3] []).getD 3 0).testBit 1=true) (b32:((befs [o0,o1,o2,o3] []).getD 3 0).testBit 2=true) :
  (∀ e∈o0.after,Region.binds .any e=false)/\(∀ e∈o1.after,Region.binds .any e=true->e.on=0)/\(∃ e∈o1.after,Region.binds .any e=true/\e.on=0) /\
   (∀ e∈o2.after,Region.binds .any e=true->e.on=0)/\(∃ e∈o2.after,Region.binds .any e=true/\e.on=0) /\
   (∃ e∈o3.after,Region.binds .any e=true/\e.on=1)/\(∃ e∈o3.after,Region.binds .any e=true/\e.on=2)/\(∀ e∈o3.after,Region.binds .any e=true->e.on<3):=by
 letI:Sym:=⟨λ_=>0⟩
 have B:=qDf _ _ hb;have B0:∀ e∈o0.after,Region.binds .any e=false:=λe he=>by
  cases h:Region.binds .any e with
  |false=>rfl
  |true=>exact absurd (B 0 o0 rfl e he h) (by omega)
 have B1:∀ e∈o1.after,Region.binds .any e=true->e.on=0:=λe he h=>by have:=B 1 o1 rfl e he h; omega
 have B2:∀ e∈o2.after,Region.binds .any e=true->e.on<2:=λe he h=>by have:=B 2 o2 rfl e he h; omega
 have B3:∀ e∈o3.after,Region.binds .any e=true->e.on<3:=λe he h=>by have:=B 3 o3 rfl e he h; omega
 generalize hr0:rowOf [] o0.after.toList=r0 at *;have z0:∀ k,r0.testBit k=false:=λk=>by
  rw[<- hr0,qCf];rw[List.any_eq_false];intro e he;rw[B0 e (by simpa using he)]; simp
 generalize hr1:rowOf [r0] o1.after.toList=r1 at *;have e1:(befs [o0,o1,o2,o3] [])=[r0,r1,rowOf [r0,r1] o2.after.toList,rowOf [r0,r1,rowOf [r0,r1] o2.after.toList] o3.after.toList]:=by
  rw[<- hr1,<- hr0]; rfl
 generalize hr2:rowOf [r0,r1] o2.after.toList=r2 at *;rw[e1] at b1 b2 n2 b31 b32;change r1.testBit 0=true at b1;change r2.testBit 0=true at b2;change r2.testBit 1=false at n2;change (rowOf [r0,r1,r2] o3.after.toList).testBit 1=true at b31;change (rowOf [r0,r1,r2] o3.after.toList).testBit 2=true at b32;have k1:∀ k,k≠0->r1.testBit k=false:=λk hk=>by
  rw[<- hr1,qCf,List.any_eq_false];intro e he;cases h:Region.binds .any e with
  |false=>simp
  |true =>
   have:=B1 e (by simpa using he) h;rw[this];simp[z0,Ne.symm hk]
 have C2:∀ e∈o2.after,Region.binds .any e=true->e.on=0:=λe he h=>by
  have h2:=B2 e he h;by_cases h1:e.on=1
  ·rw[<- hr2,qCf,List.any_eq_false] at n2;have:=n2 e (by simpa using he);rw[h,h1] at this;simp at this
  ·omega
 have k2:∀ k,k≠0->r2.testBit k=false:=λk hk=>by
  rw[<- hr2,qCf,List.any_eq_false];intro e he;cases h:Region.binds .any e with
  |false=>simp
  |true =>
   rw[C2 e (by simpa using he) h];simp[z0,Ne.symm hk]
 have ex:∀ {acc:List Nat}{o:Oper}{k:Nat},(rowOf acc o.after.toList).testBit k=true->∃ e∈o.after,Region.binds .any e=true/\(e.on=k\/(acc.getD e.on 0).testBit k=true):=λ{acc o k} h=>by
  obtain⟨e,he,h1,h2⟩:=qGH h;exact⟨e,by simpa using he,h1,h2⟩
 refine⟨B0,B1,?_,C2,?_,?_,?_,B3⟩
 ·rw[<- hr1] at b1;obtain⟨e,he,h1,_⟩:=ex b1;exact⟨e,he,h1,B1 e he h1⟩
 ·rw[<- hr2] at b2;obtain⟨e,he,h1,_⟩:=ex b2;exact⟨e,he,h1,C2 e he h1⟩
 ·obtain⟨e,he,h1,h2|h2⟩:=ex b31
  ·exact⟨e,he,h1,h2⟩
  ·have:=B3 e he h1
   match h:e.on,this with
   |0,_=>rw[h] at h2; simp[z0] at h2
   |1,_=>exact⟨e,he,h1,h⟩
   |2,_=>rw[h] at h2; simp[k2] at h2
 ·obtain⟨e,he,h1,h2|h2⟩:=ex b32
  ·exact⟨e,he,h1,h2⟩
  ·have:=B3 e he h1
   match h:e.on,this with
   |0,_=>rw[h] at h2; simp[z0] at h2
   |1,_=>rw[h] at h2; simp[k1] at h2
   |2,_=>exact⟨e,he,h1,h⟩
theorem qKI{P:Program}{G:Nat->Option (List PVal)}{nt:Nat}{heap:Nat->Bool}{ops:Array Oper}{draw:Bool}{c0 c1 c2 c3:AOper}(h:compReg P G nt heap ops draw=some (.reg [c0,c1,c2,c3] [(1,2)]))
  (H:∀ p∈([(0,1,c0,c1),(0,2,c0,c2),(1,3,c1,c3),(2,3,c2,c3)]:List (Nat×Nat×AOper×AOper)),sApart p.2.2.1 p.2.2.2=false\/heavy p.2.2.1 p.2.2.2=true) :
  draw=true/\∃ o0 o1 o2 o3,ops.toList=[o0,o1,o2,o3]/\compOper P G nt heap ops o0=some c0/\compOper P G nt heap ops o1=some c1/\compOper P G nt heap ops o2=some c2/\compOper P G nt heap ops o3=some c3/\backward [o0,o1,o2,o3] 0=true /\
   ((befs [o0,o1,o2,o3] []).getD 1 0).testBit 0=true/\((befs [o0,o1,o2,o3] []).getD 2 0).testBit 0=true/\((befs [o0,o1,o2,o3] []).getD 2 0).testBit 1=false/\((befs [o0,o1,o2,o3] []).getD 3 0).testBit 1=true/\((befs [o0,o1,o2,o3] []).getD 3 0).testBit 2=true:=by
 letI:Sym:=⟨λ_=>0⟩
 unfold compReg at h;obtain⟨l,hl,h⟩:=Option.bind_eq_some_iff.1 h;cases draw with
 |false =>
  simp only[Bool.false_eq_true,if_false] at h;cases h
 |true =>
  refine⟨rfl,?_⟩;simp only[if_true] at h;split at h
  ·rename_i hc;rw[Bool.and_eq_true] at hc;obtain⟨hb,hall⟩:=hc;have h':=Option.some.inj h;injection h' with e1 e2
   subst e1;obtain⟨o0,o1,o2,o3,ho,k0,k1,k2,k3⟩:∃ o0 o1 o2 o3,ops.toList=[o0,o1,o2,o3]/\compOper P G nt heap ops o0=some c0/\compOper P G nt heap ops o1=some c1/\compOper P G nt heap ops o2=some c2/\compOper P G nt heap ops o3=some c3:=by
    generalize ops.toList=L at hl
    match L,hl with
    |[],hl=>cases hl
    |[a],hl =>
     rw[List.mapM_cons] at hl;simp only[List.mapM_nil,Option.pure_def,Option.bind_eq_bind] at hl;cases ha:compOper P G nt heap ops a <;> rw[ha] at hl <;> simp at hl
    |[a,b],hl =>
     rw[List.mapM_cons,List.mapM_cons] at hl;simp only[List.mapM_nil,Option.pure_def,Option.bind_eq_bind] at hl;cases ha:compOper P G nt heap ops a <;> rw[ha] at hl <;> cases hb':compOper P G nt heap ops b <;> (try rw[hb'] at hl) <;> simp at hl
    |[a,b,c],hl =>
     rw[List.mapM_cons,List.mapM_cons,List.mapM_cons] at hl;simp only[List.mapM_nil,Option.pure_def,Option.bind_eq_bind] at hl;cases ha:compOper P G nt heap ops a <;> rw[ha] at hl <;> cases hb':compOper P G nt heap ops b <;> (try rw[hb'] at hl) <;> cases hc':compOper P G nt heap ops c <;> (try rw[hc'] at hl) <;> simp at hl
    |a::b::c::d::r,hl =>
     rw[List.mapM_cons] at hl;obtain⟨x0,q0,hl⟩:=Option.bind_eq_some_iff.1 hl;obtain⟨t0,w0,hl⟩:=Option.bind_eq_some_iff.1 hl;have e0:=Option.some.inj hl;injection e0 with e00 e01
     subst e00; subst e01;rw[List.mapM_cons] at w0;obtain⟨x1,q1,w0⟩:=Option.bind_eq_some_iff.1 w0;obtain⟨t1,w1,w0⟩:=Option.bind_eq_some_iff.1 w0;have e1:=Option.some.inj w0;injection e1 with e10 e11
     subst e10; subst e11;rw[List.mapM_cons] at w1;obtain⟨x2,q2,w1⟩:=Option.bind_eq_some_iff.1 w1;obtain⟨t2,w2,w1⟩:=Option.bind_eq_some_iff.1 w1;have e2:=Option.some.inj w1;injection e2 with e20 e21
     subst e20; subst e21;rw[List.mapM_cons] at w2;obtain⟨x3,q3,w2⟩:=Option.bind_eq_some_iff.1 w2;obtain⟨t3,w3,w2⟩:=Option.bind_eq_some_iff.1 w2;have e3:=Option.some.inj w2;injection e3 with e30 e31
     subst e30; subst e31;cases r with
     |nil=>exact⟨a,b,c,d,rfl,q0,q1,q2,q3⟩
     |cons y r =>
      rw[List.mapM_cons] at w3;obtain⟨x4,_,w3⟩:=Option.bind_eq_some_iff.1 w3;obtain⟨t4,_,w3⟩:=Option.bind_eq_some_iff.1 w3;cases w3
   have hsz:ops.size=4:=by rw[<- Array.length_toList,ho]; rfl
   rw[ho] at hb hall e2;rw[hsz] at hall e2;have bit:∀ (i j:Nat) (ci cj:AOper),i<j->j<4->([c0,c1,c2,c3].getD i nop)=ci->([c0,c1,c2,c3].getD j nop)=cj->(i,j)≠(1,2)->(sApart ci cj=false\/heavy ci cj=true)->((befs [o0,o1,o2,o3] []).getD j 0).testBit i=true:=λi j ci cj hij hj hi hj' hne hH=>by
    cases hbit:((befs [o0,o1,o2,o3] []).getD j 0).testBit i with
    |true=>rfl
    |false =>
     have hm:=qDd (bs:=befs [o0,o1,o2,o3] []) hij hj hbit
     rcases hH with hs|hs
     ·have:=List.all_eq_true.1 hall _ hm;dsimp only at this;rw[hi,hj',hs] at this; cases this
     ·have:(i,j)∈[(1,2)]:=by
       rw[<- e2];exact List.mem_filter.2 ⟨hm,by dsimp only; rw[hi,hj',hs]⟩
      exact absurd (List.mem_singleton.1 this) hne
   refine⟨o0,o1,o2,o3,ho,k0,k1,k2,k3,hb,bit 0 1 c0 c1 (by decide) (by decide) rfl rfl (by decide) (H (0,1,c0,c1) (by simp)),bit 0 2 c0 c2 (by decide) (by decide) rfl rfl (by decide) (H (0,2,c0,c2) (by simp)),?_,bit 1 3 c1 c3 (by decide) (by decide) rfl rfl (by decide) (H (1,3,c1,c3) (by simp)),bit 2 3 c2 c3 (by decide) (by decide) rfl rfl (by decide) (H (2,3,c2,c3) (by simp))⟩;have hm:(1,2)∈openPairs (befs [o0,o1,o2,o3] []) 4:=by
    have:(1,2)∈([(1,2)]:List (Nat×Nat)):=by simp
    rw[<- e2] at this;exact(List.mem_filter.1 this).1
   unfold openPairs at hm;obtain⟨j,_,hm⟩:=List.mem_flatMap.1 hm;obtain⟨i,hi,e⟩:=List.mem_map.1 hm;cases e;have:=(List.mem_filter.1 hi).2
   simpa using this
  ·cases h
theorem qKA{o:Oper}{md:Array Bool}(h:∀ e∈o.after,Region.binds .any e=true->md.getD e.on false=true):(o.after.all λe => !Region.binds .any e||md.getD e.on false)=true:=by
 rw[Array.all_eq_true'];intro e he;cases hb:Region.binds .any e with
 |false=>simp
 |true=>simp[h e he hb]
theorem qQa{o:Oper}{md:Array Bool}(h:∃ e∈o.after,Region.binds .any e=true/\md.getD e.on false=false):(o.after.all λe => !Region.binds .any e||md.getD e.on false)=false:=by
 cases ha:(o.after.all λe => !Region.binds .any e||md.getD e.on false) with
 |false=>rfl
 |true =>
  obtain⟨e,he,h1,h2⟩:=h;have:=(Array.all_eq_true'.1 ha) e he;rw[h1,h2] at this;cases this
theorem qB6{o0 o1 o2 o3:Oper}{l0 l1 l2 l3 a0 a1 a2 a3:Bool}(h0:(o0.after.all λe => !Region.binds .any e||#[l0,l1,l2,l3].getD e.on false)=a0)(h1:(o1.after.all λe => !Region.binds .any e||#[l0,l1,l2,l3].getD e.on false)=a1)
  (h2:(o2.after.all λe => !Region.binds .any e||#[l0,l1,l2,l3].getD e.on false)=a2) (h3:(o3.after.all λe => !Region.binds .any e||#[l0,l1,l2,l3].getD e.on false)=a3) :
  Region.ready .any #[o0,o1,o2,o3] #[l0,l1,l2,l3]=([(0,!l0&&a0),(1,!l1&&a1),(2,!l2&&a2),(3,!l3&&a3)].filter (·.2)).map (·.1):=by
 unfold Region.ready;show([0,1,2,3]:List Nat).filter _=_;have e0:(!(#[l0,l1,l2,l3]:Array Bool).getD 0 true&&((#[o0,o1,o2,o3][0]?).map (·.after.all λe => !Region.binds .any e||#[l0,l1,l2,l3].getD e.on false)).getD false)=(!l0&&a0):=by rw[<- h0]; rfl
 have e1:(!(#[l0,l1,l2,l3]:Array Bool).getD 1 true&&((#[o0,o1,o2,o3][1]?).map (·.after.all λe => !Region.binds .any e||#[l0,l1,l2,l3].getD e.on false)).getD false)=(!l1&&a1):=by rw[<- h1]; rfl
 have e2:(!(#[l0,l1,l2,l3]:Array Bool).getD 2 true&&((#[o0,o1,o2,o3][2]?).map (·.after.all λe => !Region.binds .any e||#[l0,l1,l2,l3].getD e.on false)).getD false)=(!l2&&a2):=by rw[<- h2]; rfl
 have e3:(!(#[l0,l1,l2,l3]:Array Bool).getD 3 true&&((#[o0,o1,o2,o3][3]?).map (·.after.all λe => !Region.binds .any e||#[l0,l1,l2,l3].getD e.on false)).getD false)=(!l3&&a3):=by rw[<- h3]; rfl
 simp only[List.filter_cons,List.filter_nil,e0,e1,e2,e3];cases (!l0&&a0) <;> cases (!l1&&a1) <;> cases (!l2&&a2) <;> cases (!l3&&a3) <;> rfl
theorem qIv{o0 o1 o2 o3:Oper}(B0:∀ e∈o0.after,Region.binds .any e=false)(B1:∀ e∈o1.after,Region.binds .any e=true->e.on=0)(x1:∃ e∈o1.after,Region.binds .any e=true/\e.on=0)
  (B2:∀ e∈o2.after,Region.binds .any e=true->e.on=0) (x2:∃ e∈o2.after,Region.binds .any e=true/\e.on=0)
  (x31:∃ e∈o3.after,Region.binds .any e=true/\e.on=1) (x32:∃ e∈o3.after,Region.binds .any e=true/\e.on=2) (B3:∀ e∈o3.after,Region.binds .any e=true->e.on<3) :
  Region.ready .any #[o0,o1,o2,o3] #[false,false,false,false]=[0]/\Region.ready .any #[o0,o1,o2,o3] #[true,false,false,false]=[1,2]/\Region.ready .any #[o0,o1,o2,o3] #[true,true,false,false]=[2] /\
   Region.ready .any #[o0,o1,o2,o3] #[true,false,true,false]=[1]/\Region.ready .any #[o0,o1,o2,o3] #[true,true,true,false]=[3]/\Region.ready .any #[o0,o1,o2,o3] #[true,true,true,true]=[]:=by
 have A0:∀ md:Array Bool,(o0.after.all λe => !Region.binds .any e||md.getD e.on false)=true:=λmd=>qKA λe he h=>by rw[B0 e he] at h; cases h
 have T:∀ {o:Oper}(md:Array Bool),(∀ e∈o.after,Region.binds .any e=true->e.on=0)->md.getD 0 false=true->(o.after.all λe => !Region.binds .any e||md.getD e.on false)=true:=λ{o} md B h0=>qKA λe he h=>by rw[B e he h]; exact h0
 have F:∀ {o:Oper}(md:Array Bool)(k:Nat),(∃ e∈o.after,Region.binds .any e=true/\e.on=k)->md.getD k false=false->(o.after.all λe => !Region.binds .any e||md.getD e.on false)=false:=λ{o} md k x h0=>by
  obtain⟨e,he,h1,h2⟩:=x;exact qQa ⟨e,he,h1,by rw[h2]; exact h0⟩
 have T3:∀ md:Array Bool,md.getD 0 false=true->md.getD 1 false=true->md.getD 2 false=true->(o3.after.all λe => !Region.binds .any e||md.getD e.on false)=true:=λmd h0 h1 h2=>qKA λe he h=>by
  have:=B3 e he h
  match hk:e.on,this with
  |0,_=>exact h0
  |1,_=>exact h1
  |2,_=>exact h2
 refine⟨?_,?_,?_,?_,?_,?_⟩
 ·rw[qB6 (A0 _) (F _ 0 x1 rfl) (F _ 0 x2 rfl) (F _ 1 x31 rfl)]; rfl
 ·rw[qB6 (A0 _) (T _ B1 rfl) (T _ B2 rfl) (F _ 1 x31 rfl)]; rfl
 ·rw[qB6 (A0 _) (T _ B1 rfl) (T _ B2 rfl) (F _ 2 x32 rfl)]; rfl
 ·rw[qB6 (A0 _) (T _ B1 rfl) (T _ B2 rfl) (F _ 1 x31 rfl)]; rfl
 ·rw[qB6 (A0 _) (T _ B1 rfl) (T _ B2 rfl) (T3 _ rfl rfl rfl)]; rfl
 ·rw[qB6 (A0 _) (T _ B1 rfl) (T _ B2 rfl) (T3 _ rfl rfl rfl)]; rfl
section
variable [Sym] {P:Program} {G:Nat->Option (List PVal)} {O:Oracle} {nt:Nat} {heap:Nat->Bool}
theorem qKD{ops:Array Oper}{id:Nat}{draw:Bool}(hm:P.follows .mixedOrders=true)(hO:FSound P G O)(hnt:nt<1000000){c0 c1 c2 c3:AOper}
  (h:compReg P G nt heap ops draw=some (.reg [c0,c1,c2,c3] [(1,2)]))
  (H:∀ p∈([(0,1,c0,c1),(0,2,c0,c2),(1,3,c1,c3),(2,3,c2,c3)]:List (Nat×Nat×AOper×AOper)),sApart p.2.2.1 p.2.2.2=false\/heavy p.2.2.1 p.2.2.2=true)
  {st sa sb sc:St} {t0:Touch} {ts ts':List Touch} (s0:stepOp O c0 st=some (sa,t0)) (s1:runOps O [c1,c2,c3] sa=some (sb,ts)) (s2:runOps O [c2,c1,c3] sa=some (sc,ts'))
  {ρ:Env} {I:Imm} (hG:GRel G I) {a:Act} {w:World} (S:SRel nt ρ I st a w) {Q:Exit->Act->World->Prop} (hK1:Leaves P nt ρ I st w sb (Q .normal)) (hK2:Leaves P nt ρ I st w sc (Q .normal)):(Code.region id ops draw).wp P Q a w:=by
 obtain⟨rfl,o0,o1,o2,o3,ho,k0,k1,k2,k3,hb,b1,b2,n2,b31,b32⟩:=qKI h H;obtain⟨B0,B1,x1,B2,x2,x31,x32,B3⟩:=qJY hb b1 b2 n2 b31 b32;obtain⟨r0,r1,r2,r2',r3,r4⟩:=qIv B0 B1 x1 B2 x2 x31 x32 B3;have eo:ops=#[o0,o1,o2,o3]:=Array.toList_inj.1 ho;rw[<- eo] at r0 r1 r2 r2' r3 r4;have hsz:ops.size=4:=by rw[eo]; rfl
 have g0:ops[0]?=some o0:=by rw[eo]; rfl
 have g1:ops[1]?=some o1:=by rw[eo]; rfl
 have g2:ops[2]?=some o2:=by rw[eo]; rfl
 have g3:ops[3]?=some o3:=by rw[eo]; rfl
 exact qKV (heap:=heap) hm hO hnt hsz ⟨o0,g0,k0⟩ ⟨o1,g1,k1⟩ ⟨o2,g2,k2⟩ ⟨o3,g3,k3⟩ r0 r1 r2 r2' r3 r4 s0 s1 s2 hG S hK1 hK2
end
def isSB(b:Bool)(o:AOper):Bool:=match o with
 |⟨none,.store 1 (.t _) (.k (.v (.c (.p (.bool c))))),none⟩=>b==c
 |_=>false
def lite(a b:AOper):Bool := !(sApart a b)||heavy a b
def isChoice(ops:List AOper)(pairs:List (Nat×Nat)):Bool:=match ops,pairs with
 |[c0,c1,c2,c3],[(1,2)]=>isSB true c1&&isSB false c2&&lite c0 c1&&lite c0 c2&&lite c1 c3&&lite c2 c3
 |_,_=>false
theorem qEB{a b:AOper}(h:lite a b=true):sApart a b=false\/heavy a b=true:=by
 unfold lite at h;cases hs:sApart a b with
 |false=>exact .inl rfl
 |true=>rw[hs] at h; exact .inr (by simpa using h)
theorem qCj{ops:List AOper}{pairs:List (Nat×Nat)}(h:isChoice ops pairs=true):∃ c0 c1 c2 c3,ops=[c0,c1,c2,c3]/\pairs=[(1,2)]/\∀ p∈([(0,1,c0,c1),(0,2,c0,c2),(1,3,c1,c3),(2,3,c2,c3)]:List (Nat×Nat×AOper×AOper)),sApart p.2.2.1 p.2.2.2=false\/heavy p.2.2.1 p.2.2.2=true:=by
 unfold isChoice at h;split at h
 ·rename_i c0 c1 c2 c3;simp only[Bool.and_eq_true] at h;obtain⟨⟨⟨⟨⟨_,_⟩,h1⟩,h2⟩,h3⟩,h4⟩:=h;refine⟨c0,c1,c2,c3,rfl,rfl,λp hp => ?_⟩;simp only[List.mem_cons,List.not_mem_nil,or_false] at hp
  rcases hp with rfl|rfl|rfl|rfl
  ·exact qEB h1
  ·exact qEB h2
  ·exact qEB h3
  ·exact qEB h4
 ·cases h
noncomputable section
variable {β:Type}
abbrev bsel{α:Type}(c:Bool)(a b:α):α:=Bool.rec (motive:=λ_=>α) b a c
theorem qF5{α:Type}(c:Bool)(a b:α):bsel c a b=cond c a b:=by cases c <;> rfl
abbrev kI(n:Int):TVal := .v (.c (.p (.int .i64 n)))
abbrev kB(b:Bool):TVal := .v (.c (.p (.bool b)))
abbrev kS(s:List UInt8):TVal := .v (.c (.p (.str s)))
def vop(O:Oracle)(op:AOp)(h:Heap)(d:Nat)(k:TVal->Heap->Option β):Option β:=opK O op .nil h d k
def vtouch(O:Oracle)(op:AOp)(h:Heap)(d:Nat)(k:TVal->Heap->Touch->Option β):Option β :=
 bnd (plan2 op .nil) λp=>bnd (p.exec O d h) λx=>k x.1 x.2.1 x.2.2
def vbin(op:BinOp)(kd:Nat)(a b:TVal)(h:Heap)(k:TVal->Heap->Option β):Option β:=tbin op kd a b λv=>k v h
def vtoInt(kd:IntKind)(a:TVal)(h:Heap)(k:TVal->Heap->Option β):Option β:=tcell a λa=>cInt a λ_ n=>k (.pv (.int kd (wrapF kd n))) h
def vload(agg:Bool)(n:Nat)(a:TVal)(h:Heap)(k:TVal->Heap->Option β):Option β:=tcell a λa =>
 match a with
 |.ptr r off=>bnd (getF h r) λo=>cellsOf o λcs _=>partF agg n cs off λv=>k v h
 |.p (.pptr row off)=>partF agg n (pcells row) off λv=>k v h
 |_=>none
def vstore(n:Nat)(a v:TVal)(h:Heap)(k:TVal->Heap->Option β):Option β:=tcell a λa=>tcomp v λx =>
 match a with
 |.ptr r off=>bnd (getF h r) λo=>cellsOf o λcs imm=>bif Nat.ble imm off&&(Nat.beq (lenF x.cells) n&&Nat.ble (Nat.add off n) (lenF cs)) then k .undef (h.put r (.cells (splice cs off x.cells) imm)) else none
 |_=>none
def vfield(off n:Nat)(agg:Bool)(a:TVal)(h:Heap)(k:TVal->Heap->Option β):Option β:=tcomp a λa=>Comp.rec (motive:=λ_=>Option β) (λ_=>none) (λcs=>partF agg n cs off λv=>k v h) a
def vfaddr(off:Nat)(a:TVal)(h:Heap)(k:TVal->Heap->Option β):Option β:=tcell a λa =>
 match a with
 |.ptr r o=>k (.v (.c (.ptr r (Nat.add o off)))) h
 |.p (.pptr row o)=>k (.pv (.pptr row (Nat.add o off))) h
 |_=>none
def viaddr(sz:Nat)(a i:TVal)(h:Heap)(k:TVal->Heap->Option β):Option β:=tcell a λa=>tcell i λc=>cInt c λ_ z=>natOf z λn =>
 match a with
 |.p (.slice sz' _ rows)=>bif Nat.beq sz' sz then bnd (nthF rows n) λrow=>k (.pv (.pptr row 0)) h else none
 |.tsl sz' rows _=>bif Nat.beq sz' sz then bnd (nthF rows n) λrow=>k (.pv (.pptr row 0)) h else none
 |.sref r off len _ sz'=>bif Nat.beq sz' sz&&Nat.blt n len then k (.v (.c (.ptr r (Nat.add off (Nat.mul n sz))))) h else none
 |_=>none
def vindex(a i:TVal)(h:Heap)(k:TVal->Heap->Option β):Option β:=tcell a λa=>cstr a λs=>tcell i λc=>cInt c λ_ z=>natOf z λn=>bnd (nthF s n) λb=>k (.pv (.int .u8 (.ofNat b.toNat))) h
def vext(a:TVal)(i:Nat)(h:Heap)(k:TVal->Heap->Option β):Option β:=TVal.rec (motive:=λ_=>Option β) (λ_=>none) (λvs=>bnd (nthF vs i) λv=>k (.v v) h) a
def vcall(O:Oracle)(g:TVal)(as:List TVal)(h:Heap)(d:Nat)(k:TVal->Heap->Option β):Option β:=tcell g λg =>
 match g with
 |.func g caps=>callF O g (List.rec (motive:=λ_=>List TVal) as (λ_ _ _=>as++caps.map λr => .v (.c (.ptr r 0))) caps) d h k
 |_=>none
def vlen(O:Oracle)(kd:Nat)(a:TVal)(h:Heap)(d:Nat)(k:TVal->Heap->Option β):Option β:=opK O (.len kd (.k a)) .nil h d k
def vif(c:TVal)(a b:Option β):Option β:=tcell c λc=>cbool c λt=>Bool.rec (motive:=λ_=>Option β) b a t
def vguard(v:TVal)(want:Bool)(doit:(TVal->Heap->Option β)->Option β)(h:Heap)(k:TVal->Heap->Option β):Option β :=
 TVal.rec (motive:=λ_=>Option β) (λc=>Comp.rec (motive:=λ_=>Option β) (λc=>cbool c λb=>bif beqB b want then doit k else k .undef h) (λ_=>none) c)
  (λvs=>List.rec (motive:=λ_=>Option β) (k .undef h) (λ_ _ _=>none) vs) v
def vguardT(v:TVal)(want:Bool)(doit:(TVal->Heap->Touch->Option β)->Option β)(h:Heap)(k:TVal->Heap->Touch->Option β):Option β :=
 TVal.rec (motive:=λ_=>Option β) (λc=>Comp.rec (motive:=λ_=>Option β) (λc=>cbool c λb=>bif beqB b want then doit k else k .undef h noTouch) (λ_=>none) c)
  (λvs=>List.rec (motive:=λ_=>Option β) (k .undef h noTouch) (λ_ _ _=>none) vs) v
abbrev optK(tm:TM TVal)(o:Option X)(k:Option X->Option β):Option β:=Option.rec (motive:=λ_=>Option β) (k none) (λx=>xev tm x λv=>k (some (.k v))) o
abbrev evX(tm:TM TVal)(xs:List X)(k:List X->Option β):Option β:=List.rec (motive:=λ_=>(List X->Option β)->Option β) (λk=>k []) (λx _ ih k=>xev tm x λv=>ih λvs=>k (.k v::vs)) xs k
abbrev ev2(tm:TM TVal)(xs:List (Nat×X))(k:List (Nat×X)->Option β):Option β:=List.rec (motive:=λ_=>(List (Nat×X)->Option β)->Option β) (λk=>k []) (λx _ ih k=>xev tm x.2 λv=>ih λvs=>k ((x.1,.k v)::vs)) xs k
abbrev ev3(tm:TM TVal)(xs:List (Nat×Nat×X))(k:List (Nat×Nat×X)->Option β):Option β:=List.rec (motive:=λ_=>(List (Nat×Nat×X)->Option β)->Option β) (λk=>k []) (λx _ ih k=>xev tm x.2.2 λv=>ih λvs=>k ((x.1,x.2.1,.k v)::vs)) xs k
abbrev subK(tm:TM TVal)(op:AOp)(k:AOp->Option β):Option β:=AOp.rec (motive:=λ_=>Option β)
 (λx=>xev tm x λx=>k (.mv (.k x))) (λc a b=>xev tm c λc=>xev tm a λa=>xev tm b λb=>k (.pick (.k c) (.k a) (.k b))) (λz p=>k (.alloc z p)) (λx p=>xev tm x λx=>k (.box (.k x) p))
 (λz ps=>ev3 tm ps λps=>k (.build z ps)) (λsz n z ps hp=>ev2 tm ps λps=>k (.bslice sz n z ps hp))
 (λa n x=>xev tm x λx=>k (.load a n (.k x))) (λn a v=>xev tm a λa=>xev tm v λv=>k (.store n (.k a) (.k v))) (λx=>xev tm x λx=>k (.nilck (.k x)))
 (λop kd x y=>xev tm x λx=>xev tm y λy=>k (.bin op kd (.k x) (.k y))) (λop x=>xev tm x λx=>k (.un op (.k x))) (λkd x=>xev tm x λx=>k (.toInt kd (.k x)))
 (λx=>xev tm x λx=>k (.toStr (.k x))) (λx=>xev tm x λx=>k (.toBytes (.k x))) (λx=>xev tm x λx=>k (.same (.k x)))
 (λf cs=>evX tm cs λcs=>k (.mkfn f cs)) (k .mkmap) (λsz by' z l c pu=>xev tm l λl=>xev tm c λc=>k (.mkslice sz by' z (.k l) (.k c) pu))
 (λsz s x lo hi mx=>xev tm x λx=>optK tm lo λlo=>optK tm hi λhi=>optK tm mx λmx=>k (.slice sz s (.k x) lo hi mx))
 (λn sz x lo hi=>xev tm x λx=>optK tm lo λlo=>optK tm hi λhi=>k (.sliceA n sz (.k x) lo hi))
 (λo x=>xev tm x λx=>k (.faddr o (.k x))) (λo n a x=>xev tm x λx=>k (.field o n a (.k x))) (λsz x i=>xev tm x λx=>xev tm i λi=>k (.iaddr sz (.k x) (.k i)))
 (λn sz x i=>xev tm x λx=>xev tm i λi=>k (.iaddrA n sz (.k x) (.k i))) (λx i=>xev tm x λx=>xev tm i λi=>k (.index (.k x) (.k i)))
 (λkk z x i ok=>xev tm x λx=>xev tm i λi=>k (.lookup kk z (.k x) (.k i) ok)) (λkk m a b=>xev tm m λm=>xev tm a λa=>xev tm b λb=>k (.mapup kk (.k m) (.k a) (.k b)))
 (λx=>xev tm x λx=>k (.rangeS (.k x))) (λx=>xev tm x λx=>k (.nextS (.k x))) (λx i=>xev tm x λx=>k (.extract (.k x) i))
 (λf as=>xev tm f λf=>evX tm as λas=>k (.call (.k f) as)) (λkd x=>xev tm x λx=>k (.len kd (.k x))) (λx=>xev tm x λx=>k (.cap (.k x)))
 (λsz by' hp a b=>xev tm a λa=>xev tm b λb=>k (.append sz by' hp (.k a) (.k b))) (λsz a b=>xev tm a λa=>xev tm b λb=>k (.copy sz (.k a) (.k b)))
 (λmx xs=>evX tm xs λxs=>k (.minmax mx xs)) none op
abbrev opT(O:Oracle)(op:AOp)(tm:TM TVal)(h:Heap)(d:Nat)(k:TVal->Heap->Option β):Option β:=AOp.rec (motive:=λ_=>Option β)
 (λx=>xev tm x λv=>k v h) (λc a b=>subK tm (.pick c a b) λo=>vop O o h d k) (λz p=>subK tm (.alloc z p) λo=>vop O o h d k) (λx p=>subK tm (.box x p) λo=>vop O o h d k)
 (λz ps=>subK tm (.build z ps) λo=>vop O o h d k) (λsz n z ps hp=>subK tm (.bslice sz n z ps hp) λo=>vop O o h d k)
 (λa n x=>xev tm x λx=>vload a n x h k) (λn a v=>xev tm a λa=>xev tm v λv=>vstore n a v h k) (λx=>subK tm (.nilck x) λo=>vop O o h d k)
 (λop kd x y=>xev tm x λx=>xev tm y λy=>vbin op kd x y h k) (λop x=>subK tm (.un op x) λo=>vop O o h d k) (λkd x=>xev tm x λx=>vtoInt kd x h k)
 (λx=>subK tm (.toStr x) λo=>vop O o h d k) (λx=>subK tm (.toBytes x) λo=>vop O o h d k) (λx=>subK tm (.same x) λo=>vop O o h d k)
 (λf cs=>subK tm (.mkfn f cs) λo=>vop O o h d k) (subK tm .mkmap λo=>vop O o h d k) (λsz by' z l c pu=>subK tm (.mkslice sz by' z l c pu) λo=>vop O o h d k)
 (λsz s x lo hi mx=>subK tm (.slice sz s x lo hi mx) λo=>vop O o h d k) (λn sz x lo hi=>subK tm (.sliceA n sz x lo hi) λo=>vop O o h d k)
 (λo x=>xev tm x λx=>vfaddr o x h k) (λo n a x=>xev tm x λx=>vfield o n a x h k) (λsz x i=>xev tm x λx=>xev tm i λi=>viaddr sz x i h k)
 (λn sz x i=>subK tm (.iaddrA n sz x i) λo=>vop O o h d k) (λx i=>xev tm x λx=>xev tm i λi=>vindex x i h k)
 (λkk z x i ok=>subK tm (.lookup kk z x i ok) λo=>vop O o h d k) (λkk m a b=>subK tm (.mapup kk m a b) λo=>vop O o h d k)
 (λx=>subK tm (.rangeS x) λo=>vop O o h d k) (λx=>subK tm (.nextS x) λo=>vop O o h d k) (λx i=>xev tm x λx=>vext x i h k)
 (λf as=>xev tm f λf=>evAll tm as λas=>vcall O f as h d k) (λkd x=>xev tm x λx=>vlen O kd x h d k) (λx=>subK tm (.cap x) λo=>vop O o h d k)
 (λsz by' hp a b=>subK tm (.append sz by' hp a b) λo=>vop O o h d k) (λsz a b=>subK tm (.copy sz a b) λo=>vop O o h d k)
 (λmx xs=>subK tm (.minmax mx xs) λo=>vop O o h d k) none op
abbrev stepT(O:Oracle)(o:AOper)(st:St)(k:St->Option β):Option β :=
 AOper.rec (motive:=λ_=>Option β) (λdst op guard=>Option.rec (motive:=λ_=>Option β) (opT O op st.tm st.h (dstN dst) λv h=>k ⟨setD st.tm dst v,h⟩)
  (λg=>bnd (st.tm.get g.1) λv=>vguard v g.2 (λkk=>opT O op st.tm st.h (dstN dst) kk) st.h λv h=>k ⟨setD st.tm dst v,h⟩) guard) o
abbrev opsT(O:Oracle)(ops:List AOper):St->(St->Option β)->Option β :=
 List.rec (motive:=λ_=>St->(St->Option β)->Option β) (λst k=>k st) (λo _ ih st k=>stepT O o st λst'=>ih st' k) ops
abbrev stepTT(O:Oracle)(o:AOper)(st:St)(k:St->Touch->Option β):Option β :=
 AOper.rec (motive:=λ_=>Option β) (λdst op guard=>Option.rec (motive:=λ_=>Option β) (subK st.tm op λo=>vtouch O o st.h (dstN dst) λv h t=>k ⟨setD st.tm dst v,h⟩ t)
  (λg=>bnd (st.tm.get g.1) λv=>vguardT v g.2 (λkk=>subK st.tm op λo=>vtouch O o st.h (dstN dst) kk) st.h λv h t=>k ⟨setD st.tm dst v,h⟩ t) guard) o
abbrev opsTT(O:Oracle)(ops:List AOper):St->(St->List Touch->Option β)->Option β :=
 List.rec (motive:=λ_=>St->(St->List Touch->Option β)->Option β) (λst k=>k st []) (λo _ ih st k=>stepTT O o st λst' t=>ih st' λst'' ts=>k st'' (t::ts)) ops
def vboth(a b:Option β):Option β:=@ite _ (a=b) (Classical.propDecidable _) a none
abbrev swap2(l:List AOper):List AOper:=List.rec (motive:=λ_=>List AOper) [] (λa r _=>List.rec (motive:=λ_=>List AOper) [] (λb t _=>b::a::t) r) l
abbrev chT(O:Oracle)(ops:List AOper)(st:St)(k:St->Option β):Option β :=
 List.rec (motive:=λ_=>Option β) none (λc0 r _=>stepT O c0 st λsa=>vboth (opsT O r sa k) (opsT O (swap2 r) sa k)) ops
abbrev regT(O:Oracle)(ops:List AOper)(pairs:List (Nat×Nat))(st:St)(k:St->Option β):Option β :=
 List.rec (motive:=λ_=>Option β) (opsT O ops st k) (λ_ _ _=>bsel (isChoice ops pairs) (chT O ops st k) (opsTT O ops st λst' ts=>bif apartAll ts pairs then k st' else none)) pairs
inductive MC where
 |skip
 |reg (ops:List AOper) (pairs:List (Nat×Nat))
 |seq (a b:MC)
 |cond (c:X) (a b:MC)
 |block (id:Nat) (b:MC)
 |loop (l:Nat) (live:List Nat) (b:MC)
 |mark (l:Nat) (live:List Nat) (b:MC)
 |exit (id:Nat)
 |scope (b:MC)
 |ret
 |bad
def MC.erase:MC->ACode
 |.skip => .skip
 |.reg ops ps => .reg ops ps
 |.seq a b => .seq a.erase b.erase
 |.cond c a b => .cond c a.erase b.erase
 |.block id b => .block id b.erase
 |.loop _ _ b => .loop b.erase
 |.mark _ _ b=>b.erase
 |.exit id => .exit id
 |.scope b => .scope b.erase
 |.ret => .ret
 |.bad => .bad
inductive Fr where
 |seq (b:MC)
 |blk (id:Nat)
 |lp (l:Nat) (live:List Nat)
 |scp
abbrev Res1:=Option (TVal×List AObj)
abbrev Jump:=Nat->List TVal->Heap->Res1
abbrev getAll(tm:TM TVal)(ls:List Nat)(k:List TVal->Res1):Res1:=List.rec (motive:=λ_=>(List TVal->Res1)->Res1) (λk=>k []) (λl _ ih k=>bnd (tm.get l) λv=>ih λvs=>k (v::vs)) ls k
abbrev jump(R:Jump)(l:Nat)(live:List Nat)(st:St):Res1:=getAll st.tm live λvs=>R l vs st.h
abbrev Kont:=AExit->St->Res1
abbrev walk(O:Oracle)(R:Jump)(c:MC):St->Kont->Res1:=MC.rec (motive:=λ_=>St->Kont->Res1)
 (λst k=>k .norm st)
 (λops pairs st k=>regT O ops pairs st λst'=>k .norm st')
 (λ_ _ ra rb st k=>ra st λex st'=>AExit.rec (motive:=λ_=>Res1) (rb st' k) (λid=>k (.exit id) st') (k .ret st') ex)
 (λc _ _ ra rb st k=>xev st.tm c λv=>vif v (ra st k) (rb st k))
 (λid _ r st k=>r st λex st'=>AExit.rec (motive:=λ_=>Res1) (k .norm st') (λj=>bsel (Nat.beq j id) (k .norm st') (k (.exit j) st')) (k .ret st') ex)
 (λl live _ _ st _=>jump R l live st)
 (λl live _ _ st _=>jump R l live st)
 (λid st k=>k (.exit id) st)
 (λ_ r st k=>r st k)
 (λst k=>k .ret st)
 (λ_ _=>none) c
abbrev pop(O:Oracle)(R:Jump)(fin:Kont)(κ:List Fr):Kont:=List.rec (motive:=λ_=>Kont) fin (λf _ ih ex st=>Fr.rec (motive:=λ_=>Res1)
 (λb=>AExit.rec (motive:=λ_=>Res1) (walk O R b st ih) (λid=>ih (.exit id) st) (ih .ret st) ex)
 (λid=>AExit.rec (motive:=λ_=>Res1) (ih .norm st) (λj=>bsel (Nat.beq j id) (ih .norm st) (ih (.exit j) st)) (ih .ret st) ex)
 (λl live=>AExit.rec (motive:=λ_=>Res1) (jump R l live st) (λid=>ih (.exit id) st) (ih .ret st) ex)
 (ih ex st) f) κ
abbrev Lab:=Nat×List Nat×List Fr
abbrev labs(c:MC):List Fr->List Lab:=MC.rec (motive:=λ_=>List Fr->List Lab)
 (λ_=>[]) (λ_ _ _=>[]) (λ_ b la lb κ=>la (.seq b::κ)++lb κ) (λ_ _ _ la lb κ=>la κ++lb κ) (λid _ lb κ=>lb (.blk id::κ))
 (λl live b lb κ=>(l,live,.seq b :: .lp l live::κ)::lb (.lp l live::κ)) (λl live b lb κ=>(l,live,.seq b::κ)::lb κ)
 (λ_ _=>[]) (λ_ lb κ=>lb (.scp::κ)) (λ_=>[]) (λ_=>[]) c
abbrev findL(l:Nat)(es:List Lab):Option (List Nat×List Fr):=List.rec (motive:=λ_=>Option (List Nat×List Fr)) none (λe _ ih=>bif Nat.beq l e.1 then some e.2 else ih) es
structure MFunc where
 np:Nat
 res:List ARes
 frz:Bool
 body:MC
abbrev MFunc.labs(F:MFunc):List Lab:=(0,List.range F.np,[.seq F.body])::AI.labs F.body []
def MFunc.erase(F:MFunc):AFunc:={ np:=F.np,res:=F.res,frz:=F.frz,body:=F.body.erase }
abbrev setAll(ls:List Nat):List TVal->TM TVal->TM TVal:=List.rec (motive:=λ_=>List TVal->TM TVal->TM TVal) (λ_ tm=>tm) (λl _ ih vs tm=>List.rec (motive:=λ_=>TM TVal) tm (λv vs _=>ih vs (tm.set v l)) vs) ls
def vcell(agg:Bool)(size:Nat)(v:TVal)(h:Heap)(k:Comp->Res1):Res1:=tcell v λc=>match c with
 |.ptr r off=>bnd (getF h r) λo=>cellsOf o λcs _=>partF agg size cs off λv=>tcomp v k
 |_=>none
abbrev resM(st:St)(r:ARes)(k:Comp->Res1):Res1 :=
 ARes.rec (motive:=λ_=>Res1) (λn=>bnd (st.tm.get n) λv=>tcomp v k) (λn agg size=>bnd (st.tm.get n) λv=>vcell agg size v st.h k) r
abbrev resAllM(st:St)(rs:List ARes)(k:List Comp->Res1):Res1:=List.rec (motive:=λ_=>(List Comp->Res1)->Res1) (λk=>k []) (λr _ ih k=>resM st r λv=>ih λvs=>k (v::vs)) rs k
def finV(frz:Bool)(vs:List Comp)(h:Heap)(k:Nat):Res1 :=
 let v:TVal:=oneOf vs
 match (if frz then freezeT h v else some (v,[])) with
 |none=>none
 |some (v',fr) =>
  let h:=settle h fr
  let from':=reach h fuelReach ((ims k).flatMap (λr=>match h.get r with|some o=>o.refs|none=>[])++v'.refs) (ims k)
  let objs:=from'.map λr=>match h.get r with|some o=>o.ren (inn from')|none => .dead
  some (v'.ren (inn from'),objs)
def vfin(frz:Bool)(q:Nat)(vs:List Comp)(h:Heap):Res1 :=
 Nat.rec (motive:=λ_=>Res1) (bif allB pComp vs then some (oneOf vs,[]) else finV frz vs h 0) (λm _=>finV frz vs h (m+1)) q
abbrev finM(frz:Bool)(res:List ARes)(q:Nat):Kont:=λex st=>AExit.rec (motive:=λ_=>Res1) (resAllM st res λvs=>vfin frz q vs st.h) (λ_=>none) (resAllM st res λvs=>vfin frz q vs st.h) ex
abbrev stepF(F:MFunc)(O:Oracle)(R:Jump)(q l:Nat)(vs:List TVal)(h:Heap):Res1 :=
 bnd (findL l F.labs) λe=>bsel (Nat.beq (lenF e.1) (lenF vs)) (pop O R (finM F.frz F.res q) e.2 .norm ⟨setAll e.1 vs .nil,h⟩) none
abbrev Mach:=FuncId->Nat->Jump
def orc(S:Oracle)(W:Mach):Oracle:=λf args objs=>Option.rec (motive:=λ_=>Res1) (W f (lenF objs) 0 args { ims:=objs,owns := .nil }) some (S f args objs)
def stepW(T:FuncId->Option MFunc)(S:Oracle)(W:Mach):Mach:=λf q l vs h=>bnd (T f) λF=>stepF F (orc S W) (W f q) q l vs h
def mach(T:FuncId->Option MFunc)(S:Oracle):Nat->Mach
 |0=>λ_ _ _ _ _=>none
 |n+1=>stepW T S (mach T S n)
end
variable {β:Type}
theorem qCX{α γ δ:Type}{f:α->Option δ}{g:γ->Option δ}:∀ {xs:List α}{ys:List γ},All2 (λx y=>f x=g y) xs ys->xs.mapM f=ys.mapM g
 |[],[],_=>rfl
 |_::_,_::_,h=>by rw[List.mapM_cons,List.mapM_cons,h.1,qCX h.2]
theorem qIi{α γ δ:Type}{f:α->δ}{g:γ->δ}:∀ {xs:List α}{ys:List γ},All2 (λx y=>f x=g y) xs ys->xs.map f=ys.map g
 |[],[],_=>rfl
 |_::_,_::_,h=>by rw[List.map_cons,List.map_cons,h.1,qIi h.2]
theorem qHE(tm:TM TVal):∀ (xs:List X) (k:List X->Option β),evX tm xs k=(xs.mapM λx=>X.ev tm x).bind λvs=>k (vs.map .k):=by
 intro xs
 induction xs with
 |nil=>intro k; rfl
 |cons x xs ih =>
  intro k;show xev tm x (λv=>evX tm xs λvs=>k (.k v::vs))=_;rw[qAL,List.mapM_cons];cases x.ev tm with
  |none=>rfl
  |some v=>show evX tm xs (λvs=>k (.k v::vs))=_; rw[ih]; cases xs.mapM λx=>X.ev tm x <;> rfl
theorem qLg(tm:TM TVal):∀ (xs:List (Nat×X)) (k:List (Nat×X)->Option β),ev2 tm xs k=(xs.mapM λx=>(X.ev tm x.2).map λv=>(x.1,X.k v)).bind k:=by
 intro xs
 induction xs with
 |nil=>intro k; rfl
 |cons x xs ih =>
  intro k;show xev tm x.2 (λv=>ev2 tm xs λvs=>k ((x.1,.k v)::vs))=_;rw[qAL,List.mapM_cons];cases x.2.ev tm with
  |none=>rfl
  |some v=>show ev2 tm xs (λvs=>k ((x.1,.k v)::vs))=_; rw[ih]; cases xs.mapM λx=>(X.ev tm x.2).map λv=>(x.1,X.k v) <;> rfl
theorem qLH(tm:TM TVal):∀ (xs:List (Nat×Nat×X)) (k:List (Nat×Nat×X)->Option β),ev3 tm xs k=(xs.mapM λx=>(X.ev tm x.2.2).map λv=>(x.1,x.2.1,X.k v)).bind k:=by
 intro xs
 induction xs with
 |nil=>intro k; rfl
 |cons x xs ih =>
  intro k;show xev tm x.2.2 (λv=>ev3 tm xs λvs=>k ((x.1,x.2.1,.k v)::vs))=_;rw[qAL,List.mapM_cons];cases x.2.2.ev tm with
  |none=>rfl
  |some v=>show ev3 tm xs (λvs=>k ((x.1,x.2.1,.k v)::vs))=_; rw[ih]; cases xs.mapM λx=>(X.ev tm x.2.2).map λv=>(x.1,x.2.1,X.k v) <;> rfl
theorem qIj(tm:TM TVal)(o:Option X)(k:Option X->Option β):optK tm o k=(match o with|none=>some none|some x=>(x.ev tm).map λv=>some (X.k v)).bind k:=by
 cases o with
 |none=>rfl
 |some x=>show xev tm x _=((x.ev tm).map λv=>some (X.k v)).bind k; rw[qAL]; cases x.ev tm <;> rfl
theorem qED(tm:TM TVal)(op:AOp)(k:AOp->Option β):subK tm op k=(subK tm op some).bind k:=by
 cases op <;> simp only[subK,qAL,qHE,qLg,qLH,qIj,Option.bind_assoc,Option.bind_some,Option.bind_none]
theorem qGW(tm tm':TM TVal):∀ {xs:List X}{vs:List TVal},xs.mapM (λx=>X.ev tm x)=some vs->All2 (λx y=>X.ev tm x=X.ev tm' y) xs (vs.map X.k):=by
 intro xs
 induction xs with
 |nil=>intro vs h; simp at h; subst h; trivial
 |cons x xs ih =>
  intro vs h;simp only[List.mapM_cons,Option.bind_eq_bind,Option.bind_eq_some_iff,Option.pure_def,Option.some.injEq] at h;obtain⟨v,h1,vs',h2,rfl⟩:=h;exact⟨h1,ih h2⟩
theorem qPD(tm tm':TM TVal):∀ {xs ys:List (Nat×X)},(xs.mapM λx=>(X.ev tm x.2).map λv=>(x.1,X.k v))=some ys->All2 (λx y=>x.1=y.1/\X.ev tm x.2=X.ev tm' y.2) xs ys:=by
 intro xs
 induction xs with
 |nil=>intro ys h; simp at h; subst h; trivial
 |cons x xs ih =>
  intro ys h;simp only[List.mapM_cons,Option.bind_eq_bind,Option.bind_eq_some_iff,Option.pure_def,Option.some.injEq,Option.map_eq_some_iff] at h;obtain⟨_,⟨v,h1,rfl⟩,vs',h2,rfl⟩:=h;exact⟨⟨rfl,h1⟩,ih h2⟩
theorem qO9(tm tm':TM TVal):∀ {xs ys:List (Nat×Nat×X)},(xs.mapM λx=>(X.ev tm x.2.2).map λv=>(x.1,x.2.1,X.k v))=some ys->All2 (λx y=>x.1=y.1/\x.2.1=y.2.1/\X.ev tm x.2.2=X.ev tm' y.2.2) xs ys:=by
 intro xs
 induction xs with
 |nil=>intro ys h; simp at h; subst h; trivial
 |cons x xs ih =>
  intro ys h;simp only[List.mapM_cons,Option.bind_eq_bind,Option.bind_eq_some_iff,Option.pure_def,Option.some.injEq,Option.map_eq_some_iff] at h;obtain⟨_,⟨v,h1,rfl⟩,vs',h2,rfl⟩:=h;exact⟨⟨rfl,rfl,h1⟩,ih h2⟩
theorem qD5(tm tm':TM TVal){o p:Option X}(h:(match o with|none=>some none|some x=>(x.ev tm).map λv=>some (X.k v))=some p):optN tm o=optN tm' p:=by
 cases o with
 |none=>simp at h; subst h; rfl
 |some x =>
  simp only[Option.map_eq_some_iff] at h;obtain⟨v,h1,rfl⟩:=h;simp only[optN,h1]; rfl
theorem qGX{tm:TM TVal}{op op':AOp}(h:subK tm op some=some op'):plan tm op=plan .nil op':=by
 cases op <;> simp only[subK,qAL,qHE,qLg,qLH,qIj,Option.bind_eq_some_iff,Option.some.injEq] at h
 case mv=>obtain⟨v,h1,rfl⟩:=h; simp only[plan,h1]; rfl
 case pick=>obtain⟨c,h1,a,h2,b,h3,rfl⟩:=h; simp only[plan,h1,h2,h3]; rfl
 case alloc=>subst h; rfl
 case box=>obtain⟨v,h1,rfl⟩:=h; simp only[plan,h1]; rfl
 case build z ps =>
  obtain⟨ys,h1,rfl⟩:=h;unfold plan;dsimp only;refine congrArg (λo=>Option.bind o λps=>(fillA z ps).bind λcs=>some (Plan.pure (.v (.agg cs)))) (qCX (All2.mono (λx y hh => ?_) (qO9 tm .nil h1)));obtain⟨a,b,c⟩:=hh;rw[a,b,c]
 case bslice sz n z ps hp =>
  obtain⟨ys,h1,rfl⟩:=h;unfold plan;dsimp only
  refine congrArg (λo=>Option.bind o λps=>(fillA (rep n z) ps).bind λcs=>match (if hp then none else chunk sz n cs) with
   |some rows=>some (Plan.pure (.v (.c (.p (.slice sz true rows)))))
   |none=>some (Plan.mk1 (.cells cs 0) hp λr => .v (.c (.sref r 0 n (some n) sz)))) (qCX (All2.mono (λx y hh => ?_) (qPD tm .nil h1)))
  obtain⟨a,c⟩:=hh;rw[a,c]
 case load=>obtain⟨v,h1,rfl⟩:=h; simp only[plan,h1]; rfl
 case store=>obtain⟨v,h1,u,h2,rfl⟩:=h; simp only[plan,h1,h2]; rfl
 case nilck=>obtain⟨v,h1,rfl⟩:=h; simp only[plan,h1]; rfl
 case bin=>obtain⟨v,h1,u,h2,rfl⟩:=h; simp only[plan,h1,h2]; rfl
 case un=>obtain⟨v,h1,rfl⟩:=h; simp only[plan,h1]; rfl
 case toInt=>obtain⟨v,h1,rfl⟩:=h; simp only[plan,h1]; rfl
 case toStr=>obtain⟨v,h1,rfl⟩:=h; simp only[plan,h1]; rfl
 case toBytes=>obtain⟨v,h1,rfl⟩:=h; simp only[plan,h1]; rfl
 case same=>obtain⟨v,h1,rfl⟩:=h; simp only[plan,h1]; rfl
 case mkfn f cs =>
  obtain⟨vs,h1,rfl⟩:=h;unfold plan;dsimp only;refine congrArg (λo=>Option.bind o λrs=>some (Plan.pure (.v (.c (.func f rs))))) (qCX (All2.mono (λx y hh => ?_) (qGW tm .nil h1)));rw[hh]
 case mkmap=>subst h; rfl
 case mkslice=>obtain⟨v,h1,u,h2,rfl⟩:=h; simp only[plan,h1,h2]; rfl
 case slice=>obtain⟨v,h1,lo,h2,hi,h3,mx,h4,rfl⟩:=h; simp only[plan,h1,qD5 tm .nil h2,qD5 tm .nil h3,qD5 tm .nil h4]; rfl
 case sliceA=>obtain⟨v,h1,lo,h2,hi,h3,rfl⟩:=h; simp only[plan,h1,qD5 tm .nil h2,qD5 tm .nil h3]; rfl
 case faddr=>obtain⟨v,h1,rfl⟩:=h; simp only[plan,h1]; rfl
 case field=>obtain⟨v,h1,rfl⟩:=h; simp only[plan,h1]; rfl
 case iaddr=>obtain⟨v,h1,u,h2,rfl⟩:=h; simp only[plan,h1,h2]; rfl
 case iaddrA=>obtain⟨v,h1,u,h2,rfl⟩:=h; simp only[plan,h1,h2]; rfl
 case index=>obtain⟨v,h1,u,h2,rfl⟩:=h; simp only[plan,h1,h2]; rfl
 case lookup=>obtain⟨v,h1,u,h2,rfl⟩:=h; simp only[plan,h1,h2]; rfl
 case mapup=>obtain⟨m,h0,v,h1,u,h2,rfl⟩:=h; simp only[plan,h0,h1,h2]; rfl
 case rangeS=>obtain⟨v,h1,rfl⟩:=h; simp only[plan,h1]; rfl
 case nextS=>obtain⟨v,h1,rfl⟩:=h; simp only[plan,h1]; rfl
 case extract=>obtain⟨v,h1,rfl⟩:=h; simp only[plan,h1]; rfl
 case call f as =>
  obtain⟨v,h1,vs,h2,rfl⟩:=h;unfold plan;dsimp only;have e:=qCX (qGW tm .nil h2);rw[h1,e];rfl
 case len=>obtain⟨v,h1,rfl⟩:=h; simp only[plan,h1]; rfl
 case cap=>obtain⟨v,h1,rfl⟩:=h; simp only[plan,h1]; rfl
 case append=>obtain⟨v,h1,u,h2,rfl⟩:=h; simp only[plan,h1,h2]; rfl
 case copy=>obtain⟨v,h1,u,h2,rfl⟩:=h; simp only[plan,h1,h2]; rfl
 case minmax mx xs =>
  obtain⟨vs,h1,rfl⟩:=h;unfold plan;dsimp only;rw[qIi (qGW tm .nil h1)]
 case bad=>exact(Option.some_ne_none _ h.symm).elim
theorem qOR:∀ (as:List TVal) (k:List TVal->Option β),evAll .nil (as.map X.k) k=k as:=by
 intro as
 induction as with
 |nil=>intro k; rfl
 |cons a as ih=>intro k; exact ih λvs=>k (a::vs)
theorem qNa(O:Oracle)(g:TVal)(as:List TVal)(h:Heap)(d:Nat)(k:TVal->Heap->Option β):vcall O g as h d k=(slow O (.call (.k g) (as.map X.k)) .nil h d).bind λx=>k x.1 x.2:=by
 rw[<- qGP];cases g with
 |tup _=>rfl
 |v g=>cases g with
  |agg _=>rfl
  |c g=>cases g with
   |func g caps=>exact(qOR as λas=>callF O g (List.rec (motive:=λ_=>List TVal) as (λ_ _ _=>as++caps.map λr => .v (.c (.ptr r 0))) caps) d h k).symm
   |_=>rfl
theorem qHL(O:Oracle)(op:AOp)(tm:TM TVal)(h:Heap)(d:Nat)(k:TVal->Heap->Option β) :
  opT O op tm h d k=(subK tm op some).bind λop'=>(slow O op' .nil h d).bind λx=>k x.1 x.2:=by
 have hv:∀ op,opT O op tm h d k=subK tm op (λo=>vop O o h d k)->opT O op tm h d k=(subK tm op some).bind λop'=>(slow O op' .nil h d).bind λx=>k x.1 x.2:=by
  intro op e;rw[e,qED];refine congrArg _ (funext λo => ?_);exact qAn O o .nil h d k
 cases op
 case alloc z p=>exact hv (.alloc z p) rfl
 case mkmap=>exact hv .mkmap rfl
 case bad=>rfl
 case mv x =>
  simp only[opT,subK,qAL,Option.bind_assoc,Option.bind_some];exact congrArg _ (funext λv=>qIM O (.k v) .nil h d k)
 case load a n x =>
  simp only[opT,subK,qAL,Option.bind_assoc,Option.bind_some];exact congrArg _ (funext λv=>qDl O a n (.k v) .nil h d k)
 case store n a v =>
  simp only[opT,subK,qAL,Option.bind_assoc,Option.bind_some];exact congrArg _ (funext λa=>congrArg _ (funext λv=>qFC O n (.k a) (.k v) .nil h d k))
 case bin op kd x y =>
  simp only[opT,subK,qAL,Option.bind_assoc,Option.bind_some];exact congrArg _ (funext λa=>congrArg _ (funext λv=>qEd O op kd (.k a) (.k v) .nil h d k))
 case toInt kd x =>
  simp only[opT,subK,qAL,Option.bind_assoc,Option.bind_some];exact congrArg _ (funext λv=>qFB O kd (.k v) .nil h d k)
 case faddr o x =>
  simp only[opT,subK,qAL,Option.bind_assoc,Option.bind_some];exact congrArg _ (funext λv=>qFH O o (.k v) .nil h d k)
 case field o n a x =>
  simp only[opT,subK,qAL,Option.bind_assoc,Option.bind_some];exact congrArg _ (funext λv=>qEx O o n a (.k v) .nil h d k)
 case iaddr sz x i =>
  simp only[opT,subK,qAL,Option.bind_assoc,Option.bind_some];exact congrArg _ (funext λa=>congrArg _ (funext λv=>qDJ O sz (.k a) (.k v) .nil h d k))
 case index x i =>
  simp only[opT,subK,qAL,Option.bind_assoc,Option.bind_some];exact congrArg _ (funext λa=>congrArg _ (funext λv=>qFN O (.k a) (.k v) .nil h d k))
 case extract x i =>
  simp only[opT,subK,qAL,Option.bind_assoc,Option.bind_some];exact congrArg _ (funext λv=>qDm O (.k v) i .nil h d k)
 case len kd x =>
  simp only[opT,subK,qAL,Option.bind_assoc,Option.bind_some];exact congrArg _ (funext λv=>qAn O (.len kd (.k v)) .nil h d k)
 case call f as =>
  simp only[opT,subK,qAL,qHE,qHD,Option.bind_assoc,Option.bind_some];exact congrArg _ (funext λg=>congrArg _ (funext λvs=>qNa O g vs h d k))
 all_goals exact hv _ rfl
theorem qNV{O:Oracle}{tm:TM TVal}{op op':AOp}(h:subK tm op some=some op')(hp:Heap)(d:Nat):slow O op' .nil hp d=slow O op tm hp d:=by
 unfold slow; rw[qGX h]
theorem qHV{O:Oracle}{op:AOp}{tm:TM TVal}{h:Heap}{d:Nat}{k:TVal->Heap->Option β}{r:β}(e:opT O op tm h d k=some r):∃ v h',slow O op tm h d=some (v,h')/\k v h'=some r:=by
 rw[qHL] at e;simp only[Option.bind_eq_some_iff] at e;obtain⟨op',e1,⟨v,h'⟩,e2,e3⟩:=e;exact⟨v,h',by rw[<- qNV e1]; exact e2,e3⟩
theorem qFs{O:Oracle}{dst:Option Nat}{op:AOp}{g:Option (Nat×Bool)}{st:St}{v:TVal}{h':Heap}(e:slow O op st.tm st.h (dst.getD 1000000)=some (v,h')):∃ t,doOp O ⟨dst,op,g⟩ st=some (⟨setDst st.tm dst v,h'⟩,t):=by
 unfold slow at e;simp only[Option.bind_eq_some_iff,Option.map_eq_some_iff,Prod.mk.injEq] at e;obtain⟨p,e1,⟨v1,h1,t⟩,e2,e3,e4⟩:=e;dsimp only at e3 e4;subst e3 e4;exact⟨t,by unfold doOp; dsimp only; rw[e1]; dsimp only; rw[e2]⟩
theorem qES{v:TVal}{want:Bool}{doit:(TVal->Heap->Option β)->Option β}{h:Heap}{k:TVal->Heap->Option β}{r:β}(e:vguard v want doit h k=some r) :
  (v = .pv (.bool want)/\doit k=some r)\/((v = .tup []\/v = .pv (.bool !want))/\k .undef h=some r):=by
 cases v with
 |tup vs=>cases vs with
  |nil=>exact .inr ⟨.inl rfl,e⟩
  |cons _ _=>cases e
 |v c=>cases c with
  |agg _=>cases e
  |c c=>cases c with
   |p p=>cases p with
    |bool b =>
     change (bif beqB b want then doit k else k .undef h)=some r at e;rw[qBj] at e;cases b <;> cases want
     ·exact .inl ⟨rfl,e⟩
     ·exact .inr ⟨.inr rfl,e⟩
     ·exact .inr ⟨.inr rfl,e⟩
     ·exact .inl ⟨rfl,e⟩
    |_=>cases e
   |_=>cases e
theorem qDs{v:TVal}{want:Bool}{doit:(TVal->Heap->Touch->Option β)->Option β}{h:Heap}{k:TVal->Heap->Touch->Option β}{r:β}(e:vguardT v want doit h k=some r) :
  (v = .pv (.bool want)/\doit k=some r)\/((v = .tup []\/v = .pv (.bool !want))/\k .undef h noTouch=some r):=by
 cases v with
 |tup vs=>cases vs with
  |nil=>exact .inr ⟨.inl rfl,e⟩
  |cons _ _=>cases e
 |v c=>cases c with
  |agg _=>cases e
  |c c=>cases c with
   |p p=>cases p with
    |bool b =>
     change (bif beqB b want then doit k else k .undef h noTouch)=some r at e;rw[qBj] at e;cases b <;> cases want
     ·exact .inl ⟨rfl,e⟩
     ·exact .inr ⟨.inr rfl,e⟩
     ·exact .inr ⟨.inr rfl,e⟩
     ·exact .inl ⟨rfl,e⟩
    |_=>cases e
   |_=>cases e
theorem qAO{α:Type}{x:Option α}{k:α->Option β}{r:β}:bnd x k=some r↔∃ a,x=some a/\k a=some r:=by
 rw[qC4,Option.bind_eq_some_iff]
theorem qFP{O:Oracle}{o:AOper}{st:St}{k:St->Option β}{r:β}(e:stepT O o st k=some r):∃ st' t,stepOp O o st=some (st',t)/\k st'=some r:=by
 obtain⟨dst,op,g⟩:=o;cases g with
 |none =>
  obtain⟨v,h',e1,e2⟩:=qHV (show opT O op st.tm st.h (dstN dst) (λv h=>k ⟨setD st.tm dst v,h⟩)=some r from e);rw[qC5] at e1;obtain⟨t,e3⟩:=qFs (g:=none) e1;exact⟨_,t,e3,by rw[<- qAy]; exact e2⟩
 |some g =>
  obtain⟨g,want⟩:=g;obtain⟨v,hv,e⟩:=qAO.1 (show bnd (st.tm.get g) _=some r from e);unfold stepOp;dsimp only;rw[hv]
  rcases qES e with ⟨rfl,e1⟩|⟨h|h,e1⟩
  ·obtain⟨v,h',e1,e2⟩:=qHV e1;rw[qC5] at e1;obtain⟨t,e3⟩:=qFs (g:=some (g,want)) e1;exact⟨_,t,by simpa using e3,by rw[<- qAy]; exact e2⟩
  ·subst h;exact⟨_,noTouch,rfl,by rw[<- qAy]; exact e1⟩
  ·subst h;refine⟨⟨setD st.tm dst .undef,st.h⟩,noTouch,?_,e1⟩;rw[qAy];cases want <;> rfl
theorem qDr{O:Oracle}:∀ {ops:List AOper}{st:St}{k:St->Option β}{r:β},opsT O ops st k=some r->∃ st' ts,runOps O ops st=some (st',ts)/\k st'=some r:=by
 intro ops
 induction ops with
 |nil=>intro st k r e; exact⟨st,[],rfl,e⟩
 |cons o os ih =>
  intro st k r e;obtain⟨st',t,e1,e2⟩:=qFP (show stepT O o st (λst'=>opsT O os st' k)=some r from e);obtain⟨st'',ts,e3,e4⟩:=ih e2;exact⟨st'',t::ts,by simp only[runOps,e1,e3],e4⟩
theorem qEO{O:Oracle}{op:AOp}{h:Heap}{d:Nat}{k:TVal->Heap->Touch->Option β}{r:β}(e:vtouch O op h d k=some r):∃ p v h' t,plan .nil op=some p/\p.exec O d h=some (v,h',t)/\k v h' t=some r:=by
 unfold vtouch at e;simp only[qAO,qAZ] at e;obtain⟨p,e1,⟨v,h',t⟩,e2,e3⟩:=e;exact⟨p,v,h',t,e1,e2,e3⟩
theorem qIC{O:Oracle}{o:AOper}{st:St}{k:St->Touch->Option β}{r:β}(e:stepTT O o st k=some r):∃ st' t,stepOp O o st=some (st',t)/\k st' t=some r:=by
 obtain⟨dst,op,g⟩:=o;have one:∀ (g:Option (Nat×Bool)),(subK st.tm op λo=>vtouch O o st.h (dstN dst) λv h t=>k ⟨setD st.tm dst v,h⟩ t)=some r->∃ st' t,doOp O ⟨dst,op,g⟩ st=some (st',t)/\k st' t=some r:=by
  intro g e;rw[qED,Option.bind_eq_some_iff] at e;obtain⟨op',e1,e2⟩:=e;obtain⟨p,v,h',t,e3,e4,e5⟩:=qEO e2;rw[qC5] at e4;refine⟨_,t,?_,e5⟩;unfold doOp;dsimp only;rw[qGX e1,e3];dsimp only;rw[e4,qAy]
 cases g with
 |none=>exact one none e
 |some g =>
  obtain⟨g,want⟩:=g;obtain⟨v,hv,e⟩:=qAO.1 (show bnd (st.tm.get g) _=some r from e);unfold stepOp;dsimp only;rw[hv]
  rcases qDs e with ⟨rfl,e1⟩|⟨h|h,e1⟩
  ·obtain⟨st',t,e2,e3⟩:=one (some (g,want)) e1;exact⟨st',t,by simpa using e2,e3⟩
  ·subst h;exact⟨_,noTouch,rfl,by rw[<- qAy]; exact e1⟩
  ·subst h;refine⟨⟨setD st.tm dst .undef,st.h⟩,noTouch,?_,e1⟩;rw[qAy];cases want <;> rfl
theorem qJy{O:Oracle}:∀ {ops:List AOper}{st:St}{k:St->List Touch->Option β}{r:β},opsTT O ops st k=some r->∃ st' ts,runOps O ops st=some (st',ts)/\k st' ts=some r:=by
 intro ops
 induction ops with
 |nil=>intro st k r e; exact⟨st,[],rfl,e⟩
 |cons o os ih =>
  intro st k r e;obtain⟨st',t,e1,e2⟩:=qIC (show stepTT O o st (λst' t=>opsTT O os st' λst'' ts=>k st'' (t::ts))=some r from e);obtain⟨st'',ts,e3,e4⟩:=ih e2;exact⟨st'',t::ts,by simp only[runOps,e1,e3],e4⟩
theorem qEs{a b:Option β}{r:β}(h:vboth a b=some r):a=some r/\b=some r:=by
 unfold vboth at h;by_cases e:a=b
 ·rw[if_pos e] at h; exact⟨h,e▸h⟩
 ·rw[if_neg e] at h; cases h
theorem qNC{a b:Option β}{r:β}(h1:a=some r)(h2:b=some r):vboth a b=some r:=by
 unfold vboth;rw[if_pos (h1.trans h2.symm),h1]
theorem qLC{O:Oracle}{ops:List AOper}{pairs:List (Nat×Nat)}{st:St}{k:St->Option β}{r:β}(e:regT O ops pairs st k=some r):(∃ st',runReg O ops pairs st=some st'/\k st'=some r) \/
  ∃ c0 c1 c2 c3 sa t0 sb ts sc ts',ops=[c0,c1,c2,c3]/\isChoice ops pairs=true/\stepOp O c0 st=some (sa,t0)/\runOps O [c1,c2,c3] sa=some (sb,ts)/\runOps O [c2,c1,c3] sa=some (sc,ts')/\k sb=some r/\k sc=some r:=by
 cases pairs with
 |nil =>
  obtain⟨st',ts,e1,e2⟩:=qDr (show opsT O ops st k=some r from e);exact .inl ⟨st',by unfold runReg; rw[e1]; rfl,e2⟩
 |cons p ps =>
  cases hc:isChoice ops (p::ps) with
  |false =>
   change bsel (isChoice ops (p::ps)) (chT O ops st k) (opsTT O ops st (λst' ts=>bif apartAll ts (p::ps) then k st' else none))=some r at e;rw[hc] at e;obtain⟨st',ts,e1,e2⟩:=qJy (show opsTT O ops st (λst' ts=>bif apartAll ts (p::ps) then k st' else none)=some r from e);cases ha:apartAll ts (p::ps) with
   |false=>rw[ha] at e2; cases e2
   |true=>rw[ha] at e2; exact .inl ⟨st',by unfold runReg; rw[e1]; simp only[ha]; rfl,e2⟩
  |true =>
   change bsel (isChoice ops (p::ps)) (chT O ops st k) (opsTT O ops st (λst' ts=>bif apartAll ts (p::ps) then k st' else none))=some r at e;rw[hc] at e;obtain⟨c0,c1,c2,c3,rfl,_,_⟩:=qCj hc;obtain⟨sa,t0,e1,e2⟩:=qFP (show stepT O c0 st (λsa=>vboth (opsT O [c1,c2,c3] sa k) (opsT O [c2,c1,c3] sa k))=some r from e);obtain⟨e3,e4⟩:=qEs e2;obtain⟨sb,ts,e5,e6⟩:=qDr e3;obtain⟨sc,ts',e7,e8⟩:=qDr e4;exact .inr ⟨c0,c1,c2,c3,sa,t0,sb,ts,sc,ts',rfl,rfl,e1,e5,e7,e6,e8⟩
end Go.AI
namespace Go.AI
theorem qCA{tm:TM TVal}:∀ {ls:List Nat}{k:List TVal->Res1}{r:TVal×List AObj},getAll tm ls k=some r->∃ vs,All2 (λl v=>tm.get l=some v) ls vs/\k vs=some r:=by
 intro ls
 induction ls with
 |nil=>intro k r h; exact⟨[],trivial,h⟩
 |cons l ls ih =>
  intro k r h;obtain⟨v,h1,h2⟩:=qAO.1 (show bnd (tm.get l) (λv=>getAll tm ls λvs=>k (v::vs))=some r from h);obtain⟨vs,h3,h4⟩:=ih h2;exact⟨v::vs,⟨h1,h3⟩,h4⟩
theorem qCN:∀ {ls:List Nat}{vs:List TVal}{tm:TM TVal}{t:Nat}{v:TVal},(setAll ls vs tm).get t=some v->(∃ i:Nat,ls[i]?=some t/\vs[i]?=some v)\/tm.get t=some v:=by
 intro ls
 induction ls with
 |nil=>intro vs tm t v h; exact .inr h
 |cons l ls ih =>
  intro vs tm t v h;cases vs with
  |nil=>exact .inr h
  |cons u vs =>
   rcases ih (show(setAll ls vs (tm.set u l)).get t=some v from h) with ⟨i,h1,h2⟩|h1
   ·exact .inl ⟨i+1,by simpa using h1,by simpa using h2⟩
   ·by_cases e:l=t
    ·subst e;have:=TM.get_set_some u tm l v h1;exact .inl ⟨0,rfl,by rw[this]; rfl⟩
    ·rw[TM.get_set_ne u tm l t e] at h1; exact .inr h1
def Well(L:Nat->Option (List Nat×List Fr)):MC->List Fr->Prop
 |.seq a b,κ=>Well L a (.seq b::κ)/\Well L b κ
 |.cond _ a b,κ=>Well L a κ/\Well L b κ
 |.block id b,κ=>Well L b (.blk id::κ)
 |.loop l live b,κ=>L l=some (live,.seq b :: .lp l live::κ)/\Well L b (.lp l live::κ)
 |.mark l live b,κ=>L l=some (live,.seq b::κ)/\Well L b κ
 |.scope b,κ=>Well L b (.scp::κ)
 |_,_=>True
theorem qF9(L:Nat->Option (List Nat×List Fr)):∀ (m:MC) (κ:List Fr),(∀ e∈labs m κ,L e.1=some e.2)->Well L m κ:=by
 intro m
 induction m with
 |seq a b iha ihb=>intro κ h; exact⟨iha _ λe he=>h e (List.mem_append_left _ he),ihb _ λe he=>h e (List.mem_append_right _ he)⟩
 |cond c a b iha ihb=>intro κ h; exact⟨iha _ λe he=>h e (List.mem_append_left _ he),ihb _ λe he=>h e (List.mem_append_right _ he)⟩
 |block id b ih=>intro κ h; exact ih _ h
 |scope b ih=>intro κ h; exact ih _ h
 |loop l live b ih=>intro κ h; exact⟨h (l,live,.seq b :: .lp l live::κ) (List.mem_cons_self ..),ih _ λe he=>h e (List.mem_cons_of_mem _ he)⟩
 |mark l live b ih=>intro κ h; exact⟨h (l,live,.seq b::κ) (List.mem_cons_self ..),ih _ λe he=>h e (List.mem_cons_of_mem _ he)⟩
 |_=>intros; trivial
noncomputable def memB(n:Nat)(l:List Nat):Bool:=List.rec (motive:=λ_=>Bool) false (λa _ ih=>bif Nat.beq n a then true else ih) l
noncomputable def nodupB(l:List Nat):Bool:=List.rec (motive:=λ_=>Bool) true (λa t ih=>bif memB a t then false else ih) l
theorem qE8{n:Nat}:∀ {l:List Nat},memB n l=false->n∉l:=by
 intro l
 induction l with
 |nil=>intro _ h; cases h
 |cons a l ih =>
  intro h;change (bif Nat.beq n a then true else memB n l)=false at h;rw[qAH] at h;by_cases e:n=a
  ·rw[decide_eq_true e] at h; cases h
  ·rw[decide_eq_false e] at h;intro hm
   rcases List.mem_cons.1 hm with hm|hm
   ·exact e hm
   ·exact ih h hm
theorem qGo:∀ {es:List Lab},nodupB (es.map (·.1))=true->∀ e∈es,findL e.1 es=some e.2:=by
 intro es
 induction es with
 |nil=>intro _ e he; cases he
 |cons x es ih =>
  intro h e he;change (bif memB x.1 (es.map (·.1)) then false else nodupB (es.map (·.1)))=true at h;cases hm:memB x.1 (es.map (·.1)) with
  |true=>rw[hm] at h; cases h
  |false =>
   rw[hm] at h;show(bif Nat.beq e.1 x.1 then some x.2 else findL e.1 es)=some e.2;rw[qAH]
   rcases List.mem_cons.1 he with he|he
   ·subst he; rw[decide_eq_true rfl]; rfl
   ·have:¬ e.1=x.1:=λhh=>qE8 hm (by rw[<- hh]; exact List.mem_map_of_mem he)
    rw[decide_eq_false this];exact ih h e he
inductive CF where
 |seq (c:Code)
 |blk (id:Nat)
 |lp (c:Code)
 |scp
def kq(P:Program)(N:Nat)(Q:Exit->Act->World->Prop):List CF->Exit->Act->World->Prop
 |[]=>Q
 |.seq c::κ=>Exit.then (c.wp P (kq P N Q κ)) (kq P N Q κ)
 |.blk id::κ=>Exit.inBlock id (kq P N Q κ)
 |.lp c::κ=>Exit.then (Code.rounds P c (kq P N Q κ) N) (kq P N Q κ)
 |.scp::κ=>Exit.noGoto (kq P N Q κ)
theorem qCm{A A':Act->World->Prop}{Q Q':Exit->Act->World->Prop}(hA:∀ a w,A a w->A' a w)(hQ:∀ e a w,Q e a w->Q' e a w):∀ e a w,Exit.then A Q e a w->Exit.then A' Q' e a w:=by
 intro e a w h;cases e with
 |normal=>exact hA _ _ h
 |_=>exact hQ _ _ _ h
theorem qEM{P:Program}{c:Code}{Q Q':Exit->Act->World->Prop}(hQ:∀ e a w,Q e a w->Q' e a w):∀ (n:Nat) (a:Act) (w:World),Code.rounds P c Q n a w->Code.rounds P c Q' (n+1) a w/\Code.rounds P c Q' n a w:=by
 intro n
 induction n with
 |zero=>intro a w h; exact h.elim
 |succ n ih=>intro a w h; exact⟨wp_mono h (qCm (λa w h=>(ih a w h).1) hQ),wp_mono h (qCm (λa w h=>(ih a w h).2) hQ)⟩
theorem qFf{P:Program}{N:Nat}{Q:Exit->Act->World->Prop}:∀ (κ:List CF) (e:Exit) (a:Act) (w:World),kq P N Q κ e a w->kq P (N+1) Q κ e a w:=by
 intro κ
 induction κ with
 |nil=>intro e a w h; exact h
 |cons f κ ih =>
  intro e a w h;cases f with
  |seq c=>exact qCm (λa w h=>wp_mono h ih) ih e a w h
  |lp c=>exact qCm (λa w h=>(qEM ih N a w h).1) ih e a w h
  |blk id =>
   cases e with
   |exit j =>
    change (if j=id then _ else _) at h;show(if j=id then _ else _);split at h
    ·rename_i e; rw[if_pos e]; exact ih _ _ _ h
    ·rename_i e; rw[if_neg e]; exact ih _ _ _ h
   |_=>exact ih _ _ _ h
  |scp =>
   cases e with
   |goto l=>exact h.elim
   |_=>exact ih _ _ _ h
section
variable (P:Program) (G:Nat->Option (List PVal)) (nt:Nat) (heap:Nat->Bool) (L:Nat->Option (List Nat×List Fr))
def FM:List Fr->List CF->Prop
 |[],[]=>True
 |.seq b::κ,.seq c::κ'=>b.erase=comp P G nt heap c/\Well L b κ/\FM κ κ'
 |.blk i::κ,.blk j::κ'=>i=j/\FM κ κ'
 |.lp l live::κ,.lp c::κ'=>(∃ b,b.erase=comp P G nt heap c/\L l=some (live,.seq b :: .lp l live::κ)/\Well L b (.lp l live::κ))/\FM κ κ'
 |.scp::κ,.scp::κ'=>FM κ κ'
 |_,_=>False
end
variable [Sym]
structure RelS (G:Nat->Option (List PVal)) (nt:Nat) (ρ0:Env) (I0:Imm) (h0:Heap) (w0:World) (st:St) (ρ:Env) (I:Imm) (a:Act) (w:World):Prop where
 S:SRel nt ρ I st a w
 G:GRel G I
 g:Good ρ0 I0 h0 w0 ρ I st.h w
theorem RelS.cut{G:Nat->Option (List PVal)}{nt:Nat}{ρ0:Env}{I0:Imm}{h0:Heap}{w0:World}{st:St}{ρ:Env}{I:Imm}{a:Act}{w:World}(R:RelS G nt ρ0 I0 h0 w0 st ρ I a w){ls:List Nat}{vs:List TVal}(h:All2 (λl v=>st.tm.get l=some v) ls vs) :
  RelS G nt ρ0 I0 h0 w0 ⟨setAll ls vs .nil,st.h⟩ ρ I a w:=by
 refine⟨⟨R.S.heap,λt v e => ?_,R.S.size,R.S.defers⟩,R.G,R.g⟩
 rcases qCN e with ⟨i,h1,h2⟩|h1
 ·obtain⟨v',h3,h4⟩:=h.get i t h1;rw[h2] at h3; cases h3;exact R.S.tm t v h4
 ·rw[TM.get_nil] at h1; cases h1
section
variable {P:Program} {G:Nat->Option (List PVal)} {O:Oracle} {nt:Nat} {heap:Nat->Bool} {L:Nat->Option (List Nat×List Fr)} {ρ0:Env} {I0:Imm} {h0:Heap} {w0:World}
variable {R:Jump} {fin:Kont} {n:Nat} {r:TVal×List AObj} {Q:Exit->Act->World->Prop}
def LabOK(P:Program)(G:Nat->Option (List PVal))(nt:Nat)(heap:Nat->Bool)(L:Nat->Option (List Nat×List Fr))(ρ0:Env)(I0:Imm)(h0:Heap)(w0:World)(R:Jump)(n:Nat)(r:TVal×List AObj)(Q:Exit->Act->World->Prop):Prop :=
 ∀ l live b κ κ' c,L l=some (live,.seq b::κ)->b.erase=comp P G nt heap c->Well L b κ->FM P G nt heap L κ κ'->∀ vs h,R l vs h=some r->∀ ρ I a w,RelS G nt ρ0 I0 h0 w0 ⟨setAll live vs .nil,h⟩ ρ I a w->c.wp P (kq P n Q κ') a w
def PopOK(P:Program)(G:Nat->Option (List PVal))(nt:Nat)(O:Oracle)(ρ0:Env)(I0:Imm)(h0:Heap)(w0:World)(R:Jump)(fin:Kont)(n:Nat)(r:TVal×List AObj)(Q:Exit->Act->World->Prop)(κ:List Fr)(κ':List CF):Prop :=
 ∀ ex st ρ I a w,pop O R fin κ ex st=some r->RelS G nt ρ0 I0 h0 w0 st ρ I a w->kq P (n+1) Q κ' ex.toExit a w
theorem qIU(hm:P.follows .mixedOrders=true)(hO:FSound P G O)(hnt:nt<1000000)(hL:LabOK P G nt heap L ρ0 I0 h0 w0 R n r Q):∀ (m:MC) (κ:List Fr) (κ':List CF) (c:Code) (st:St) (ρ:Env) (I:Imm) (a:Act) (w:World),
  m.erase=comp P G nt heap c->Well L m κ->FM P G nt heap L κ κ'->PopOK P G nt O ρ0 I0 h0 w0 R fin n r Q κ κ'->walk O R m st (pop O R fin κ)=some r->RelS G nt ρ0 I0 h0 w0 st ρ I a w->c.wp P (kq P (n+1) Q κ') a w:=by
 intro m
 induction m with
 |skip =>
  intro κ κ' c st ρ I a w he hw hF hp h X;cases c with
  |skip=>exact Go.wp_skip (hp .norm st ρ I a w h X)
  |label l=>exact wp_label (hp .norm st ρ I a w h X)
  |region id ops draw =>
   simp only[MC.erase,comp] at he;cases hc:compReg P G nt heap ops draw with
   |none=>rw[hc] at he; cases he
   |some x=>obtain⟨_,_,rfl⟩:=qAf hc; rw[hc] at he; cases he
  |cond cx x y=>simp only[MC.erase,comp] at he; split at he <;> cases he
  |_=>simp[MC.erase,comp] at he
 |reg ops pairs =>
  intro κ κ' c st ρ I a w he hw hF hp h X;cases c with
  |region id ops' draw =>
   simp only[MC.erase,comp] at he;cases hc:compReg P G nt heap ops' draw with
   |none=>rw[hc] at he; cases he
   |some x =>
    obtain⟨L',pairs',rfl⟩:=qAf hc;rw[hc] at he;simp only[Option.getD_some,ACode.reg.injEq] at he;obtain⟨rfl,rfl⟩:=he
    rcases qLC (show regT O ops pairs st (λst'=>pop O R fin κ .norm st')=some r from h) with ⟨st',e1,e2⟩|⟨c0,c1,c2,c3,sa,t0,sb,ts,sc,ts',rfl,hch,s0,s1,s2,e2,e3⟩
    ·exact qKT hm hO hnt hc e1 X.G X.S λρ' I' a' w' S' g=>hp .norm st' ρ' I' a' w' e2 ⟨S',X.G.mono g.imm,X.g.trans g⟩
    ·obtain⟨_,_,_,_,hq,rfl,H⟩:=qCj hch;cases hq;exact qKD hm hO hnt hc H s0 s1 s2 X.G X.S (λρ' I' a' w' S' g=>hp .norm sb ρ' I' a' w' e2 ⟨S',X.G.mono g.imm,X.g.trans g⟩) (λρ' I' a' w' S' g=>hp .norm sc ρ' I' a' w' e3 ⟨S',X.G.mono g.imm,X.g.trans g⟩)
  |cond cx x y=>simp only[MC.erase,comp] at he; split at he <;> cases he
  |_=>simp[MC.erase,comp] at he
 |seq x y ihx ihy =>
  intro κ κ' c st ρ I a w he hw hF hp h X;cases c with
  |seq cx cy =>
   simp only[MC.erase,comp,ACode.seq.injEq] at he;refine wp_seq ?_;refine ihx (.seq y::κ) (.seq cy::κ') cx st ρ I a w he.1 hw.1 ⟨he.2,hw.2,hF⟩ ?_ h X;intro ex st ρ I a w h X;cases ex with
   |norm=>exact ihy κ κ' cy st ρ I a w he.2 hw.2 hF hp h X
   |exit id=>exact hp (.exit id) st ρ I a w h X
   |ret=>exact hp .ret st ρ I a w h X
  |region id ops draw =>
   simp only[MC.erase,comp] at he;cases hc:compReg P G nt heap ops draw with
   |none=>rw[hc] at he; cases he
   |some x=>obtain⟨_,_,rfl⟩:=qAf hc; rw[hc] at he; cases he
  |cond cx x y=>simp only[MC.erase,comp] at he; split at he <;> cases he
  |_=>simp[MC.erase,comp] at he
 |cond x m1 m2 ih1 ih2 =>
  intro κ κ' c st ρ I a w he hw hF hp h X;cases c with
  |cond cx c1 c2 =>
   simp only[MC.erase,comp] at he;split at he
   ·rename_i x' hx';simp only[ACode.cond.injEq] at he;obtain⟨rfl,he1,he2⟩:=he;change xev st.tm x (λv=>vif v (walk O R m1 st (pop O R fin κ)) (walk O R m2 st (pop O R fin κ)))=some r at h;rw[qAL,Option.bind_eq_some_iff] at h;obtain⟨v,hv,h⟩:=h;cases v with
    |tup _=>cases h
    |v v=>cases v with
     |agg _=>cases h
     |c v=>cases v with
      |p v=>cases v with
       |bool t =>
        cases t with
        |true=>exact wp_cond_true (qA9 ((X.S.here (P:=P) X.G).ev hx' hv)) (ih1 κ κ' c1 st ρ I a w he1 hw.1 hF hp h X)
        |false=>exact wp_cond_false (qA9 ((X.S.here (P:=P) X.G).ev hx' hv)) (ih2 κ κ' c2 st ρ I a w he2 hw.2 hF hp h X)
       |_=>cases h
      |_=>cases h
   ·cases he
  |region id ops draw =>
   simp only[MC.erase,comp] at he;cases hc:compReg P G nt heap ops draw with
   |none=>rw[hc] at he; cases he
   |some x=>obtain⟨_,_,rfl⟩:=qAf hc; rw[hc] at he; cases he
  |_=>simp[MC.erase,comp] at he
 |block id m ih =>
  intro κ κ' c st ρ I a w he hw hF hp h X;cases c with
  |block j c =>
   simp only[MC.erase,comp,ACode.block.injEq] at he;obtain⟨rfl,he⟩:=he;refine wp_block ?_;refine ih (.blk id::κ) (.blk id::κ') c st ρ I a w he hw ⟨rfl,hF⟩ ?_ h X;intro ex st ρ I a w h X;cases ex with
   |norm=>exact hp .norm st ρ I a w h X
   |exit j =>
    change bsel (Nat.beq j id) (pop O R fin κ .norm st) (pop O R fin κ (.exit j) st)=some r at h;rw[qF5,qAH,Bool.cond_decide] at h;show(if j=id then _ else _);split at h
    ·rename_i e; rw[if_pos e]; exact hp .norm st ρ I a w h X
    ·rename_i e; rw[if_neg e]; exact hp (.exit j) st ρ I a w h X
   |ret=>exact hp .ret st ρ I a w h X
  |region id ops draw =>
   simp only[MC.erase,comp] at he;cases hc:compReg P G nt heap ops draw with
   |none=>rw[hc] at he; cases he
   |some x=>obtain⟨_,_,rfl⟩:=qAf hc; rw[hc] at he; cases he
  |cond cx x y=>simp only[MC.erase,comp] at he; split at he <;> cases he
  |_=>simp[MC.erase,comp] at he
 |loop l live m ih =>
  intro κ κ' c st ρ I a w he hw hF hp h X;cases c with
  |loop c =>
   simp only[MC.erase,comp,ACode.loop.injEq] at he;obtain⟨vs,h1,h2⟩:=qCA (show getAll st.tm live (λvs=>R l vs st.h)=some r from h);have:=hL l live m (.lp l live::κ) (.lp c::κ') c hw.1 he hw.2 ⟨⟨m,he,hw.1,hw.2⟩,hF⟩ vs st.h h2 ρ I a w (X.cut h1);exact wp_mono (wp_loop_rounds (n+1) this) (qFf κ')
  |region id ops draw =>
   simp only[MC.erase,comp] at he;cases hc:compReg P G nt heap ops draw with
   |none=>rw[hc] at he; cases he
   |some x=>obtain⟨_,_,rfl⟩:=qAf hc; rw[hc] at he; cases he
  |cond cx x y=>simp only[MC.erase,comp] at he; split at he <;> cases he
  |_=>simp[MC.erase,comp] at he
 |mark l live m ih =>
  intro κ κ' c st ρ I a w he hw hF hp h X;obtain⟨vs,h1,h2⟩:=qCA (show getAll st.tm live (λvs=>R l vs st.h)=some r from h);exact wp_mono (hL l live m κ κ' c hw.1 he hw.2 hF vs st.h h2 ρ I a w (X.cut h1)) (qFf κ')
 |exit id =>
  intro κ κ' c st ρ I a w he hw hF hp h X;cases c with
  |exit j =>
   simp only[MC.erase,comp,ACode.exit.injEq] at he;subst he;exact wp_exit (hp (.exit id) st ρ I a w h X)
  |region id ops draw =>
   simp only[MC.erase,comp] at he;cases hc:compReg P G nt heap ops draw with
   |none=>rw[hc] at he; cases he
   |some x=>obtain⟨_,_,rfl⟩:=qAf hc; rw[hc] at he; cases he
  |cond cx x y=>simp only[MC.erase,comp] at he; split at he <;> cases he
  |_=>simp[MC.erase,comp] at he
 |scope m ih =>
  intro κ κ' c st ρ I a w he hw hF hp h X;cases c with
  |scope c =>
   simp only[MC.erase,comp,ACode.scope.injEq] at he;refine wp_scope_straight ?_;refine ih (.scp::κ) (.scp::κ') c st ρ I a w he hw hF ?_ h X;intro ex st ρ I a w h X;cases ex with
   |norm=>exact hp .norm st ρ I a w h X
   |exit id=>exact hp (.exit id) st ρ I a w h X
   |ret=>exact hp .ret st ρ I a w h X
  |region id ops draw =>
   simp only[MC.erase,comp] at he;cases hc:compReg P G nt heap ops draw with
   |none=>rw[hc] at he; cases he
   |some x=>obtain⟨_,_,rfl⟩:=qAf hc; rw[hc] at he; cases he
  |cond cx x y=>simp only[MC.erase,comp] at he; split at he <;> cases he
  |_=>simp[MC.erase,comp] at he
 |ret =>
  intro κ κ' c st ρ I a w he hw hF hp h X;cases c with
  |ret=>exact wp_ret (hp .ret st ρ I a w h X)
  |region id ops draw =>
   simp only[MC.erase,comp] at he;cases hc:compReg P G nt heap ops draw with
   |none=>rw[hc] at he; cases he
   |some x=>obtain⟨_,_,rfl⟩:=qAf hc; rw[hc] at he; cases he
  |cond cx x y=>simp only[MC.erase,comp] at he; split at he <;> cases he
  |_=>simp[MC.erase,comp] at he
 |bad=>intro κ κ' c st ρ I a w he hw hF hp h X; cases h
theorem qPo(hm:P.follows .mixedOrders=true)(hO:FSound P G O)(hnt:nt<1000000)(hL:LabOK P G nt heap L ρ0 I0 h0 w0 R n r Q)
  (hfin:∀ ex st ρ I a w,fin ex st=some r->RelS G nt ρ0 I0 h0 w0 st ρ I a w->Q ex.toExit a w):∀ (κ:List Fr) (κ':List CF),FM P G nt heap L κ κ'->PopOK P G nt O ρ0 I0 h0 w0 R fin n r Q κ κ':=by
 intro κ
 induction κ with
 |nil=>intro κ' hF; cases κ' with
  |nil=>exact hfin
  |cons _ _=>exact hF.elim
 |cons f κ ih =>
  intro κ' hF;cases κ' with
  |nil=>cases f <;> exact hF.elim
  |cons f' κ' =>
   intro ex st ρ I a w h X;cases f with
   |seq b=>cases f' with
    |seq c =>
     obtain⟨h1,h2,h3⟩:=hF;cases ex with
     |norm=>exact qIU hm hO hnt hL b κ κ' c st ρ I a w h1 h2 h3 (ih κ' h3) h X
     |exit id=>exact ih κ' h3 (.exit id) st ρ I a w h X
     |ret=>exact ih κ' h3 .ret st ρ I a w h X
    |_=>exact hF.elim
   |blk id=>cases f' with
    |blk id' =>
     obtain⟨rfl,h3⟩:=hF;cases ex with
     |norm=>exact ih κ' h3 .norm st ρ I a w h X
     |exit j =>
      change bsel (Nat.beq j id) (pop O R fin κ .norm st) (pop O R fin κ (.exit j) st)=some r at h;rw[qF5,qAH,Bool.cond_decide] at h;show(if j=id then _ else _);split at h
      ·rename_i e; rw[if_pos e]; exact ih κ' h3 .norm st ρ I a w h X
      ·rename_i e; rw[if_neg e]; exact ih κ' h3 (.exit j) st ρ I a w h X
     |ret=>exact ih κ' h3 .ret st ρ I a w h X
    |_=>exact hF.elim
   |lp l live=>cases f' with
    |lp c =>
     obtain⟨⟨b,h1,h2,h4⟩,h3⟩:=hF;cases ex with
     |norm =>
      obtain⟨vs,e1,e2⟩:=qCA (show getAll st.tm live (λvs=>R l vs st.h)=some r from h);have:=hL l live b (.lp l live::κ) (.lp c::κ') c h2 h1 h4 ⟨⟨b,h1,h2,h4⟩,h3⟩ vs st.h e2 ρ I a w (X.cut e1);exact(qEM (P:=P) (c:=c) (qFf κ') (n+1) a w this).2
     |exit id=>exact ih κ' h3 (.exit id) st ρ I a w h X
     |ret=>exact ih κ' h3 .ret st ρ I a w h X
    |_=>exact hF.elim
   |scp=>cases f' with
    |scp =>
     have h3:FM P G nt heap L κ κ':=hF;cases ex with
     |norm=>exact ih κ' h3 .norm st ρ I a w h X
     |exit id=>exact ih κ' h3 (.exit id) st ρ I a w h X
     |ret=>exact ih κ' h3 .ret st ρ I a w h X
    |_=>exact hF.elim
end
theorem qNw(st:St)(r:ARes)(k:Comp->Res1):resM st r k=(getRes st r).bind k:=by
 rw[<- qIK]; cases r <;> rfl
theorem qKJ(st:St):∀ (rs:List ARes) (k:List Comp->Res1),resAllM st rs k=(rs.mapM (getRes st)).bind k:=by
 intro rs
 induction rs with
 |nil=>intro k; rfl
 |cons r rs ih =>
  intro k;show resM st r (λv=>resAllM st rs λvs=>k (v::vs))=_;rw[qNw,List.mapM_cons];cases getRes st r with
  |none=>rfl
  |some v=>show resAllM st rs (λvs=>k (v::vs))=_; rw[ih]; cases rs.mapM (getRes st) <;> rfl
theorem qBl(frz:Bool)(q:Nat)(vs:List Comp)(h:Heap):vfin frz q vs h=finV frz vs h q:=by
 cases q with
 |succ m=>rfl
 |zero =>
  show(bif allB pComp vs then some (oneOf vs,[]) else finV frz vs h 0)=_;cases hp:allB pComp vs with
  |false=>rfl
  |true =>
   obtain⟨e1,_,e3,e4⟩:=qAU (qBk hp);unfold finV;dsimp only;rw[e4];cases frz <;> simp[e1,e3,ims,settle,reach,fuelReach]
theorem qLE(F:AFunc)(st:St)(q:Nat):finish F st q=(F.res.mapM (getRes st)).bind λvs=>finV F.frz vs st.h q:=by
 unfold finish;cases F.res.mapM (getRes st) <;> rfl
theorem qF1{frz:Bool}{res:List ARes}{q:Nat}{ex:AExit}{st:St}{r:TVal×List AObj}(h:finM frz res q ex st=some r)(F:AFunc)(h1:F.res=res)(h2:F.frz=frz):(ex = .norm\/ex = .ret)/\finish F st q=some r:=by
 have key:(resAllM st res λvs=>vfin frz q vs st.h)=some r->finish F st q=some r:=by
  intro h;rw[qLE,h1,h2,<- h,qKJ];exact congrArg _ (funext λvs=>(qBl _ _ _ _).symm)
 cases ex with
 |norm=>exact⟨.inl rfl,key h⟩
 |exit id=>cases h
 |ret=>exact⟨.inr rfl,key h⟩
def TabM(P:Program)(G:Nat->Option (List PVal))(T:FuncId->Option MFunc):Prop:=∀ f F,T f=some F->(∃ fn heap frz,P.funcs[f]?=some fn/\compF P G heap frz fn=some F.erase)/\nodupB (F.labs.map (·.1))=true
theorem qG2{P:Program}{G:Nat->Option (List PVal)}(hm:P.follows .mixedOrders=true){O:Oracle}(hO:FSound P G O){F:MFunc}{fn:Func}{heap:Nat->Bool}{frz:Bool}(hF:compF P G heap frz fn=some F.erase)
  {ρ0:Env} {I0:Imm} {h0:Heap} {w0:World} {R:Jump} {q n:Nat} {r:TVal×List AObj} {Q:Exit->Act->World->Prop} (hL:LabOK P G fn.ntmps heap (λl=>findL l F.labs) ρ0 I0 h0 w0 R n r Q)
  (hfin:∀ ex st ρ I a w,finM F.frz F.res q ex st=some r->RelS G fn.ntmps ρ0 I0 h0 w0 st ρ I a w->Q ex.toExit a w) :
  LabOK P G fn.ntmps heap (λl=>findL l F.labs) ρ0 I0 h0 w0 (stepF F O R q) (n+1) r Q:=by
 obtain⟨c0,rs,_,_,_,hnt,_,_⟩:=qDi hF;intro l live b κ κ' c hl he hw hk vs h hr ρ I a w X;obtain⟨e,h1,h2⟩:=qAO.1 (show bnd (findL l F.labs) _=some r from hr);dsimp only at hl;rw[hl] at h1;cases h1;dsimp only at h2;cases hb:Nat.beq (lenF live) (lenF vs) with
 |false=>rw[hb] at h2; cases h2
 |true =>
  rw[hb] at h2;exact qIU hm hO hnt hL b κ κ' c _ ρ I a w he hw hk (qPo hm hO hnt hL hfin κ κ' hk) h2 X
theorem qOB{P:Program}{G:Nat->Option (List PVal)}(hm:P.follows .mixedOrders=true){T:FuncId->Option MFunc}(hT:TabM P G T){S:Oracle}(hS:FSound P G S):∀ n,FSound P G (orc S (mach T S n)):=by
 have base:∀ n,(∀ f q l vs h r,mach T S n f q l vs h=some r->∃ F,T f=some F):=by
  intro n f q l vs h r e;cases n with
  |zero=>cases e
  |succ n=>obtain⟨F,h1,_⟩:=qAO.1 (show bnd (T f) _=some r from e); exact⟨F,h1⟩
 have key:∀ n,FSound P G (orc S (mach T S n))/\∀ f F fn heap frz,T f=some F->compF P G heap frz fn=some F.erase->∀ ρ0 I0 h0 w0 q r Q,(∀ ex st ρ I a w,finM F.frz F.res q ex st=some r->RelS G fn.ntmps ρ0 I0 h0 w0 st ρ I a w->Q ex.toExit a w) ->
   LabOK P G fn.ntmps heap (λl=>findL l F.labs) ρ0 I0 h0 w0 (mach T S n f q) n r Q:=by
  intro n
  induction n with
  |zero =>
   refine⟨λf args objs v objs' e => ?_,λf F fn heap frz hf hc ρ0 I0 h0 w0 q r Q hfin l live b κ κ' c hl he hw hk vs h hr=>by cases hr⟩;refine hS f args objs v objs' ?_;unfold orc at e;cases hs:S f args objs with
   |none=>rw[hs] at e; cases e
   |some x=>rw[hs] at e; exact e
  |succ n ih =>
   have lab:∀ f F fn heap frz,T f=some F->compF P G heap frz fn=some F.erase->∀ ρ0 I0 h0 w0 q r Q,(∀ ex st ρ I a w,finM F.frz F.res q ex st=some r->RelS G fn.ntmps ρ0 I0 h0 w0 st ρ I a w->Q ex.toExit a w) ->
     LabOK P G fn.ntmps heap (λl=>findL l F.labs) ρ0 I0 h0 w0 (mach T S (n+1) f q) (n+1) r Q:=by
    intro f F fn heap frz hf hc ρ0 I0 h0 w0 q r Q hfin;have e:mach T S (n+1) f q=stepF F (orc S (mach T S n)) (mach T S n f q) q:=by
     funext l vs h
     show bnd (T f) _=_;rw[hf]
    rw[e];exact qG2 hm ih.1 hc (ih.2 f F fn heap frz hf hc ρ0 I0 h0 w0 q r Q hfin) hfin
   refine⟨λf args objs v objs' e => ?_,lab⟩;unfold orc at e;cases hs:S f args objs with
   |some x=>rw[hs] at e; exact hS f args objs v objs' (hs.trans e)
   |none =>
    rw[hs] at e;change mach T S (n+1) f (lenF objs) 0 args { ims:=objs,owns := .nil }=some (v,objs') at e;obtain⟨F,hf⟩:=base _ _ _ _ _ _ _ e;obtain⟨⟨fn,heap,frz,hfn,hc⟩,hnd⟩:=hT f F hf;obtain⟨c,rs,hb,hrs,hname,hnt,hnp,hFe⟩:=qDi hc;refine⟨⟨fn,hfn,by rw[hb]; rfl,hname⟩,λρ0 I0 w0 avs hG H ha hown => ?_⟩;have hnp':F.np=fn.params.size+fn.nfree:=congrArg AFunc.np hFe;have hres':F.res=rs:=congrArg AFunc.res hFe;have hbody:F.body.erase=comp P G fn.ntmps heap c:=congrArg AFunc.body hFe;have hl0:findL 0 F.labs=some (List.range F.np,[.seq F.body]):=rfl;have hlen:args.length=F.np:=by
     obtain⟨F',h1,h2⟩:=qAO.1 (show bnd (T f) _=_ from e);rw[hf] at h1; cases h1;obtain⟨e1,h3,h4⟩:=qAO.1 (show bnd (findL 0 F.labs) _=_ from h2);rw[hl0] at h3; cases h3;dsimp only at h4;cases hbq:Nat.beq (lenF (List.range F.np)) (lenF args) with
     |false=>rw[hbq] at h4; cases h4
     |true=>have:=Nat.eq_of_beq_eq_true hbq; rw[qAI,qAI,List.length_range] at this; exact this.symm
    have havs:=ha.length;simp only[Array.length_toList] at havs;refine calls_of_wp hfn hb ?_;have hwell:=qF9 (λl=>findL l F.labs) F.body [] λx hx=>qGo hnd x (List.mem_cons_of_mem _ hx)
    refine lab f F fn heap frz hf hc ρ0 I0 { ims:=objs,owns := .nil } w0 (lenF objs) (v,objs') _ ?_ 0 _ F.body [] [] c hl0 hbody hwell trivial args { ims:=objs,owns := .nil } e ρ0 I0 _ w0 ?_
    ·intro ex st ρ' I' a' w' hfin X;obtain⟨hex,hfi⟩:=qF1 hfin F.erase rfl rfl;rw[qAI] at hfi;obtain⟨cv,ρ2,I2,q1,q2,q3,q4,q5⟩:=qGM X.S (fn:=fn) (by rw[hrs]; exact congrArg some hres'.symm) hfi X.g (λi l e=>H.freshi i l e) hown;have done:a'.defers=[]/\∃ cv,(results fn a'.tmps).run P w' = .ok cv w'/\∃ cv' ρ' I',(Ending.returned cv) = .returned cv'/\TRel ρ' I' v cv'/\WRel ρ' I' { ims:=objs',owns := .nil } w'/\Good ρ0 I0 { ims:=objs,owns := .nil } w0 ρ' I' { ims:=objs',owns := .nil } w'/\(∀ d g,ρ' (.own d g)=none) :=
      ⟨X.S.defers,cv,q1,cv,ρ2,I2,rfl,q2,q3,q4,q5⟩
     rcases hex with rfl|rfl
     ·exact done
     ·exact done
    ·refine⟨⟨H,λt u e => ?_,by simp; omega,rfl⟩,hG,Good.refl _ _ _ _⟩
     rcases qCN e with ⟨i,e1,e2⟩|e1
     ·have hi:i=t:=by
       have:=(List.getElem?_eq_some_iff.1 e1).2
       simpa using this
      subst hi;obtain⟨cv,e3,e4⟩:=ha.get i u e2;have htl:=(List.getElem?_eq_some_iff.1 e3).1;simp only[Array.length_toList] at htl;have e3':avs[i]?=some cv:=by simpa using e3
      have:(avs++Array.replicate (fn.ntmps - avs.size) undef)[i]?=some cv:=by rw[Array.getElem?_append_left htl]; exact e3'
      simp only[Array.getD_eq_getD_getElem?,this,Option.getD_some];exact e4
     ·rw[TM.get_nil] at e1; cases e1
 exact λn=>(key n).1
end Go.AI
namespace Go.AI
def Ev(p:Nat->Prop):Prop:=∃ N,∀ n,N<=n->p n
theorem Ev.all{p:Nat->Prop}(h:∀ n,p n):Ev p:=⟨0,λn _=>h n⟩
theorem Ev.mono{p q:Nat->Prop}(h:Ev p)(hpq:∀ n,p n->q n):Ev q:=let ⟨N,hN⟩:=h; ⟨N,λn hn=>hpq n (hN n hn)⟩
theorem Ev.and{p q:Nat->Prop}(h:Ev p)(h':Ev q):Ev λn=>p n/\q n :=
 let ⟨N,hN⟩:=h
 let ⟨M,hM⟩:=h'
 ⟨max N M,λn hn=>⟨hN n (by omega),hM n (by omega)⟩⟩
theorem Ev.mono2{p q r:Nat->Prop}(h:Ev p)(h':Ev q)(hpq:∀ n,p n->q n->r n):Ev r:=(h.and h').mono λn x=>hpq n x.1 x.2
section
variable {β:Type} {O:Oracle} {On:Nat->Oracle}
def OSup(On:Nat->Oracle)(O:Oracle):Prop:=∀ f a o r,O f a o=some r->Ev λn=>On n f a o=some r
theorem qJU(hO:OSup On O){f:FuncId}{args:List TVal}{d:Nat}{h:Heap}{y:TVal×Heap×Touch}(e:callOp O f args d h=some y):Ev λn=>callOp (On n) f args d h=some y:=by
 unfold callOp at e ⊢;dsimp only at e ⊢;split at e
 ·cases e
 ·rename_i objs hobjs;split at e
  ·cases e
  ·rename_i v objs' hr;refine(hO _ _ _ _ hr).mono λn hn => ?_
   rw[hn];exact e
theorem qG4(hO:OSup On O){p:Plan}{d:Nat}{h:Heap}{y:TVal×Heap×Touch}(e:p.exec O d h=some y):Ev λn=>p.exec (On n) d h=some y:=by
 cases p with
 |go needs k=>exact .all λn=>e
 |call f args=>exact qJU (d:=d) hO e
theorem qNl(hO:OSup On O){op:AOp}{tm:TM TVal}{h:Heap}{d:Nat}{y:TVal×Heap}(e:slow O op tm h d=some y):Ev λn=>slow (On n) op tm h d=some y:=by
 unfold slow at e ⊢;simp only[Option.bind_eq_some_iff,Option.map_eq_some_iff] at e;obtain⟨p,e1,x,e2,e3⟩:=e;refine(qG4 hO e2).mono λn hn => ?_
 rw[e1,Option.bind_some,hn,Option.map_some,e3]
theorem qIY(hO:OSup On O){op:AOp}{tm:TM TVal}{h:Heap}{d:Nat}{k:TVal->Heap->Option β}{kn:Nat->TVal->Heap->Option β}{r:β}(hk:∀ v h,k v h=some r->Ev λn=>kn n v h=some r)(e:opT O op tm h d k=some r) :
  Ev λn=>opT (On n) op tm h d (kn n)=some r:=by
 rw[qHL] at e;simp only[Option.bind_eq_some_iff] at e;obtain⟨op',e1,⟨v,h'⟩,e2,e3⟩:=e;refine(qNl hO e2).mono2 (hk _ _ e3) λn h1 h2 => ?_
 rw[qHL,e1,Option.bind_some,h1,Option.bind_some];exact h2
theorem qFl(hO:OSup On O){o:AOper}{st:St}{k:St->Option β}{kn:Nat->St->Option β}{r:β}(hk:∀ st,k st=some r->Ev λn=>kn n st=some r)(e:stepT O o st k=some r):Ev λn=>stepT (On n) o st (kn n)=some r:=by
 obtain⟨dst,op,g⟩:=o;cases g with
 |none=>exact qIY hO (λv h=>hk _) (show opT O op st.tm st.h (dstN dst) (λv h=>k ⟨setD st.tm dst v,h⟩)=some r from e)
 |some g =>
  obtain⟨v,hv,e⟩:=qAO.1 (show bnd (st.tm.get g.1) _=some r from e);have:∀ n,stepT (On n) ⟨dst,op,some g⟩ st (kn n)=vguard v g.2 (λkk=>opT (On n) op st.tm st.h (dstN dst) kk) st.h λv h=>kn n ⟨setD st.tm dst v,h⟩:=by
   intro n;show bnd (st.tm.get g.1) _=_;rw[hv]
  simp only[this]
  rcases qES e with ⟨rfl,e1⟩|⟨h,e1⟩
  ·refine(qIY hO (λv h=>hk ⟨setD st.tm dst v,h⟩) e1).mono λn hn => ?_
   show(bif beqB g.2 g.2 then _ else _)=_;rw[qBj,show(g.2==g.2)=true by simp];exact hn
  ·refine(hk _ e1).mono λn hn => ?_
   rcases h with rfl|rfl
   ·exact hn
   ·show(bif beqB (!g.2) g.2 then _ else _)=_;rw[qBj,show((!g.2)==g.2)=false by cases g.2 <;> rfl];exact hn
theorem qEi(hO:OSup On O):∀ {ops:List AOper}{st:St}{k:St->Option β}{kn:Nat->St->Option β}{r:β},(∀ st,k st=some r->Ev λn=>kn n st=some r)->opsT O ops st k=some r->Ev λn=>opsT (On n) ops st (kn n)=some r:=by
 intro ops
 induction ops with
 |nil=>intro st k kn r hk e; exact hk _ e
 |cons o os ih =>
  intro st k kn r hk e;exact qFl hO (kn:=λn st'=>opsT (On n) os st' (kn n)) (λst' e=>ih hk e) (show stepT O o st (λst'=>opsT O os st' k)=some r from e)
theorem qJ0(hO:OSup On O){op:AOp}{h:Heap}{d:Nat}{k:TVal->Heap->Touch->Option β}{kn:Nat->TVal->Heap->Touch->Option β}{r:β}(hk:∀ v h t,k v h t=some r->Ev λn=>kn n v h t=some r)(e:vtouch O op h d k=some r) :
  Ev λn=>vtouch (On n) op h d (kn n)=some r:=by
 obtain⟨p,v,h',t,e1,e2,e3⟩:=qEO e;refine(qG4 hO e2).mono2 (hk _ _ _ e3) λn h1 h2 => ?_
 unfold vtouch;rw[qAZ,e1,bnd_some,h1,bnd_some];exact h2
theorem qKM(hO:OSup On O){o:AOper}{st:St}{k:St->Touch->Option β}{kn:Nat->St->Touch->Option β}{r:β}(hk:∀ st t,k st t=some r->Ev λn=>kn n st t=some r)(e:stepTT O o st k=some r):Ev λn=>stepTT (On n) o st (kn n)=some r:=by
 obtain⟨dst,op,g⟩:=o;have one:∀ {kk:TVal->Heap->Touch->Option β}{kkn:Nat->TVal->Heap->Touch->Option β},(∀ v h t,kk v h t=some r->Ev λn=>kkn n v h t=some r)->(subK st.tm op λo=>vtouch O o st.h (dstN dst) kk)=some r->Ev λn=>(subK st.tm op λo=>vtouch (On n) o st.h (dstN dst) (kkn n))=some r:=by
  intro kk kkn hkk e;rw[qED,Option.bind_eq_some_iff] at e;obtain⟨op',e1,e2⟩:=e;refine(qJ0 hO hkk e2).mono λn hn => ?_
  rw[qED,e1];exact hn
 cases g with
 |none=>exact one (λv h t=>hk _ _) e
 |some g =>
  obtain⟨v,hv,e⟩:=qAO.1 (show bnd (st.tm.get g.1) _=some r from e);have:∀ n,stepTT (On n) ⟨dst,op,some g⟩ st (kn n)=vguardT v g.2 (λkk=>subK st.tm op λo=>vtouch (On n) o st.h (dstN dst) kk) st.h λv h t=>kn n ⟨setD st.tm dst v,h⟩ t:=by
   intro n;show bnd (st.tm.get g.1) _=_;rw[hv]
  simp only[this]
  rcases qDs e with ⟨rfl,e1⟩|⟨h,e1⟩
  ·refine(one (kkn:=λn v h t=>kn n ⟨setD st.tm dst v,h⟩ t) (λv h t=>hk ⟨setD st.tm dst v,h⟩ t) e1).mono λn hn => ?_
   show(bif beqB g.2 g.2 then _ else _)=_;rw[qBj,show(g.2==g.2)=true by simp];exact hn
  ·refine(hk _ _ e1).mono λn hn => ?_
   rcases h with rfl|rfl
   ·exact hn
   ·show(bif beqB (!g.2) g.2 then _ else _)=_;rw[qBj,show((!g.2)==g.2)=false by cases g.2 <;> rfl];exact hn
theorem qLP(hO:OSup On O):∀ {ops:List AOper}{st:St}{k:St->List Touch->Option β}{kn:Nat->St->List Touch->Option β}{r:β},(∀ st ts,k st ts=some r->Ev λn=>kn n st ts=some r)->opsTT O ops st k=some r->Ev λn=>opsTT (On n) ops st (kn n)=some r:=by
 intro ops
 induction ops with
 |nil=>intro st k kn r hk e; exact hk _ _ e
 |cons o os ih =>
  intro st k kn r hk e;exact qKM hO (kn:=λn st' t=>opsTT (On n) os st' λst'' ts=>kn n st'' (t::ts)) (λst' t e=>ih (kn:=λn st'' ts=>kn n st'' (t::ts)) (λst ts=>hk st (t::ts)) e) (show stepTT O o st (λst' t=>opsTT O os st' λst'' ts=>k st'' (t::ts))=some r from e)
theorem qLf{a b:Option β}{an bn:Nat->Option β}{r:β}(ha:a=some r->Ev λn=>an n=some r)(hb:b=some r->Ev λn=>bn n=some r)(e:vboth a b=some r):Ev λn=>vboth (an n) (bn n)=some r:=by
 obtain⟨e1,e2⟩:=qEs e;exact(ha e1).mono2 (hb e2) λn h1 h2=>qNC h1 h2
theorem qM1(hO:OSup On O){ops:List AOper}{pairs:List (Nat×Nat)}{st:St}{k:St->Option β}{kn:Nat->St->Option β}{r:β}(hk:∀ st,k st=some r->Ev λn=>kn n st=some r)(e:regT O ops pairs st k=some r):Ev λn=>regT (On n) ops pairs st (kn n)=some r:=by
 cases pairs with
 |nil=>exact qEi hO hk (show opsT O ops st k=some r from e)
 |cons p ps =>
  cases hc:isChoice ops (p::ps) with
  |false =>
   change bsel (isChoice ops (p::ps)) (chT O ops st k) (opsTT O ops st (λst' ts=>bif apartAll ts (p::ps) then k st' else none))=some r at e;rw[hc] at e;have key:∀ n,regT (On n) ops (p::ps) st (kn n)=opsTT (On n) ops st (λst' ts=>bif apartAll ts (p::ps) then kn n st' else none):=λn=>by
    show bsel (isChoice ops (p::ps)) (chT (On n) ops st (kn n)) _=_;rw[hc]
   simp only[key];refine qLP hO (kn:=λn st' ts=>bif apartAll ts (p::ps) then kn n st' else none) (λst ts e => ?_) (show opsTT O ops st (λst' ts=>bif apartAll ts (p::ps) then k st' else none)=some r from e);cases h:apartAll ts (p::ps) with
   |false=>rw[h] at e; cases e
   |true=>rw[h] at e; exact hk _ e
  |true =>
   change bsel (isChoice ops (p::ps)) (chT O ops st k) (opsTT O ops st (λst' ts=>bif apartAll ts (p::ps) then k st' else none))=some r at e;rw[hc] at e;have key:∀ n,regT (On n) ops (p::ps) st (kn n)=chT (On n) ops st (kn n):=λn=>by
    show bsel (isChoice ops (p::ps)) (chT (On n) ops st (kn n)) _=_;rw[hc]
   simp only[key];obtain⟨c0,c1,c2,c3,rfl,_,_⟩:=qCj hc;exact qFl hO (kn:=λn sa=>vboth (opsT (On n) [c1,c2,c3] sa (kn n)) (opsT (On n) [c2,c1,c3] sa (kn n))) (λsa e=>qLf (qEi hO hk) (qEi hO hk) e) (show stepT O c0 st (λsa=>vboth (opsT O [c1,c2,c3] sa k) (opsT O [c2,c1,c3] sa k))=some r from e)
variable {R:Jump} {Rn:Nat->Jump}
def RSup(Rn:Nat->Jump)(R:Jump):Prop:=∀ l vs h r,R l vs h=some r->Ev λn=>Rn n l vs h=some r
theorem qEX(hR:RSup Rn R){l:Nat}{live:List Nat}{st:St}{r:TVal×List AObj}(e:jump R l live st=some r):Ev λn=>jump (Rn n) l live st=some r:=by
 obtain⟨vs,h1,h2⟩:=qCA (show getAll st.tm live (λvs=>R l vs st.h)=some r from e);have key:∀ (live:List Nat) (vs:List TVal) (k:List TVal->Res1),All2 (λl v=>st.tm.get l=some v) live vs->getAll st.tm live k=k vs:=by
  intro live
  induction live with
  |nil=>intro vs k h; cases vs with
   |nil=>rfl
   |cons _ _=>exact h.elim
  |cons l live ih=>intro vs k h; cases vs with
   |nil=>exact h.elim
   |cons v vs =>
    show bnd (st.tm.get l) (λv=>getAll st.tm live λvs=>k (v::vs))=_;rw[h.1];exact ih vs _ h.2
 refine(hR _ _ _ _ h2).mono λn hn => ?_
 show getAll st.tm live _=_;rw[key live vs _ h1];exact hn
theorem qMt(hO:OSup On O)(hR:RSup Rn R):∀ (m:MC) {st:St} {k:Kont} {kn:Nat->Kont} {r:TVal×List AObj},(∀ ex st,k ex st=some r->Ev λn=>kn n ex st=some r)->walk O R m st k=some r->Ev λn=>walk (On n) (Rn n) m st (kn n)=some r:=by
 intro m
 induction m with
 |skip=>intro st k kn r hk e; exact hk _ _ e
 |reg ops pairs=>intro st k kn r hk e; exact qM1 hO (kn:=λn st'=>kn n .norm st') (λst=>hk .norm st) e
 |seq a b iha ihb =>
  intro st k kn r hk e;refine iha (kn:=λn ex st'=>AExit.rec (motive:=λ_=>Res1) (walk (On n) (Rn n) b st' (kn n)) (λid=>kn n (.exit id) st') (kn n .ret st') ex) (λex st e => ?_) e;cases ex with
  |norm=>exact ihb hk e
  |exit id=>exact hk _ _ e
  |ret=>exact hk _ _ e
 |cond c a b iha ihb =>
  intro st k kn r hk e;change xev st.tm c (λv=>vif v (walk O R a st k) (walk O R b st k))=some r at e;rw[qAL,Option.bind_eq_some_iff] at e;obtain⟨v,hv,e⟩:=e;have:∀ n,walk (On n) (Rn n) (.cond c a b) st (kn n)=vif v (walk (On n) (Rn n) a st (kn n)) (walk (On n) (Rn n) b st (kn n)):=by
   intro n;show xev st.tm c _=_;rw[qAL,hv]; rfl
  simp only[this];cases v with
  |tup _=>cases e
  |v v=>cases v with
   |agg _=>cases e
   |c v=>cases v with
    |p v=>cases v with
     |bool t=>cases t with
      |true=>exact iha hk e
      |false=>exact ihb hk e
     |_=>cases e
    |_=>cases e
 |block id b ih =>
  intro st k kn r hk e;refine ih (kn:=λn ex st'=>AExit.rec (motive:=λ_=>Res1) (kn n .norm st') (λj=>bsel (Nat.beq j id) (kn n .norm st') (kn n (.exit j) st')) (kn n .ret st') ex) (λex st e => ?_) e;cases ex with
  |norm=>exact hk _ _ e
  |exit j =>
   change bsel (Nat.beq j id) (k .norm st) (k (.exit j) st)=some r at e;show Ev λn=>bsel (Nat.beq j id) (kn n .norm st) (kn n (.exit j) st)=some r
   cases h:Nat.beq j id with
   |true=>rw[h] at e; exact hk _ _ e
   |false=>rw[h] at e; exact hk _ _ e
  |ret=>exact hk _ _ e
 |loop l live b ih=>intro st k kn r hk e; exact qEX hR e
 |mark l live b ih=>intro st k kn r hk e; exact qEX hR e
 |exit id=>intro st k kn r hk e; exact hk _ _ e
 |scope b ih=>intro st k kn r hk e; exact ih hk e
 |ret=>intro st k kn r hk e; exact hk _ _ e
 |bad=>intro st k kn r hk e; cases e
theorem qPE(hO:OSup On O)(hR:RSup Rn R)(fin:Kont):∀ (κ:List Fr) {ex:AExit} {st:St} {r:TVal×List AObj},pop O R fin κ ex st=some r->Ev λn=>pop (On n) (Rn n) fin κ ex st=some r:=by
 intro κ
 induction κ with
 |nil=>intro ex st r e; exact .all λn=>e
 |cons f κ ih =>
  intro ex st r e;cases f with
  |seq b=>cases ex with
   |norm=>exact qMt hO hR b (kn:=λn=>pop (On n) (Rn n) fin κ) (λex st=>ih) e
   |exit id=>exact ih (ex := .exit id) e
   |ret=>exact ih (ex := .ret) e
  |blk id=>cases ex with
   |norm=>exact ih (ex := .norm) e
   |exit j =>
    change bsel (Nat.beq j id) (pop O R fin κ .norm st) (pop O R fin κ (.exit j) st)=some r at e;show Ev λn=>bsel (Nat.beq j id) (pop (On n) (Rn n) fin κ .norm st) (pop (On n) (Rn n) fin κ (.exit j) st)=some r
    cases h:Nat.beq j id with
    |true=>rw[h] at e; exact ih e
    |false=>rw[h] at e; exact ih e
   |ret=>exact ih (ex := .ret) e
  |lp l live=>cases ex with
   |norm=>exact qEX hR e
   |exit id=>exact ih (ex := .exit id) e
   |ret=>exact ih (ex := .ret) e
  |scp=>cases ex with
   |norm=>exact ih (ex := .norm) e
   |exit id=>exact ih (ex := .exit id) e
   |ret=>exact ih (ex := .ret) e
theorem qBn(hO:OSup On O)(hR:RSup Rn R){F:MFunc}{q l:Nat}{vs:List TVal}{h:Heap}{r:TVal×List AObj}(e:stepF F O R q l vs h=some r):Ev λn=>stepF F (On n) (Rn n) q l vs h=some r:=by
 obtain⟨x,e1,e2⟩:=qAO.1 (show bnd (findL l F.labs) _=_ from e);have:∀ n,stepF F (On n) (Rn n) q l vs h=bsel (Nat.beq (lenF x.1) (lenF vs)) (pop (On n) (Rn n) (finM F.frz F.res q) x.2 .norm ⟨setAll x.1 vs .nil,h⟩) none:=by
  intro n;show bnd (findL l F.labs) _=_;rw[e1]
 simp only[this];cases hb:Nat.beq (lenF x.1) (lenF vs) with
 |false=>rw[hb] at e2; cases e2
 |true=>rw[hb] at e2; exact qPE hO hR _ _ e2
end
def WSup(Wn:Nat->Mach)(W:Mach):Prop:=∀ f q l vs h r,W f q l vs h=some r->Ev λn=>Wn n f q l vs h=some r
theorem qIo{S:Oracle}{Wn:Nat->Mach}{W:Mach}(hW:WSup Wn W):OSup (λn=>orc S (Wn n)) (orc S W):=by
 intro f a o r e;have h1:∀ W':Mach,orc S W' f a o=Option.rec (motive:=λ_=>Res1) (W' f (lenF o) 0 a { ims:=o,owns := .nil }) some (S f a o):=λ_=>rfl
 simp only[h1] at e ⊢;cases hs:S f a o with
 |some x=>rw[hs] at e; exact .all λn=>e
 |none=>rw[hs] at e; exact hW _ _ _ _ _ _ e
theorem qGJ{T:FuncId->Option MFunc}{S:Oracle}{Wn:Nat->Mach}{W:Mach}(hW:WSup Wn W):WSup (λn=>stepW T S (Wn n)) (stepW T S W):=by
 intro f q l vs h r e;obtain⟨F,e1,e2⟩:=qAO.1 (show bnd (T f) _=_ from e);refine(qBn (qIo (S:=S) hW) (R:=W f q) (Rn:=λn=>Wn n f q) (λl vs h r=>hW f q l vs h r) e2).mono λn hn => ?_
 show bnd (T f) _=_;rw[e1];exact hn
def WLe(W W':Mach):Prop:=∀ f q l vs h r,W f q l vs h=some r->W' f q l vs h=some r
theorem qEZ{T:FuncId->Option MFunc}{S:Oracle}{W W':Mach}(h:WLe W W'):WLe (stepW T S W) (stepW T S W'):=by
 intro f q l vs hp r e;obtain⟨N,hN⟩:=qGJ (Wn:=λ_=>W') (λf q l vs hp r e => .all λ_=>h f q l vs hp r e) f q l vs hp r e;exact hN N (Nat.le_refl _)
section
variable (T:FuncId->Option MFunc) (S:Oracle)
theorem qGv:∀ n,WLe (mach T S n) (mach T S (n+1)):=by
 intro n
 induction n with
 |zero=>intro f q l vs h r e; cases e
 |succ n ih=>exact qEZ ih
theorem qFd{n m:Nat}(h:n<=m):WLe (mach T S n) (mach T S m):=by
 induction h with
 |refl=>exact λf q l vs h r e=>e
 |step _ ih=>exact λf q l vs h r e=>qGv T S _ _ _ _ _ _ _ (ih _ _ _ _ _ _ e)
open Classical in
noncomputable def lim:Mach:=λf q l vs h=>if e:∃ r,∃ n,mach T S n f q l vs h=some r then some e.choose else none
variable {T S}
theorem qLl{n:Nat}{f:FuncId}{q l:Nat}{vs:List TVal}{h:Heap}{r:TVal×List AObj}(e:mach T S n f q l vs h=some r):lim T S f q l vs h=some r:=by
 have hx:∃ r,∃ n,mach T S n f q l vs h=some r:=⟨r,n,e⟩;unfold lim;rw[dif_pos hx];obtain⟨m,hm⟩:=hx.choose_spec;have h1:=qFd T S (Nat.le_max_left n m) _ _ _ _ _ _ e;have h2:=qFd T S (Nat.le_max_right n m) _ _ _ _ _ _ hm;rw[h1] at h2;exact h2.symm
theorem qHS{f:FuncId}{q l:Nat}{vs:List TVal}{h:Heap}{r:TVal×List AObj}(e:lim T S f q l vs h=some r):∃ n,mach T S n f q l vs h=some r:=by
 unfold lim at e;split at e
 ·rename_i hx;cases e;exact hx.choose_spec
 ·cases e
theorem qIs:WSup (mach T S) (lim T S):=λf q l vs h r e=>let ⟨n,hn⟩:=qHS e; ⟨n,λm hm=>qFd T S hm _ _ _ _ _ _ hn⟩
theorem qLh(f:FuncId)(q l:Nat)(vs:List TVal)(h:Heap):lim T S f q l vs h=stepW T S (lim T S) f q l vs h:=by
 refine Option.ext λr=>⟨λe => ?_,λe => ?_⟩
 ·obtain⟨n,hn⟩:=qHS e;cases n with
  |zero=>cases hn
  |succ n=>exact qEZ (λf q l vs h r=>qLl) f q l vs h r hn
 ·obtain⟨N,hN⟩:=qGJ qIs f q l vs h r e;exact qLl (n:=N+1) (hN N (Nat.le_refl _))
theorem qAA{f:FuncId}{F:MFunc}(hf:T f=some F)(q l:Nat)(vs:List TVal)(h:Heap):lim T S f q l vs h=stepF F (orc S (lim T S)) (lim T S f q) q l vs h:=by
 rw[qLh];show bnd (T f) _=_;rw[hf]
theorem qCH[Sym]{P:Program}{G:Nat->Option (List PVal)}(hm:P.follows .mixedOrders=true)(hT:TabM P G T)(hS:FSound P G S):FSound P G (orc S (lim T S)):=by
 intro f args objs v objs' e;obtain⟨N,hN⟩:=qIo (S:=S) qIs f args objs _ e;exact qOB hm hT hS N f args objs v objs' (hN N (Nat.le_refl _))
end
inductive Blk where
 |z (f:Heap->Res1)
 |s (f:TVal->Blk)
noncomputable def Blk.app(b:Blk):List TVal->Heap->Res1:=Blk.rec (motive:=λ_=>List TVal->Heap->Res1)
 (λf vs h=>List.rec (motive:=λ_=>Res1) (f h) (λ_ _ _=>none) vs) (λ_ ih vs h=>List.rec (motive:=λ_=>Res1) none (λx t _=>ih x t h) vs) b
def Blk.Holds:Blk->(List TVal->Heap->Res1)->Prop
 |.z f,g=>∀ h,f h=g [] h
 |.s f,g=>∀ x,(f x).Holds λvs h=>g (x::vs) h
theorem Blk.ok:∀ {b:Blk}{g:List TVal->Heap->Res1},b.Holds g->∀ {vs:List TVal}{h:Heap}{r:TVal×List AObj},b.app vs h=some r->g vs h=some r:=by
 intro b
 induction b with
 |z f =>
  intro g H vs h r e;cases vs with
  |nil=>exact(H h).symm.trans e
  |cons _ _=>cases e
 |s f ih =>
  intro g H vs h r e;cases vs with
  |nil=>cases e
  |cons x t=>exact ih x (H x) e
abbrev BlkF:=Oracle->Jump->Nat->List Blk
noncomputable def stepU(D:FuncId->Option BlkF)(S:Oracle)(W:Mach):Mach:=λf q l vs h=>bnd (D f) λB=>bnd (nthF (B (orc S W) (W f q) q) l) λb=>b.app vs h
noncomputable def machU(D:FuncId->Option BlkF)(S:Oracle)(n:Nat):Mach:=Nat.rec (motive:=λ_=>Mach) (λ_ _ _ _ _=>none) (λ_ ih=>stepU D S ih) n
def HoldsAll(F:MFunc)(O:Oracle)(R:Jump)(q:Nat):Nat->List Blk->Prop
 |_,[]=>True
 |i,b::bs=>b.Holds (λvs h=>stepF F O R q i vs h)/\HoldsAll F O R q (i+1) bs
theorem HoldsAll.get{F:MFunc}{O:Oracle}{R:Jump}{q:Nat}:∀ {bs:List Blk}{i:Nat},HoldsAll F O R q i bs->∀ {l:Nat}{b:Blk},nthF bs l=some b->b.Holds λvs h=>stepF F O R q (i+l) vs h:=by
 intro bs
 induction bs with
 |nil=>intro i _ l b e; cases e
 |cons b bs ih =>
  intro i h l b' e;cases l with
  |zero=>cases e; exact h.1
  |succ l =>
   have:=ih h.2 (show nthF bs l=some b' from e);rw[show i+(l+1)=i+1+l by omega];exact this
def BOK(T:FuncId->Option MFunc)(D:FuncId->Option BlkF):Prop:=∀ f B,D f=some B->∃ F,T f=some F/\∀ O R q,HoldsAll F O R q 0 (B O R q)
theorem qBC{T:FuncId->Option MFunc}{D:FuncId->Option BlkF}{S:Oracle}(h:BOK T D):∀ n,WLe (machU D S n) (lim T S):=by
 intro n
 induction n with
 |zero=>intro f q l vs hp r e; cases e
 |succ n ih =>
  intro f q l vs hp r e;obtain⟨B,e1,e2⟩:=qAO.1 (show bnd (D f) _=some r from e);obtain⟨b,e3,e4⟩:=qAO.1 e2;obtain⟨F,hF,hB⟩:=h f B e1;have e5:=Blk.ok ((hB (orc S (machU D S n)) (machU D S n f q) q).get e3) e4;rw[Nat.zero_add] at e5;have e6:stepW T S (machU D S n) f q l vs hp=some r:=by
   show bnd (T f) _=some r;rw[hF];show stepF F (orc S (machU D S n)) (machU D S n f q) q l vs hp=some r;exact e5
  rw[qLh];exact qEZ ih f q l vs hp r e6
theorem qNm{P:Program}{G:Nat->Option (List PVal)}{t:TM MFunc}(h:TM.All (λf F=>(∃ fn heap frz,P.funcs[f]?=some fn/\compF P G heap frz fn=some F.erase)/\nodupB (F.labs.map (·.1))=true) t (λn=>n)):TabM P G t.get:=λ_ _ e=>TM.All.get h e
theorem qOZ{T:TM MFunc}{t:TM BlkF}(h:TM.All (λf B=>∃ F,T.get f=some F/\∀ O R q,HoldsAll F O R q 0 (B O R q)) t (λn=>n)):BOK T.get t.get:=λ_ _ e=>TM.All.get h e
end Go.AI
namespace Go.AI
open Go.RowKit Go.ChangeShapes Go.WideShapes
noncomputable def h0:Heap:={ ims:=[],owns := .nil }
section
variable [Sym] {P:Program} {G:Nat->Option (List PVal)} {T:FuncId->Option MFunc} {D:FuncId->Option BlkF}
theorem qNW{S:Oracle}(hm:P.follows .mixedOrders=true)(hT:TabM P G T)(hS:FSound P G S){f:FuncId}{args:List TVal}{objs:List AObj}(h:orc S (lim T S) f args []=some (.pv (.bool true),objs)){I:Imm}(hG:GRel G I){w:World}
  (h1:∀ b o v,I.cell b o=some v->w.cell? ⟨b,o,none⟩=some v) (h2:∀ b arr c,I.map b=some (arr,c)->w.heap[b]?=some (.map arr c)) {avs:Array Value} (ha:All2 (TRel noEnv I) args avs.toList) :
  Calls P f avs w λe w'=>e = .returned (.bool true)/\Below w.heap.size w w' :=
 Calls.mono (qM3 (qCH hm hT hS) h hG h1 h2 ha) λe w' ⟨cv,ρ',I',e1,e2,e3⟩=>⟨by rw[e1,qA9 e2],e3⟩
end
section
variable {β:Type} {O:Oracle} {h:Heap} {d:Nat} {k:TVal->Heap->Option β}
abbrev kN(K:IntKind)(n:Int):TVal := .v (.c (.p (.int K n)))
abbrev kU(b:UInt8):TVal := .v (.c (.p (.int .u8 (b.toNat:Int))))
theorem qAt(K:IntKind):keq K K=true:=by cases K <;> rfl
theorem qAK(kd:Nat)(K:IntKind)(a b:Int):vbin .add kd (kN K a) (kN K b) h k=k (kN K (K.wrap (a+b))) h:=by
 rw[<- qAk]; show bnd (bif keq K K then _ else _) _=_; rw[qAt]; rfl
theorem qEp(kd:Nat)(K:IntKind)(a b:Int):vbin .sub kd (kN K a) (kN K b) h k=k (kN K (K.wrap (a - b))) h:=by
 rw[<- qAk]; show bnd (bif keq K K then _ else _) _=_; rw[qAt]; rfl
theorem qHP(kd:Nat)(K:IntKind)(a b:Int):vbin .mul kd (kN K a) (kN K b) h k=k (kN K (K.wrap (a*b))) h:=by
 rw[<- qAk]; show bnd (bif keq K K then _ else _) _=_; rw[qAt]; rfl
theorem qAw(kd:Nat)(K:IntKind)(a b:Int):vbin .eql kd (kN K a) (kN K b) h k=k (kB (decide (a=b))) h:=by
 rw[<- qBq]; show bnd (bif keq K K then _ else _) _=_; rw[qAt]; rfl
theorem qEf(kd:Nat)(K:IntKind)(a b:Int):vbin .neq kd (kN K a) (kN K b) h k=k (kB (!decide (a=b))) h:=by
 rw[<- qBq]; show bnd (bif keq K K then _ else _) _=_; rw[qAt]; rfl
theorem qAV(kd:Nat)(K:IntKind)(a b:Int):vbin .lss kd (kN K a) (kN K b) h k=k (kB (decide (a<b))) h:=by
 rw[<- qBi]; show bnd (bif keq K K then _ else _) _=_; rw[qAt]; rfl
theorem qBF(kd:Nat)(K:IntKind)(a b:Int):vbin .gtr kd (kN K a) (kN K b) h k=k (kB (decide (b<a))) h:=by
 rw[<- qBi]; show bnd (bif keq K K then _ else _) _=_; rw[qAt]; rfl
theorem qHF(kd:Nat)(K:IntKind)(a b:Int):vbin .leq kd (kN K a) (kN K b) h k=k (kB (!decide (b<a))) h:=by
 rw[<- qBi]; show bnd (bif keq K K then _ else _) _=_; rw[qAt]; rfl
theorem qG0(kd:Nat)(K:IntKind)(a b:Int):vbin .geq kd (kN K a) (kN K b) h k=k (kB (!decide (a<b))) h:=by
 rw[<- qBi]; show bnd (bif keq K K then _ else _) _=_; rw[qAt]; rfl
theorem qBQ(kd:Nat)(K:IntKind)(a b:Int)(hb:b≠0):vbin .rem kd (kN K a) (kN K b) h k=k (kN K (a.tmod b)) h:=by
 show bnd (bif keq K K then (bif beqI b 0 then _ else _) else _) _=_; rw[qAt,qBq,decide_eq_false hb]; rfl
theorem qBS(kd:Nat)(K:IntKind)(a b:Int)(hb:b≠0):vbin .quo kd (kN K a) (kN K b) h k=k (kN K (K.wrap (a.tdiv b))) h:=by
 rw[<- qAk]; show bnd (bif keq K K then (bif beqI b 0 then _ else _) else _) _=_; rw[qAt,qBq,decide_eq_false hb]; rfl
theorem qCC(kd:Nat)(a b:List UInt8)(hl:a.length+b.length<=4611686018427387904):vbin .add kd (kS a) (kS b) h k=k (kS (a++b)) h:=by
 show bnd (bif Nat.ble (Nat.add (lenF a) (lenF b)) 4611686018427387904 then _ else _) _=_;rw[qAI,qAI,show Nat.ble (a.length.add b.length) 4611686018427387904=true from Nat.ble_eq_true_of_le hl]; rfl
theorem qDq(kd:Nat)(a b:List UInt8):vbin .eql kd (kS a) (kS b) h k=k (kB (decide (a=b))) h:=by
 show k (kB (beqS a b)) h=_;rw[qD8]
 congr 4
 by_cases e:a=b
 ·subst e; simp
 ·rw[decide_eq_false e]; simp[e]
theorem qLn(kd:Nat)(a b:List UInt8):vbin .neq kd (kS a) (kS b) h k=k (kB (!decide (a=b))) h:=by
 show k (kB (!beqS a b)) h=_;rw[qD8]
 congr 5
 by_cases e:a=b
 ·subst e; simp
 ·rw[decide_eq_false e]; simp[e]
theorem qK6(a b:Bool):vbin .eql 5 (kB a) (kB b) h k=k (kB (a==b)) h:=id rfl
theorem qLI(a b:Bool):vbin .neq 5 (kB a) (kB b) h k=k (kB (!(a==b))) h:=id rfl
theorem qGa(b:Bool)(x y:Option β):vif (kB b) x y=if b=true then x else y:=by cases b <;> rfl
theorem qBs(doit:(TVal->Heap->Option β)->Option β):vguard (kB true) true doit h k=doit k:=id rfl
theorem qCk(doit:(TVal->Heap->Option β)->Option β):vguard (kB false) false doit h k=doit k:=id rfl
theorem qCv(doit:(TVal->Heap->Option β)->Option β):vguard (kB true) false doit h k=k .undef h:=id rfl
theorem qBr(doit:(TVal->Heap->Option β)->Option β):vguard (kB false) true doit h k=k .undef h:=id rfl
theorem qAR(x y:Option β):vif (kB true) x y=x:=id rfl
theorem qAQ(x y:Option β):vif (kB false) x y=y:=id rfl
theorem qAg(w:Bool)(doit:(TVal->Heap->Option β)->Option β):vguard .undef w doit h k=k .undef h:=id rfl
theorem vnot(b:Bool):vop O (.un .not (.k (kB b))) h d k=k (kB (!b)) h:=id rfl
theorem vneg(K:IntKind)(a:Int):vop O (.un .neg (.k (kN K a))) h d k=k (kN K (K.wrap (0 - a))) h:=id rfl
theorem qBW(a b:TVal):vop O (.pick (.k (kB true)) (.k a) (.k b)) h d k=k a h:=id rfl
theorem qBX(a b:TVal):vop O (.pick (.k (kB false)) (.k a) (.k b)) h d k=k b h:=id rfl
theorem qAh(s:List UInt8):vlen O 0 (kS s) h d k=k (kI (s.length:Int)) h:=by
 show k (kI (.ofNat (lenF s))) h=_; rw[qAI]; rfl
theorem qMh:vlen O 2 (.v (.c (.p .nilslice))) h d k=k (kI 0) h:=id rfl
theorem qIR(sz:Nat)(t:Bool)(rows:List (List PVal)):vlen O 2 (.v (.c (.p (.slice sz t rows)))) h d k=k (kI (rows.length:Int)) h:=by
 show k (kI (.ofNat (lenF rows))) h=_; rw[qAI]; rfl
theorem qEq(sz:Nat)(rows:List (List PVal))(r:Ref):vlen O 2 (.v (.c (.tsl sz rows r))) h d k=k (kI (rows.length:Int)) h:=by
 show k (kI (.ofNat (lenF rows))) h=_; rw[qAI]; rfl
theorem qAa(s:List UInt8)(n:Nat)(b:UInt8)(hb:s[n]?=some b):vindex (kS s) (kI (n:Int)) h k=k (kU b) h:=by
 show bnd (nthF s n) _=_; rw[qAc,hb]; rfl
theorem qBB(vs:List Comp)(i:Nat)(v:Comp)(hv:vs[i]?=some v):vext (.tup vs) i h k=k (.v v) h:=by
 show bnd (nthF vs i) _=_; rw[qAc,hv]
theorem qDO(K K':IntKind)(a:Int):vtoInt K (kN K' a) h k=k (kN K (K.wrap a)) h:=by rw[<- qAk]; rfl
theorem qAJ(c:Comp)(k:Comp->Option β):tcomp (.v c) k=k c:=id rfl
theorem qAF(z:Int)(h1 : -9223372036854775808<=z)(h2:z<=9223372036854775807):IntKind.i64.wrap z=z:=qAN .i64 z h1 h2
theorem qCb(z:Int)(h1:0<=z)(h2:z<=18446744073709551615):IntKind.u64.wrap z=z:=qAN .u64 z h1 h2
theorem qAo(s:List UInt8)(l u:Nat)(h1:l<=u)(h2:u<=s.length):vop O (.slice 0 true (.k (kS s)) (some (.k (kI (l:Int)))) (some (.k (kI (u:Int)))) none) h d k=k (kS ((s.take u).drop l)) h:=by
 show bnd (Option.map (λc=>Plan.pure (.v (.c c))) (sliceV 0 true (.p (.str s)) (some l) (some u) none)) _=_;have:sliceV 0 true (.p (.str s)) (some l) (some u) none=some (.p (.str ((s.take u).drop l))):=by
  simp only[sliceV];simp[h1,h2]
 rw[this]; rfl
theorem qMu(s:List UInt8)(l:Nat)(h2:l<=s.length):vop O (.slice 0 true (.k (kS s)) (some (.k (kI (l:Int)))) none none) h d k=k (kS (s.drop l)) h:=by
 show bnd (Option.map (λc=>Plan.pure (.v (.c c))) (sliceV 0 true (.p (.str s)) (some l) none none)) _=_;have:sliceV 0 true (.p (.str s)) (some l) none none=some (.p (.str (s.drop l))):=by
  simp only[sliceV];simp[h2]
 rw[this]; rfl
theorem qNX(s:List UInt8)(u:Nat)(h2:u<=s.length):vop O (.slice 0 true (.k (kS s)) none (some (.k (kI (u:Int)))) none) h d k=k (kS (s.take u)) h:=by
 show bnd (Option.map (λc=>Plan.pure (.v (.c c))) (sliceV 0 true (.p (.str s)) none (some u) none)) _=_;have:sliceV 0 true (.p (.str s)) none (some u) none=some (.p (.str (s.take u))):=by
  simp only[sliceV];simp[h2]
 rw[this]; rfl
noncomputable def Heap.own(h:Heap)(d g:Nat)(o:AObj):Heap:={ h with owns:=h.owns.set (g,o) d }
theorem Heap.own_get(h:Heap)(d g:Nat)(o:AObj)(hd:d+1<1048576)(ho:o ≠ .dead):(h.own d g o).get (.own d g)=some o:=by
 unfold Heap.own Heap.get;simp only[TM.get_set_same (g,o) h.owns d hd];rw[qAH,decide_eq_true rfl];cases o <;> first|rfl|exact absurd rfl ho
theorem Heap.own_get_ne(h:Heap)(d g:Nat)(o:AObj)(e g':Nat)(hd:d≠e):(h.own d g o).get (.own e g')=h.get (.own e g'):=by
 unfold Heap.own Heap.get;simp only[TM.get_set_ne (g,o) h.owns d e hd]
theorem Heap.own_get_im(h:Heap)(d g:Nat)(o:AObj)(i:Nat):(h.own d g o).get (.im i)=h.get (.im i):=rfl
theorem Heap.own_gen(h:Heap)(d g:Nat)(o:AObj)(hd:d+1<1048576):(h.own d g o).gen d=g:=by
 unfold Heap.own Heap.gen;simp only[TM.get_set_same (g,o) h.owns d hd]
theorem Heap.own_gen_ne(h:Heap)(d g:Nat)(o:AObj)(e:Nat)(hd:d≠e):(h.own d g o).gen e=h.gen e:=by
 unfold Heap.own Heap.gen;simp only[TM.get_set_ne (g,o) h.owns d e hd]
theorem Heap.put_own(h:Heap)(d g:Nat)(o:AObj):h.put (.own d g) o=h.own d g o:=rfl
theorem qHR(z:List Cell):vop O (.alloc z false) h d k=k (.v (.c (.ptr (.own d (h.gen d+1)) 0))) (h.own d (h.gen d+1) (.cells z 0)):=rfl
theorem qBd(f:Ref->Option AObj)(r:Ref):[r].mapM f=(f r).map λo=>[o]:=by
 rw[List.mapM_cons,List.mapM_nil]; cases f r <;> rfl
theorem qEu(n:Nat)(r:Ref)(off imm:Nat)(cs:List Cell)(x:Comp)(hr:h.get r=some (.cells cs imm))(hi:imm<=off)(hn:x.cells.length=n)(hl:off+n<=cs.length) :
  vstore n (.v (.c (.ptr r off))) (.v x) h k=k .undef (h.put r (.cells (splice cs off x.cells) imm)):=by
 show bnd (getF h r) (λo=>cellsOf o λcs imm=>bif Nat.ble imm off&&(Nat.beq (lenF x.cells) n&&Nat.ble (Nat.add off n) (lenF cs)) then _ else _)=_;rw[qA6,hr];show(bif Nat.ble imm off&&(Nat.beq (lenF x.cells) n&&Nat.ble (off+n) (lenF cs)) then _ else _)=_;rw[qAI,qAI,hn,show Nat.ble imm off=true from Nat.ble_eq_true_of_le hi,show Nat.ble (off+n) cs.length=true from Nat.ble_eq_true_of_le hl,qAH,decide_eq_true rfl]; rfl
theorem qKy(n:Nat)(r:Ref)(off imm:Nat)(cs:List Cell)(hr:h.get r=some (.cells cs imm))(hc:((cs.drop off).take n).length=n):vload true n (.v (.c (.ptr r off))) h k=k (.v (.agg ((cs.drop off).take n))) h:=by
 show bnd (getF h r) (λo=>cellsOf o λcs _=>partF true n cs off λv=>k v h)=_;rw[qA6,hr];show(bif Nat.beq (lenF (takeF (dropF cs off) n)) n then _ else _)=_;rw[qAI,qBR,qBT,hc,qAH,decide_eq_true rfl]; rfl
theorem qLG(n:Nat)(r:Ref)(off imm:Nat)(cs:List Cell)(k:Comp->Res1)(hr:h.get r=some (.cells cs imm))(hc:((cs.drop off).take n).length=n):vcell true n (.v (.c (.ptr r off))) h k=k (.agg ((cs.drop off).take n)):=by
 show bnd (getF h r) (λo=>cellsOf o λcs _=>partF true n cs off λv=>tcomp v k)=_;rw[qA6,hr];show(bif Nat.beq (lenF (takeF (dropF cs off) n)) n then _ else _)=_;rw[qAI,qBR,qBT,hc,qAH,decide_eq_true rfl]; rfl
theorem qIy(off o:Nat)(r:Ref):vfaddr off (.v (.c (.ptr r o))) h k=k (.v (.c (.ptr r (o+off)))) h:=id rfl
theorem qIE(off o:Nat)(row:List PVal):vfaddr off (.v (.c (.p (.pptr row o)))) h k=k (.v (.c (.p (.pptr row (o+off))))) h:=id rfl
theorem qEt(n d g:Nat)(h:Heap)(cs cs':List Cell)(k:Heap->Comp->Res1)(hr:h.get (.own d g)=some (.cells cs 0))(hd:d+1<1048576)(h1:cs.length=n)(h2:cs'.length=n) :
  vstore n (.v (.c (.ptr (.own d g) 0))) (.v (.agg cs')) h (λ_ h=>vcell true n (.v (.c (.ptr (.own d g) 0))) h (k h))=k (h.own d g (.cells cs' 0)) (.agg cs'):=by
 rw[qEu n (.own d g) 0 0 cs (.agg cs') hr (Nat.le_refl _) h2 (by omega)];have e:splice cs 0 cs'=cs':=by
  unfold splice;simp[h2,<- h1]
 show vcell true n _ (h.put (.own d g) (.cells (splice cs 0 cs') 0)) (k (h.put (.own d g) (.cells (splice cs 0 cs') 0)))=_;rw[e,Heap.put_own,qLG n (.own d g) 0 0 cs' _ (Heap.own_get h d g _ hd (λe=>by cases e)) (by simp[h2])];simp[<- h2]
theorem qAe(op:AOp)(v:TVal)(hb:plan .nil op=some (.pure v)):vop O op h d k=k v h:=by
 show opK O op .nil h d k=_;rw[qAn];have:slow O op .nil h d=some (v,h):=by
  unfold slow;rw[hb]; rfl
 rw[this]; rfl
theorem qPy(z:List Cell)(ps:List (Nat×Nat×X))(cs:List Cell)(hb:plan .nil (.build z ps)=some (.pure (.v (.agg cs)))):vop O (.build z ps) h d k=k (.v (.agg cs)) h:=qAe _ _ hb
theorem qAE(g:FuncId)(as:List TVal)(v:TVal)(ha:allB pT as=true)(ho:O g as []=some (v,[]))(hv:pT v=true):vcall O (.v (.c (.func g []))) as h d k=k v h:=by
 show callF O g as d h k=_;unfold callF;rw[ha,cond_true,ho];show(bif pT v then k v h else _)=_;rw[hv]; rfl
theorem qAM(frz:Bool)(vs:List Comp)(hv:allB pComp vs=true):vfin frz 0 vs h=some (oneOf vs,[]):=by
 show(bif allB pComp vs then _ else _)=_;rw[hv]; rfl
end
section
variable {β:Type} {O:Oracle} {h:Heap} {d:Nat} {k:TVal->Heap->Option β}
abbrev kNil:TVal := .v (.c (.p .nilslice))
abbrev kSl(sz:Nat)(t:Bool)(rows:List (List PVal)):TVal := .v (.c (.p (.slice sz t rows)))
def Grow(D:List Nat)(sz:Nat)(v:Cell)(rows:List (List PVal))(h:Heap):Prop :=
 (rows=[]/\v = .p .nilslice)\/(rows≠[]/\∃ e g,e∈D/\v = .tsl sz rows (.own e g)/\h.get (.own e g)=some (.cells [] 0))
def growP(sz:Nat)(rows:List (List PVal)):PVal:=match rows with
 |[] => .nilslice
 |rows => .slice sz false rows
theorem Grow.nil(D:List Nat)(sz:Nat)(h:Heap):Grow D sz (.p .nilslice) [] h := .inl ⟨rfl,rfl⟩
theorem Grow.keep{D:List Nat}{sz:Nat}{v:Cell}{rows:List (List PVal)}{h h':Heap}(G:Grow D sz v rows h)(hk:∀ e∈D,∀ g,h.get (.own e g)=some (.cells [] 0)->h'.get (.own e g)=some (.cells [] 0)):Grow D sz v rows h':=by
 rcases G with ⟨a,b⟩|⟨a,e,g,m,b,c⟩
 ·exact .inl ⟨a,b⟩
 ·exact .inr ⟨a,e,g,m,b,hk _ m _ c⟩
theorem Grow.own{D:List Nat}{sz:Nat}{v:Cell}{rows:List (List PVal)}{h:Heap}(G:Grow D sz v rows h){d:Nat}(g:Nat)(o:AObj)(hd:d∉D):Grow D sz v rows (h.own d g o) :=
 G.keep λe he g' hh=>(Heap.own_get_ne h d g o e g' (λx=>hd (x▸he))).trans hh
theorem qFq{D:List Nat}{sz:Nat}{v:Cell}{rows:List (List PVal)}(G:Grow D sz v rows h):vlen O 2 (.v (.c v)) h d k=k (kI (rows.length:Int)) h:=by
 rcases G with ⟨rfl,rfl⟩|⟨_,e,g,_,rfl,_⟩
 ·rfl
 ·exact qEq _ _ _
theorem qFp{D:List Nat}{sz:Nat}{v:Cell}{rows:List (List PVal)}(x:PVal)(G:Grow D sz v rows h):vfin true 0 [.c v,.c (.p x)] h=some (.tup [.c (.p (growP sz rows)),.c (.p x)],[]):=by
 rcases G with ⟨rfl,rfl⟩|⟨hne,e,g,_,rfl,_⟩
 ·rfl
 ·letI:Sym:=⟨λ_=>0⟩
  rw[qBl];unfold finV;have:growP sz rows = .slice sz false rows:=by cases rows with
   |nil=>exact absurd rfl hne
   |cons _ _=>rfl
  rw[this];simp[oneOf,freezeT,freezeC,freeze,fuelFreeze,settle,reach,fuelReach,ims,TVal.refs,Comp.refs,Cell.refs,TVal.ren,Comp.ren,Cell.ren]
theorem qBa(sz:Nat):∀ (rows:List (List PVal)),(∀ r∈rows,r.length=sz)->chunk sz rows.length (pcells rows.flatten)=some rows:=by
 intro rows
 induction rows with
 |nil=>intro _; rfl
 |cons r rows ih =>
  intro h;have hr:=h r (by simp);have e1:(pcells (r::rows).flatten).take sz=pcells r:=by
   unfold pcells; rw[<- List.map_take]; simp[<- hr]
  have e2:(pcells (r::rows).flatten).drop sz=pcells rows.flatten:=by
   unfold pcells; rw[<- List.map_drop]; simp[<- hr]
  have e3:unps (pcells r)=some r:=by
   unfold unps pcells;clear hr e1 e2 ih h
   induction r with
   |nil=>rfl
   |cons a r ih=>rw[List.map_cons,List.mapM_cons,ih]; rfl
  show(do let row <- unps ((pcells (r::rows).flatten).take sz); if row.length=sz then pure (row::(<- chunk sz rows.length ((pcells (r::rows).flatten).drop sz))) else none)=_;rw[e1,e2,e3,ih (λq hq=>h q (by simp[hq]))];simp[hr]
theorem qD3{D:List Nat}{sz by':Nat}{v:Cell}{rows new:List (List PVal)}(t:Bool)(G:Grow D sz v rows h)(hD:d∈D)(hn:new≠[])(hsz:∀ r∈new,r.length=sz)(hb:(rows.length+new.length)*by'<=1099511627776)(hd:d+1<1048576) :
  ∃ v' h',Grow D sz v' (rows++new) h'/\(∀ (β:Type) (O:Oracle) (k:TVal->Heap->Option β),vop O (.append sz by' false (.k (.v (.c v))) (.k (kSl sz t new))) h d k=k (.v (.c v')) h') /\
   (∀ e g o,e≠d->h.get (.own e g)=some o->o ≠ .cells [] 0->h'.get (.own e g)=some o):=by
 have hnl:new.length≠0:=by simpa using hn
 have slowEq:∀ (O:Oracle) (v':TVal) (h':Heap),(plan .nil (.append sz by' false (.k (.v (.c v))) (.k (kSl sz t new)))).bind (λp=>(p.exec O d h).map λx=>(x.1,x.2.1))=some (v',h') ->
   ∀ (β:Type) (k:TVal->Heap->Option β),vop O (.append sz by' false (.k (.v (.c v))) (.k (kSl sz t new))) h d k=k v' h':=by
  intro O v' h' e β k;show opK O _ .nil h d k=_;rw[qAn];show(Option.bind (Option.bind _ _) _)=_;rw[e]; rfl
 have gr:∀ ups,growRow sz by' rows (pcells new.flatten) new.length ups=some ⟨λr => .v (.c (.tsl sz (rows++new) r)),ups,some (.cells [] 0),false⟩:=by
  intro ups;unfold growRow;rw[qBa sz new hsz];dsimp only;rw[if_pos (by omega)]
 rcases G with ⟨rfl,rfl⟩|⟨hne,e,g,_,rfl,hh⟩
 ·refine⟨.tsl sz new (.own d (h.gen d+1)),h.own d (h.gen d+1) (.cells [] 0),.inr ⟨hn,d,_,hD,rfl,Heap.own_get h d _ _ hd (λe=>by cases e)⟩,λβ O k=>slowEq O _ _ ?_ β k,λe g o he ho _=>(Heap.own_get_ne h d _ _ e g (Ne.symm he)).trans ho⟩;have ea:appendTo sz by' false kNil none (pcells new.flatten) new.length=some ⟨λr => .v (.c (.tsl sz ([]++new) r)),[],some (.cells [] 0),false⟩:=by
   unfold appendTo;rw[if_neg hnl];exact gr []
  show((Plan.go [] _).exec O d h).map _=_;simp only[Plan.exec,goOp,List.mapM_nil,Option.pure_def,zipNeeds,splitNeeds,srcCells,dstRef,srcRef];simp only[if_true,Option.bind_eq_bind,Option.bind_some,ea];rfl
 ·have hgen:(h.put (.own e g) .dead).gen d=(if e=d then g else h.gen d):=by
   show(h.own e g .dead).gen d=_;split
   ·rename_i hh; subst hh; exact Heap.own_gen h e g _ hd
   ·rename_i hh; exact Heap.own_gen_ne h e g _ d hh
  refine⟨.tsl sz (rows++new) (.own d (h.gen d+1)),(h.put (.own e g) .dead).own d (h.gen d+1) (.cells [] 0),.inr ⟨by simp[hne],d,_,hD,rfl,Heap.own_get _ d _ _ hd (λe=>by cases e)⟩,λβ O k=>slowEq O _ _ ?_ β k,λe' g' o he ho hx => ?_⟩
  ·have ea:appendTo sz by' false (.v (.c (.tsl sz rows (.own e g)))) (some (.cells [] 0)) (pcells new.flatten) new.length=some ⟨λr => .v (.c (.tsl sz (rows++new) r)),[(.own e g,.dead)],some (.cells [] 0),false⟩:=by
    unfold appendTo;rw[if_neg hnl];show(if sz=sz then growRow sz by' rows (pcells new.flatten) new.length [(.own e g,.dead)] else none)=_;rw[if_pos rfl];exact gr _
   show((Plan.go [.own e g] _).exec O d h).map _=_;simp only[Plan.exec,goOp,qBd,hh,Option.map_some,zipNeeds,splitNeeds,srcCells,dstRef,srcRef];simp only[if_true,Option.bind_eq_bind,Option.bind_some,ea];simp;rfl
  ·refine(Heap.own_get_ne _ d _ _ e' g' (Ne.symm he)).trans ?_;show(h.own e g .dead).get (.own e' g')=some o;by_cases e1:e=e'
   ·subst e1;exfalso
    letI:Sym:=⟨λ_=>0⟩
    have h1:=(Heap.get_own_gen hh);have h2:=(Heap.get_own_gen ho);obtain⟨a1,b1⟩:=h1;obtain⟨a2,b2⟩:=h2;rw[b1] at b2;simp only[Option.some.injEq,Prod.mk.injEq] at b2;exact hx b2.2.symm
   ·exact(Heap.own_get_ne h e g _ e' g' e1).trans ho
end
theorem qAG{S:Oracle}{W:Mach}{f:FuncId}{args:List TVal}{objs:List AObj}(hs:S f args objs=none):orc S W f args objs=W f objs.length 0 args { ims:=objs,owns := .nil }:=by
 show Option.rec (motive:=λ_=>Res1) _ some (S f args objs)=_;rw[hs,<- qAI]
def isBoolR(r:Res1)(x:Bool):Bool:=match r with
 |some (.v (.c (.p (.bool y))),[])=>y==x
 |_=>false
theorem qHk{r:Res1}{x:Bool}(h:isBoolR r x=true):r=some (kB x,[]):=by
 unfold isBoolR at h;split at h
 ·simp only[beq_iff_eq] at h; subst h; rfl
 ·cases h
theorem qDh{T:FuncId->Option MFunc}{D:FuncId->Option BlkF}{S:Oracle}(hD:BOK T D){f:FuncId}{p:Nat->Bool}{N:Nat}(h:((List.range 256).all λn=>isBoolR (machU D S N f 0 0 [kN .u8 (.ofNat n)] h0) (p n))=true)(b:UInt8) :
  lim T S f 0 0 [kU b] h0=some (kB (p b.toNat),[]) :=
 qBC hD N f 0 0 _ _ _ (qHk (qKY h (UInt8.toNat_lt b)))
theorem qK7(d:Nat):h0.gen d=0:=rfl
def allI(w:World):Imm:=⟨λb o=>w.cell? ⟨b,o,none⟩,λ_=>none⟩
def intsP(k:IntKind)(o:Option (List Int)):PVal:=match o with
 |none => .nilslice
 |some l => .slice 1 false (l.map λn=>[.int k n])
def intsL(o:Option (List Int)):List Int:=o.getD []
section
variable [Sym] {H:Type} {enc:TypeId×Value->H} {P:Program} {w:World} {spare:Nat->Bool} {held:Bool} {r:Reach} {b0:Nat}
theorem qH2{H:Type}{enc:TypeId×Value->H}{P:Program}{f:Func}{s:ChangeSpec}{apart fresh handsOn:Bool}{W W':World}{args:Array Value}{v:Value}{ds gs:List (DataW H)}{before pa pv:List MemPlace}
  (hW:DataW.Whole enc P f.params.toList s.vars apart W args.toList ds gs before)
  (hres:∀ (b:Nat) (sp:Nat->Bool) (hd:Bool),DataW.TrodAll enc P W' b sp hd f.resultTypes.toList (v.resultList f.resultTypes.size) (s.fn H (ds++gs)).results [])
  (hargs:DataW.TrodAll enc P W' 0 (λb=>decide (b<W.heap.size)) true f.params.toList args.toList (s.fn H (ds++gs)).args pa)
  (hvars:∀ sp:Nat->Bool,(∀ p∈before,sp p.block=true)->DataW.TrodVars enc P W' sp s.vars (s.fn H (ds++gs)).vars pv)
  (hps:before=pa++pv) (hk:Below W.heap.size W W') :
  s.post enc P f apart fresh handsOn false W args v W':=by
 have hold:∀ p∈before,(λb=>decide (b<W.heap.size)) p.block=true:=λp hp=>by simpa using hW.lt p hp
 refine⟨ds,gs,before,[],pa,pv,hW,hres _ _ _,hargs,hvars _ hold,World.keptBut_mono (λp hp=>⟨hp,?_⟩) (hk.frame (·∈before)),λh=>by cases h⟩;rw[hps,List.mem_append] at hp;exact Or.inr hp
theorem allG{P:Program}{laid:List (String×DataW Unit)}{ts:List Tabl}{o:Option Nat}{w:World}(hl:laidMet P laid w)(hts:∀ t∈ts,TablOK P laid t)(ho:∀ g,o=some g->w.cell? ⟨g,0,none⟩=some (.int .i64 (Sym.num 63))):GRel (globs2 ts o) (allI w) :=
 GRel.mono ⟨qGf hl hts ho,λb e x=>by cases x⟩ (qNZ ts o)
theorem qNA{P:Program}{G:Nat->Option (List PVal)}{T:FuncId->Option MFunc}{S:Oracle}(hm:P.follows .mixedOrders=true)(hT:TabM P G T)(hS:FSound P G S){f:FuncId}{args:List TVal}{objs:List AObj}(h:orc S (lim T S) f args []=some (.pv (.bool true),objs)){w:World}(hG:GRel G (allI w))
  {avs:Array Value} (ha:All2 (TRel noEnv (allI w)) args avs.toList):Calls P f avs w λe w'=>e = .returned (.bool true)/\Below w.heap.size w w' :=
 qNW hm hT hS h hG (λ_ _ _ e=>e) (λ_ _ _ e=>by cases e) ha
end
def HGrow(sz:Nat)(v:Cell)(rows:List (List PVal))(h:Heap):Prop :=
 (rows=[]/\v = .p .nilslice)\/(rows≠[]/\∃ n,v = .sref (.im n) 0 rows.length none sz/\h.get (.im n)=some (.cells (pcells rows.flatten) 0))
theorem HGrow.nil(sz:Nat)(h:Heap):HGrow sz (.p .nilslice) [] h := .inl ⟨rfl,rfl⟩
noncomputable section
inductive An where
 |n
 |s (a b:An)
 |k (a:An)
 |l (l:Nat) (live:List Nat) (a:An)
 |m (l:Nat) (live:List Nat) (a:An)
abbrev ofA(c:ACode):MC:=ACode.rec (motive:=λ_=>MC) .skip (λops ps => .reg ops ps) (λ_ _ a b => .seq a b) (λc _ _ a b => .cond c a b) (λid _ b => .block id b) (λ_ b => .loop 0 [] b) (λid => .exit id) (λ_ b => .scope b) .ret .bad c
theorem qFr(c:ACode):(ofA c).erase=c:=by
 induction c with
 |skip=>rfl
 |reg ops ps=>rfl
 |seq a b ha hb=>show ACode.seq (ofA a).erase (ofA b).erase=_; rw[ha,hb]
 |cond c a b ha hb=>show ACode.cond c (ofA a).erase (ofA b).erase=_; rw[ha,hb]
 |block id b hb=>show ACode.block id (ofA b).erase=_; rw[hb]
 |loop b hb=>show ACode.loop (ofA b).erase=_; rw[hb]
 |exit id=>rfl
 |scope b hb=>show ACode.scope (ofA b).erase=_; rw[hb]
 |ret=>rfl
 |bad=>rfl
abbrev markC(an:An):ACode->MC:=An.rec (motive:=λ_=>ACode->MC) (λc=>ofA c)
 (λ_ _ fa fb c=>ACode.casesOn (motive:=λ_=>MC) c (ofA .skip) (λo p => .reg o p) (λa b => .seq (fa a) (fb b)) (λx a b => .cond x (fa a) (fb b)) (λid b => .block id (ofA b)) (λb => .loop 0 [] (ofA b)) (λid => .exit id) (λb => .scope (ofA b)) .ret .bad)
 (λ_ fa c=>ACode.casesOn (motive:=λ_=>MC) c (ofA .skip) (λo p => .reg o p) (λa b => .seq (ofA a) (ofA b)) (λx a b => .cond x (ofA a) (ofA b)) (λid b => .block id (fa b)) (λb => .loop 0 [] (ofA b)) (λid => .exit id) (λb => .scope (fa b)) .ret .bad)
 (λl live _ fa c=>ACode.casesOn (motive:=λ_=>MC) c (ofA .skip) (λo p => .reg o p) (λa b => .seq (ofA a) (ofA b)) (λx a b => .cond x (ofA a) (ofA b)) (λid b => .block id (ofA b)) (λb => .loop l live (fa b)) (λid => .exit id) (λb => .scope (ofA b)) .ret .bad)
 (λl live _ fa c => .mark l live (fa c)) an
theorem qHu(an:An):∀ c,(markC an c).erase=c:=by
 have e:∀ c,(ofA c).erase=c:=qFr
 induction an with
 |n=>exact qFr
 |s a b ha hb =>
  intro c;cases c with
  |seq x y=>show ACode.seq (markC a x).erase (markC b y).erase=_; rw[ha,hb]
  |cond z x y=>show ACode.cond z (markC a x).erase (markC b y).erase=_; rw[ha,hb]
  |block id x=>show ACode.block id (ofA x).erase=_; rw[e]
  |loop x=>show ACode.loop (ofA x).erase=_; rw[e]
  |scope x=>show ACode.scope (ofA x).erase=_; rw[e]
  |_=>rfl
 |k a ha =>
  intro c;cases c with
  |seq x y=>show ACode.seq (ofA x).erase (ofA y).erase=_; rw[e,e]
  |cond z x y=>show ACode.cond z (ofA x).erase (ofA y).erase=_; rw[e,e]
  |block id x=>show ACode.block id (markC a x).erase=_; rw[ha]
  |loop x=>show ACode.loop (ofA x).erase=_; rw[e]
  |scope x=>show ACode.scope (markC a x).erase=_; rw[ha]
  |_=>rfl
 |l i lv a ha =>
  intro c;cases c with
  |seq x y=>show ACode.seq (ofA x).erase (ofA y).erase=_; rw[e,e]
  |cond z x y=>show ACode.cond z (ofA x).erase (ofA y).erase=_; rw[e,e]
  |block id x=>show ACode.block id (ofA x).erase=_; rw[e]
  |loop x=>show ACode.loop (markC a x).erase=_; rw[ha]
  |scope x=>show ACode.scope (ofA x).erase=_; rw[e]
  |_=>rfl
 |m i lv a ha=>exact ha
def mkM(o:Option AFunc)(an:An):MFunc:=Option.rec (motive:=λ_=>MFunc) ⟨0,[],false,.bad⟩ (λF=>⟨F.np,F.res,F.frz,markC an F.body⟩) o
theorem qAB{o:Option AFunc}{an:An}(h:o.isSome=true):o=some (mkM o an).erase:=by
 cases o with
 |none=>cases h
 |some F =>
  show some F=some ⟨F.np,F.res,F.frz,(markC an F.body).erase⟩;rw[qHu]
end
end Go.AI
