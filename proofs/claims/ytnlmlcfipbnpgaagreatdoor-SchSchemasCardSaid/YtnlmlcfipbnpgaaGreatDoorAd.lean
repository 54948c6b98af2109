/- Own work. Condition: what each theorem names. -/
import Derived.Test.YtnlmlcfipbnpgaaGreatDoorAc
import Derived.LaidLaws
import Derived.Lib.Bytealg
import Derived.Lib.Index
import Derived.Lib.Join
import Derived.HandedShaped
import Derived.Shelf.Vars
import Derived.ChangeSlices
import Derived.ChangeMaps5
import Derived.Carry
set_option linter.all false
open Option renaming some.injEq->rJ,bind_eq_some_iff->rK,bind_eq_bind->rL,pure_def->rM
namespace Go.AI
noncomputable section
variable {β:Type}
abbrev dO{α:Type}(x:Option α)(k:α->Option β):Option β:=Option.rec (motive:=λ_=>Option β) none k x
def R0{α:Type}(x:Option α)(k:α->Option β):dO x k=x.bind k:=by cases x <;> rfl
@[simp] theorem WE {α:Type} (k:α->Option β):dO none k=none:=rfl
@[simp] theorem nX {α:Type} (a:α) (k:α->Option β):dO (some a) k=k a:=rfl
def lC{α:Type}(l:List α):Nat->Option α:=List.rec (motive:=λ_=>Nat->Option α) (λ_=>none) (λa _ A n=>Nat.rec (motive:=λ_=>Option α) (some a) (λm _=>A m) n) l
def AW{α:Type}:∀ (l:List α) (n:Nat),lC l n=l[n]?:=by
 intro l
 induction l with
 |nil=>intro n; rfl
 |cons a l A=>intro n; cases n with
  |zero=>rfl
  |succ m=>exact(A m).trans bR
def qo{α:Type}(l:List α):Nat->List α:=List.rec (motive:=λ_=>Nat->List α) (λ_=>[]) (λa t A n=>Nat.rec (motive:=λ_=>List α) (a::t) (λm _=>A m) n) l
def So{α:Type}:∀ (l:List α) (n:Nat),qo l n=l.drop n:=by
 intro l
 induction l with
 |nil=>intro n; simp[qo]
 |cons a l A=>intro n; cases n with
  |zero=>rfl
  |succ m=>exact(A m).trans bR
def qc{α:Type}(l:List α):Nat->List α:=List.rec (motive:=λ_=>Nat->List α) (λ_=>[]) (λa t A n=>Nat.rec (motive:=λ_=>List α) [] (λm _=>a::A m) n) l
def Sn{α:Type}:∀ (l:List α) (n:Nat),qc l n=l.take n:=by
 intro l
 induction l with
 |nil=>intro n; simp[qc]
 |cons a l A=>intro n; cases n with
  |zero=>rfl
  |succ m=>exact dh (a::·) (A m)
def fw{α:Type}(l:List α):Nat:=List.rec (motive:=λ_=>Nat) 0 (λ_ _ A=>Nat.succ A) l
def pU{α:Type}(l:List α):fw l=l.length:=by
 induction l with
 |nil=>rfl
 |cons a l A=>exact dh Nat.succ A
def vQ(a b:Int):Bool :=
 Int.rec (motive:=λ_=>Bool) (λm=>Int.rec (motive:=λ_=>Bool) (λn=>Nat.blt m n) (λ_=>false) b) (λm=>Int.rec (motive:=λ_=>Bool) (λ_=>true) (λn=>Nat.blt n m) b) a
def Hh(m n:Nat):Nat.blt m n=decide (m<n):=by
 cases h:Nat.blt m n with
 |true=>exact(cI (vp h)).symm
 |false=>exact(de λc=>by rw[show Nat.blt m n=true from oK c] at h; cases h).symm
def JF(a b:Int):vQ a b=decide (a<b):=by
 rcases a with m|m <;> rcases b with n|n
 ·exact(Hh m n).trans (xW.2 (by simp only[nq]; omega))
 ·exact(de (by simp only[nq]; omega)).symm
 ·exact(cI (by simp only[nq]; omega)).symm
 ·exact(Hh n m).trans (xW.2 bn)
def vR(a b:Int):Bool :=
 Int.rec (motive:=λ_=>Bool) (λm=>Int.rec (motive:=λ_=>Bool) (λn=>Nat.beq m n) (λ_=>false) b) (λm=>Int.rec (motive:=λ_=>Bool) (λ_=>false) (λn=>Nat.beq m n) b) a
def OA(a b:Int):vR a b=decide (a=b):=by
 rcases a with m|m <;> rcases b with n|n
 ·exact(pN m n).trans (xW.2 (by simp only[nq]; omega))
 ·exact(de (by simp only[nq]; omega)).symm
 ·exact(de (by simp only[nq]; omega)).symm
 ·exact(pN m n).trans (xW.2 bn)
def VD(k:IntKind):Nat:=IntKind.rec (motive:=λ_=>Nat) 0 1 2 3 4 5 6 7 k
def oQ(a b:IntKind):Bool:=Nat.beq (VD a) (VD b)
def qV6(a b:IntKind):oQ a b=decide (a=b):=by cases a <;> cases b <;> rfl
def pc(k:IntKind):Nat:=IntKind.rec (motive:=λ_=>Nat) 128 32768 2147483648 9223372036854775808 256 65536 4294967296 18446744073709551616 k
def Hy(k:IntKind):Bool:=IntKind.rec (motive:=λ_=>Bool) true true true true false false false false k
def oO(k:IntKind)(z:Int):Int :=
 Int.rec (motive:=λ_=>Int) (λn=>bif Nat.blt n (pc k) then .ofNat n else k.wrap (.ofNat n)) (λn=>bif Hy k&&Nat.blt n (pc k) then .negSucc n else k.wrap (.negSucc n)) z
def Sa(k:IntKind)(z:Int)(h1:k.min<=z)(A:z<=k.max):k.wrap z=z:=by
 cases k <;> simp only[IntKind.min,IntKind.max,IntKind.bits,IntKind.signed,fx,gh,fC] at h1 A <;> simp only[IntKind.wrap,IntKind.bits,IntKind.signed,gS,fH,dF,gh,fC,ge_iff_le]
 case i8=>split <;> omega
 case i16=>split <;> omega
 case i32=>split <;> omega
 case i64=>split <;> omega
 all_goals omega
def FO(k:IntKind)(z:Int):oO k z=k.wrap z:=by
 cases z with
 |ofNat n =>
  show(bif Nat.blt n (pc k) then Int.ofNat n else k.wrap (.ofNat n))=_;rw[Hh,jC];split
  ·rename_i h;refine(Sa k _ ?_ ?_).symm
   ·cases k <;> simp only[IntKind.min,IntKind.bits,IntKind.signed,fx,gh,fC,nq] <;> omega
   ·cases k <;> simp only[pc] at h <;> simp only[IntKind.max,IntKind.bits,IntKind.signed,fx,gh,fC,nq] <;> omega
  ·rfl
 |negSucc n =>
  show(bif Hy k&&Nat.blt n (pc k) then Int.negSucc n else k.wrap (.negSucc n))=_;rw[Hh];cases hs:Hy k with
  |false=>rfl
  |true =>
   rw[gS,jC];split
   ·rename_i h;refine(Sa k _ ?_ ?_).symm
    ·cases k <;> simp only[pc,Hy] at h hs <;> (first|(cases hs; done)|(simp only[IntKind.min,IntKind.bits,IntKind.signed,fx]; omega))
    ·cases k <;> simp only[IntKind.max,IntKind.bits,IntKind.signed,fx,gh,fC] <;> omega
   ·rfl
def yO(a:List UInt8):List UInt8->Bool :=
 List.rec (motive:=λ_=>List UInt8->Bool) (λb=>List.rec (motive:=λ_=>Bool) true (λ_ _ _=>false) b) (λx _ A b=>List.rec (motive:=λ_=>Bool) false (λy b' _=>bif Nat.beq x.toNat y.toNat then A b' else false) b) a
def Xv:∀ (a b:List UInt8),yO a b=(a==b):=by
 intro a
 induction a with
 |nil=>intro b; cases b <;> rfl
 |cons x a A =>
  intro b;cases b with
  |nil=>rfl
  |cons y b =>
   show(bif Nat.beq x.toNat y.toNat then yO a b else false)=_;rw[pN,A,jC,List.cons_beq_cons];by_cases h:x=y
   ·subst h; simp
   ·have:¬ x.toNat=y.toNat:=λe=>h (jj.1 e)
    simp[h,this]
abbrev oN:=IntKind->IntKind->Int->Int->Option Cell
def Dy(k k':IntKind)(x:Option bL):Option Cell:=bif oQ k k' then dO x λv=>some (.p v) else none
def VS:oN:=λk k' x y=>bif oQ k k' then some (.p (.int k (oO k (Int.add x y)))) else none
def VF:oN:=λk k' x y=>bif oQ k k' then some (.p (.int k (oO k (Int.sub x y)))) else none
def VL:oN:=λk k' x y=>bif oQ k k' then some (.p (.int k (oO k (Int.mul x y)))) else none
def VJ:oN:=λk k' x y=>bif oQ k k' then (bif vR y 0 then none else some (.p (.int k (oO k (Int.tdiv x y))))) else none
def VI:oN:=λk k' x y=>bif oQ k k' then (bif vR y 0 then none else some (.p (.int k (Int.tmod x y)))) else none
def VR:oN:=λk k' x y=>Dy k k' (iD .and k x y)
def VA(k:IntKind)(x y:Int):Option Nat:=Int.rec (motive:=λ_=>Option Nat) (λm=>Int.rec (motive:=λ_=>Option Nat) (λn=>bif Nat.blt m (pc k)&&Nat.blt n (pc k) then some (Nat.lor m n) else none) (λ_=>none) y) (λ_=>none) x
def OS:oN:=λk k' x y=>bif oQ k k' then Option.rec (motive:=λ_=>Option Cell) (dO (iD .or k x y) λv=>some (.p v)) (λn=>some (.p (.int k (.ofNat n)))) (VA k x y) else none
def VE:oN:=λk k' x y=>Dy k k' (iD .xor k x y)
def DV:oN:=λk k' x y=>Dy k k' (iD .andNot k x y)
def VH:oN:=λk _ x y=>dO (nF .shl k x y) λv=>some (.p v)
def VG:oN:=λk _ x y=>dO (nF .shr k x y) λv=>some (.p v)
def VQ:oN:=λk k' x y=>bif oQ k k' then some (.p (.bool (vR x y))) else none
def VK:oN:=λk k' x y=>bif oQ k k' then some (.p (.bool (Bool.not (vR x y)))) else none
def VM:oN:=λk k' x y=>bif oQ k k' then some (.p (.bool (vQ x y))) else none
def VN:oN:=λk k' x y=>bif oQ k k' then some (.p (.bool (Bool.not (vQ y x)))) else none
def VO:oN:=λk k' x y=>bif oQ k k' then some (.p (.bool (vQ y x))) else none
def VP:oN:=λk k' x y=>bif oQ k k' then some (.p (.bool (Bool.not (vQ x y)))) else none
def VU(op:BinOp):oN:=BinOp.rec (motive:=λ_=>oN) VS VF VL VJ VI VR OS VE VH VG DV VQ VK VM VN VO VP op
abbrev Cz:=List UInt8->List UInt8->Option Cell
def UF:Cz:=λx y=>bif Nat.ble (Nat.add (fw x) (fw y)) 4611686018427387904 then some (.p (.str (x++y))) else none
def UE:Cz:=λx y=>some (.p (.bool (yO x y)))
def UD:Cz:=λx y=>some (.p (.bool (Bool.not (yO x y))))
def mR(op:BinOp):Cz:=λx y=>dO (ix op x y) λv=>some (.p v)
def UG(op:BinOp):Cz:=BinOp.rec (motive:=λ_=>Cz) UF (mR .sub) (mR .mul) (mR .quo) (mR .rem) (mR .and) (mR .or) (mR .xor) (mR .shl) (mR .shr) (mR .andNot) UE UD (mR .lss) (mR .leq) (mR .gtr) (mR .geq) op
def JW(op:BinOp)(kd:Nat)(x y:bL):Option Cell :=
 match x with
 |.int k a=>(match y with | .int k' b=>VU op k k' a b|y=>pB op kd (.p (.int k a)) (.p y))
 |.str a=>(match y with | .str b=>UG op a b|y=>pB op kd (.p (.str a)) (.p y))
 |x=>pB op kd (.p x) (.p y)
def IC(op:BinOp)(kd:Nat)(x y:Cell):Option Cell :=
 match x with
 |.p a=>(match y with | .p b=>JW op kd a b|y=>pB op kd (.p a) y)
 |x=>pB op kd x y
def qad(x:X)(tm:TM bt):Option cA:=(x.ev tm).map .pure
def DJ(c:X)(a:X)(b:X)(tm:TM bt):Option cA:=match c.ev tm with
  |some (.v (.c (.p (.bool true))))=>(a.ev tm).map .pure
  |some (.v (.c (.p (.bool false))))=>(b.ev tm).map .pure
  |_=>none
def Bg(zero:List Cell)(push:Bool)(tm:TM bt):Option cA:=some (.Bj (.cells zero 0) push λr=>.v (.c (.ptr r 0)))
def JZ(x:X)(push:Bool)(tm:TM bt):Option cA:=match x.ev tm with
  |some (.v v)=>some (.Bj (.cells v.cells 0) push λr=>.v (.c (.ptr r 0)))
  |_=>none
def Bf(zero:List Cell)(parts:List (Nat×Nat×X))(tm:TM bt):Option cA:=do
  let ps <- parts.mapM λp=>match p.2.2.ev tm with|some (.v v)=>some (p.1,p.2.1,v)|_=>none
  let cs <- iu zero ps
  pure (.pure (.v (.agg cs)))
def yy(sz:Nat)(n:Nat)(zero:List Cell)(parts:List (Nat×X))(heap:Bool)(tm:TM bt):Option cA:=do
  let ps <- parts.mapM λp=>match p.2.ev tm with|some (.v v)=>some (p.1*sz,sz,v)|_=>none
  let cs <- iu (rep n zero) ps
  match (if heap then none else chunk sz n cs) with
  |some rows=>pure (.pure (.v (.c (.p (.slice sz true rows)))))
  |none=>pure (.Bj (.cells cs 0) heap λr=>.v (.c (.cf r 0 n (some n) sz)))
def OK(agg:Bool)(n:Nat)(x:X)(tm:TM bt):Option cA:=match x.ev tm with
  |some (.v (.c (.ptr r off)))=>some (.read r λ| .cells cs _=>partOf agg n cs off|_=>none)
  |some (.v (.c (.p (.dc row off))))=>(partOf agg n (bp row) off).map .pure
  |_=>none
def Hq(n:Nat)(a:X)(v:X)(tm:TM bt):Option cA:=match a.ev tm,v.ev tm with
  |some (.v (.c (.ptr r off))),some (.v x)=>some (.write r λ
   |.cells cs imm=>if imm<=off/\x.cells.length=n/\off+n<=cs.length then some (.undef,.cells (eY cs off x.cells) imm) else none
   |_=>none)
  |_,_=>none
def Bb(x:X)(tm:TM bt):Option cA:=match x.ev tm with
  |some (.v (.c (.p .mC)))|some (.v (.c (.p .ke)))|some (.v (.c (.p .kf)))|some (.v (.c .jd))=>none
  |some v=>some (.pure v)
  |none=>none
def Vw(op:BinOp)(kd:Nat)(x:X)(y:X)(tm:TM bt):Option cA:=match x.ev tm,y.ev tm with
  |some (.v (.c a)),some (.v (.c b))=>(pB op kd a b).map λc=>.pure (.v (.c c))
  |some (.v (.agg a)),some (.v (.agg b))=>(uT op kd a b).map λc=>.pure (.v (.c c))
  |_,_=>none
def Vv(op:UnOp)(x:X)(tm:TM bt):Option cA:=match x.ev tm with
  |some (.v (.c a))=>(W2 op a).map λc=>.pure (.v (.c c))
  |_=>none
def Hp(k:IntKind)(x:X)(tm:TM bt):Option cA:=match x.ev tm with
  |some (.v (.c (.p (.int _ n))))=>some (.pure (.pv (.int k (k.wrap n))))
  |_=>none
def AZ(x:X)(tm:TM bt):Option cA:=match x.ev tm with
  |some (.v (.c (.p .bq)))=>some (.pure (.pv (.str [])))
  |some (.v (.c (.p (.slice 1 _ rows))))|some (.v (.c (.gm 1 rows _)))=>(fP rows).map λs=>.pure (.pv (.str s))
  |some (.v (.c (.cf r off len _ 1)))=>some (.read r λ
   |.cells cs _=>if off+len<=cs.length then (bytesOf ((cs.drop off).take len)).map λs=>.pv (.str s) else none
   |_=>none)
  |_=>none
def DK(f:FuncId)(dD:List X)(tm:TM bt):Option cA:=do
  let rs <- dD.mapM λx=>(x.ev tm).bind wb
  pure (.pure (.v (.c (.func f rs))))
def we(sz:Nat)(bytes:Nat)(zero:List Cell)(len:X)(cap:X)(pu:Bool)(tm:TM bt):Option cA:=match (len.ev tm).bind tM,(cap.ev tm).bind tM with
  |some l,some c=>if l<=c/\c*bytes<=2 ^ 40/\c<=2 ^ 40 then (match (bif pu&&Nat.beq l c then chunk sz c (rep c zero) else none) with
   |some rows=>some (.pure (.v (.c (.p (.slice sz true rows)))))
   |none=>some (.Bj (.cells (rep c zero) 0) false λr=>.v (.c (.cf r 0 l (some c) sz)))) else none
  |_,_=>none
def Ba(sz:Nat)(str:Bool)(x:X)(lo:Option X)(hi:Option X)(mx:Option X)(tm:TM bt):Option cA:=match x.ev tm,qC tm lo,qC tm hi,qC tm mx with
  |some (.v (.c a)),some l,some h,some m=>(fW sz str a l h m).map λc=>.pure (.v (.c c))
  |_,_,_,_=>none
def Ht(off:Nat)(x:X)(tm:TM bt):Option cA:=match x.ev tm with
  |some (.v (.c (.ptr r o)))=>some (.pure (.v (.c (.ptr r (o+off)))))
  |some (.v (.c (.p (.dc row o))))=>some (.pure (.pv (.dc row (o+off))))
  |_=>none
def Hs(sz:Nat)(x:X)(i:X)(tm:TM bt):Option cA:=match x.ev tm,(i.ev tm).bind tM with
  |some (.v (.c (.p (.slice A _ rows)))),some k =>
   if A=sz then (match rows[k]? with|some row=>some (.pure (.pv (.dc row 0)))|none=>none) else none
  |some (.v (.c (.gm A rows _))),some k =>
   if A=sz then (match rows[k]? with|some row=>some (.pure (.pv (.dc row 0)))|none=>none) else none
  |some (.v (.c (.cf r off len _ A))),some k=>if A=sz/\k<len then some (.pure (.v (.c (.ptr r (off+k*sz))))) else none
  |_,_=>none
def yx(n:Nat)(sz:Nat)(x:X)(i:X)(tm:TM bt):Option cA:=match x.ev tm,(i.ev tm).bind tM with
  |some (.v (.c (.ptr r off))),some k=>if k<n then some (.pure (.v (.c (.ptr r (off+k*sz))))) else none
  |some (.v (.c (.p (.dc row off)))),some k=>if k<n then some (.pure (.pv (.dc row (off+k*sz)))) else none
  |_,_=>none
def Hr(x:X)(i:X)(tm:TM bt):Option cA:=match x.ev tm,(i.ev tm).bind tM with
  |some (.v (.c (.p (.str s)))),some k=>match s[k]? with|some b=>some (.pure (.pv (.int .u8 b.toNat)))|none=>none
  |_,_=>none
def yw(x:X)(tm:TM bt):Option cA:=match x.ev tm with
  |some (.v (.c (.p (.str s))))=>some (.Bj (.gO s 0) false λr=>.v (.c (.ptr r 0)))
  |_=>none
def Bd(x:X)(tm:TM bt):Option cA:=match x.ev tm with
  |some (.v (.c (.ptr r 0)))=>some (.write r λ
   |.gO s pos=>if pos<s.length then
     let A:=mj s pos
     some (.dq [.c (.p (.bool true)),.c (.p (.int .i64 pos)),.c (.p (.int .i32 A.1))],.gO s (pos+A.2))
    else some (.dq [.c (.p (.bool false))],.gO s pos)
   |_=>none)
  |_=>none
def Cj(x:X)(i:Nat)(tm:TM bt):Option cA:=match x.ev tm with
  |some (.dq vs)=>match vs[i]? with|some v=>some (.pure (.v v))|none=>none
  |_=>none
def OL(f:X)(args:List X)(tm:TM bt):Option cA:=match f.ev tm with
  |some (.v (.c (.func g dD)))=>do
   let as <- args.mapM λx=>x.ev tm
   pure (.call g (as++dD.map λr=>.v (.c (.ptr r 0))))
  |_=>none
def Be(kd:Nat)(x:X)(tm:TM bt):Option cA:=match kd,x.ev tm with
  |0,some (.v (.c (.p (.str s))))=>some (.pure (.pv (.int .i64 s.length)))
  |2,some (.v (.c (.p .bq)))=>some (.pure (.pv (.int .i64 0)))
  |2,some (.v (.c (.p (.slice _ _ rows))))|2,some (.v (.c (.gm _ rows _)))=>some (.pure (.pv (.int .i64 rows.length)))
  |2,some (.v (.c (.cf _ _ len _ _)))=>some (.pure (.pv (.int .i64 len)))
  |_,_=>none
def yz(sz:Nat)(bytes:Nat)(heap:Bool)(a:X)(b:X)(tm:TM bt):Option cA:=match a.ev tm,b.ev tm with
  |some x,some y=>some (.go (kX (hU x) (jb y)) λos=>do
   let (A,M) <- dw (hU x) (jb y) os
   let (new,n) <- gf sz y M
   ee sz bytes heap x A new n)
  |_,_=>none
def Vx  (tm:TM bt):Option cA:=none
def mB(op:jE):TM bt->Option cA:=jE.rec (motive:=λ_=>TM bt->Option cA) qad DJ Bg JZ Bf yy OK Hq Bb Vw Vv Hp AZ DK we Ba Ht Hs yx Hr yw Bd Cj OL Be yz Vx op
def zt(op:jE)(tm:TM bt):mB op tm=cH tm op:=by cases op <;> rfl
abbrev iP(tm:TM bt)(x:X)(k:bt->Option β):Option β:=X.rec (motive:=λ_=>Option β) (λn=>dO (tm.get n) k) k x
def pM(tm:TM bt)(x:X)(k:bt->Option β):iP tm x k=(x.ev tm).bind k:=by
 cases x with
 |t n=>exact R0 _ _
 |k v=>rfl
def bI(v:bt)(k:cN->Option β):Option β:=bt.rec (motive:=λ_=>Option β) k (λ_=>none) v
def iS(v:bt)(k:Cell->Option β):Option β:=bt.rec (motive:=λ_=>Option β) (λc=>cN.rec (motive:=λ_=>Option β) k (λ_=>none) c) (λ_=>none) v
def Vu(v:bL)(k:IntKind->Int->Option β):Option β:=match v with | .int a b=>k a b|_=>none
def D3(c:Cell)(k:IntKind->Int->Option β):Option β:=match c with | .p v=>Vu v k|_=>none
def DN(z:Int)(k:Nat->Option β):Option β:=Int.rec (motive:=λ_=>Option β) k (λ_=>none) z
def Gc(tm:TM bt)(x:X)(k:Nat->Option β):Option β:=iP tm x λv=>iS v λc=>D3 c λ_ z=>DN z k
def tZ(o:bG):Option bG:=bG.rec (motive:=λ_=>Option bG) (λa b=>some (.cells a b)) (λa b=>some (.gO a b)) none o
def qG(h:bm)(r:Ref):Option bG:=Ref.rec (motive:=λ_=>Option bG) (λi=>dO (lC h.bY i) tZ) (λd g=>dO (h.cW.get d) λp=>bif Nat.beq g p.1 then tZ p.2 else none) r
def cellsOf(o:bG)(k:List Cell->Nat->Option β):Option β:=bG.rec (motive:=λ_=>Option β) k (λ_ _=>none) none o
def mT(agg:Bool)(n:Nat)(cs:List Cell)(off:Nat)(k:bt->Option β):Option β :=
 Bool.rec (motive:=λ_=>Option β) (dO (lC cs off) λx=>k (.v (.c x))) ((λrow=>bif Nat.beq (fw row) n then k (.v (.agg row)) else none) (qc (qo cs off) n)) agg
abbrev wz(β:Type):=TM bt->bm->Nat->(bt->bm->Option β)->Option β
def OV(x:X):wz β:=λtm h _ k=>iP tm x λv=>k v h
def Zm(v:bt)(k:List Cell->Option β):Option β:=bt.rec (motive:=λ_=>Option β) (λc=>cN.rec (motive:=λ_=>Option β) (λ_=>none) k c) (λ_=>none) v
def Uv(op:BinOp)(kd:Nat)(a b:bt)(k:bt->Option β):Option β:=bt.rec (motive:=λ_=>Option β) (λc=>cN.rec (motive:=λ_=>Option β)
 (λa=>iS b λb=>dO (IC op kd a b) λc=>k (.v (.c c))) (λas=>Zm b λA=>dO (uT op kd as A) λc=>k (.v (.c c))) c) (λ_=>none) a
def D0(op:BinOp)(kd:Nat)(x y:X):wz β:=λtm h _ k=>iP tm x λa=>iP tm y λb=>Uv op kd a b λv=>k v h
def wO(kd:IntKind)(x:X):wz β:=λtm h _ k=>iP tm x λa=>iS a λa=>D3 a λ_ n=>k (.pv (.int kd (oO kd n))) h
def zF(agg:Bool)(n:Nat)(x:X):wz β:=λtm h _ k=>iP tm x λa=>iS a λa =>
 match a with
 |.ptr r off=>dO (qG h r) λo=>cellsOf o λcs _=>mT agg n cs off λv=>k v h
 |.p (.dc row off)=>mT agg n (bp row) off λv=>k v h
 |_=>none
def wP(n:Nat)(a v:X):wz β:=λtm h _ k=>iP tm a λa=>iP tm v λv=>iS a λa=>bI v λx =>
 match a with
 |.ptr r off=>dO (qG h r) λo=>cellsOf o λcs imm=>bif Nat.ble imm off&&(Nat.beq (fw x.cells) n&&Nat.ble (Nat.add off n) (fw cs)) then k .undef (h.put r (.cells (eY cs off x.cells) imm)) else none
 |_=>none
def wS(off:Nat)(x:X):wz β:=λtm h _ k=>iP tm x λa=>iS a λa =>
 match a with
 |.ptr r o=>k (.v (.c (.ptr r (Nat.add o off)))) h
 |.p (.dc row o)=>k (.pv (.dc row (Nat.add o off))) h
 |_=>none
def wR(sz:Nat)(x i:X):wz β:=λtm h _ k=>iP tm x λa=>iS a λa=>Gc tm i λn =>
 match a with
 |.p (.slice A _ rows)=>bif Nat.beq A sz then dO (lC rows n) λrow=>k (.pv (.dc row 0)) h else none
 |.gm A rows _=>bif Nat.beq A sz then dO (lC rows n) λrow=>k (.pv (.dc row 0)) h else none
 |.cf r off len _ A=>bif Nat.beq A sz&&Nat.blt n len then k (.v (.c (.ptr r (Nat.add off (Nat.mul n sz))))) h else none
 |_=>none
def RA(c:Cell)(k:List UInt8->Option β):Option β:=match c with | .p (.str s)=>k s|_=>none
def wQ(x i:X):wz β:=λtm h _ k=>iP tm x λa=>iS a λa=>RA a λs=>Gc tm i λn=>dO (lC s n) λb=>k (.pv (.int .u8 (.ofNat b.toNat))) h
def sv(x:X)(i:Nat):wz β:=λtm h _ k=>iP tm x λa=>bt.rec (motive:=λ_=>Option β) (λ_=>none) (λvs=>dO (lC vs i) λv=>k (.v v) h) a
def zH(x:X):wz β:=λtm h _ k=>iP tm x λa=>iS a λa=>RA a λs=>k (.pv (.int .i64 (.ofNat (fw s)))) h
def rowsOf(c:Cell)(k:Nat->Option β):Option β:=match c with
 |.p .bq=>k 0
 |.p (.slice _ _ rows)=>k (fw rows)
 |.gm _ rows _=>k (fw rows)
 |.cf _ _ len _ _=>k len
 |_=>none
def zG(x:X):wz β:=λtm h _ k=>iP tm x λa=>iS a λa=>rowsOf a λn=>k (.pv (.int .i64 (.ofNat n))) h
def Yx(dM:List Ref)(A:List bG->Option AF)(d:Nat)(h:bm)(k:bt->bm->Option β):Option β :=
 List.rec (motive:=λ_=>Option β)
  (dO (A []) λres=>AF.rec (motive:=λ_=>Option β) (λout kC new push=>List.rec (motive:=λ_=>Option β)
   (Option.rec (motive:=λ_=>Option β) (k (out (.own d 0)) h) (λo=>bif push then k (out (.im (fw h.bY))) { h with bY:=h.bY++[o] } else (λg=>k (out (.own d g)) { h with cW:=h.cW.set (g,o) d }) (Nat.add (h.gen d) 1)) new) (λ_ _ _=>none) kC) res)
  (λr rs _=>dO (fN (r::rs) A d h) λx=>k x.1 x.2.1) dM
def DW(c:Cell):Bool:=Cell.rec (motive:=λ_=>Bool) (λ_=>true) (λ_ _=>false) (λ_ _ _ _ _=>false) (λ_ _=>false) (λ_ _ _=>false) false c
def iG{α:Type}(p:α->Bool)(l:List α):Bool:=List.rec (motive:=λ_=>Bool) true (λa _ A=>bif p a then A else false) l
def ld(c:cN):Bool:=cN.rec (motive:=λ_=>Bool) DW (iG DW) c
def pT(v:bt):Bool:=bt.rec (motive:=λ_=>Bool) ld (iG ld) v
def mG(O:bD)(f:FuncId)(args:List bt)(d:Nat)(h:bm)(k:bt->bm->Option β):Option β :=
 bif iG pT args then dO (O f args []) λr=>Prod.rec (motive:=λ_=>Option β) (λv A=>List.rec (motive:=λ_=>Option β) (bif pT v then k v h else dO (dE O f args d h) λx=>k x.1 x.2.1) (λ_ _ _=>dO (dE O f args d h) λx=>k x.1 x.2.1) A) r
 else dO (dE O f args d h) λx=>k x.1 x.2.1
def ni(O:bD)(p:TM bt->Option cA):wz β:=λtm h d k=>dO (p tm) λp=>cA.rec (motive:=λ_=>Option β) (λdM A=>Yx dM A d h k) (λf args=>mG O f args d h k) p
abbrev wk(tm:TM bt)(xs:List X)(k:List bt->Option β):Option β:=List.rec (motive:=λ_=>(List bt->Option β)->Option β) (λk=>k []) (λx _ A k=>iP tm x λv=>A λvs=>k (v::vs)) xs k
def zI(O:bD)(f:X)(args:List X):wz β:=λtm h d k=>iP tm f λg=>iS g λg =>
 match g with
 |.func g dD=>wk tm args λas=>mG O g (List.rec (motive:=λ_=>List bt) as (λ_ _ _=>as++dD.map λr=>.v (.c (.ptr r 0))) dD) d h k
 |_=>none
def Ke(O:bD)(kd:Nat)(x:X):wz β:=Nat.rec (motive:=λ_=>wz β) (zH x) (λm _=>Nat.rec (motive:=λ_=>wz β) (ni O (Be kd x)) (λm _=>Nat.rec (motive:=λ_=>wz β) (zG x) (λ_ _=>ni O (Be kd x)) m) m) kd
def Ck(O:bD)(op:jE):wz β:=jE.rec (motive:=λ_=>wz β)
 OV (λc a b=>ni O (DJ c a b)) (λz p=>ni O (Bg z p)) (λx p=>ni O (JZ x p)) (λz ps=>ni O (Bf z ps)) (λsz n z ps hp=>ni O (yy sz n z ps hp))
 zF wP (λx=>ni O (Bb x)) D0 (λop x=>ni O (Vv op x)) wO (λx=>ni O (AZ x))
 (λf cs=>ni O (DK f cs)) (λsz by' z l c pu=>ni O (we sz by' z l c pu)) (λsz s x lo hi mx=>ni O (Ba sz s x lo hi mx))
 wS wR (λn sz x i=>ni O (yx n sz x i)) wQ
 (λx=>ni O (yw x)) (λx=>ni O (Bd x)) sv (zI O) (Ke O) (λsz by' hp a b=>ni O (yz sz by' hp a b))
 (λ_ _ _ _=>none) op
abbrev qv(tm:TM bt)(dst:Option Nat)(v:bt):TM bt:=Option.rec (motive:=λ_=>TM bt) tm (λd=>tm.set v d) dst
abbrev tH(dst:Option Nat):Nat:=Option.rec (motive:=λ_=>Nat) 1000000 (λd=>d) dst
def D2(c:Cell)(k:Bool->Option β):Option β:=match c with | .p (.bool b)=>k b|_=>none
def wX(b w:Bool):Bool:=Bool.rec (motive:=λ_=>Bool) (Bool.not w) w b
def Zs(st:St)(r:pK)(k:cN->Option β):Option β :=
 pK.rec (motive:=λ_=>Option β) (λn=>dO (st.tm.get n) λv=>bI v k)
  (λn agg size=>dO (st.tm.get n) λv=>iS v λc=>match c with
   |.ptr r off=>dO (qG st.h r) λo=>cellsOf o λcs _=>mT agg size cs off λv=>bI v k
   |_=>none) r
end
variable {β:Type}
def Cf{α:Type}{k k':IntKind}(x y:α):(bif oQ k k' then x else y)=if k=k' then x else y:=by rw[qV6,jC]
def qRy(k:IntKind)(m n:Nat)(hm:m<pc k)(hn:n<pc k):iD .or k (.ofNat m) (.ofNat n)=some (.int k (.ofNat (Nat.lor m n))):=by
 have key:∀ b c:Nat,c<=b->m<2 ^ c->n<2 ^ c->(BitVec.ofInt b (Int.ofNat m) ||| BitVec.ofInt b (Int.ofNat n)).toNat=Nat.lor m n/\Nat.lor m n<2 ^ c:=by
  intro b c A h1 M;have hb:(2:Nat) ^ c<=2 ^ b:=sJ bu A;have e:Nat.lor m n<2 ^ c:=Nat.or_lt_two_pow h1 M;refine⟨?_,e⟩;rw[BitVec.toNat_or,nq,nq,Fv,Fv,Fu,Fu,E9 bn,E9 bn];rfl
 have fin:∀ c:Nat,c<=k.bits->m<2 ^ c->n<2 ^ c->(2:Nat) ^ c=pc k->iD .or k (.ofNat m) (.ofNat n)=some (.int k (.ofNat (Nat.lor m n))):=by
  intro c hc h1 M h3;obtain⟨U,e2⟩:=key k.bits c hc h1 M;unfold iD;dsimp only;rw[U,<- FO];show some (bL.int k (bif Nat.blt (Nat.lor m n) (pc k) then Int.ofNat (Nat.lor m n) else _))=_;rw[Hh,cI bn];rfl
 cases k
 ·exact fin 7 bu hm hn rfl
 ·exact fin 15 bu hm hn rfl
 ·exact fin 31 bu hm hn rfl
 ·exact fin 63 bu hm hn rfl
 ·exact fin 8 bu hm hn rfl
 ·exact fin 16 bu hm hn rfl
 ·exact fin 32 bu hm hn rfl
 ·exact fin 64 bu hm hn rfl
def qVk(k k':IntKind)(x y:Int):OS k k' x y=if k=k' then (iD .or k x y).map .p else none:=by
 unfold OS;rw[Cf];split
 ·have hb:∀ o:Option bL,(dO o λv=>some (Cell.p v))=o.map .p:=λo=>by cases o <;> rfl
  rw[hb];cases x with
  |negSucc m=>rfl
  |ofNat m =>
   cases y with
   |negSucc n=>rfl
   |ofNat n =>
    show(Option.rec (motive:=λ_=>Option Cell) ((iD .or k (.ofNat m) (.ofNat n)).map .p) (λn=>some (Cell.p (.int k (.ofNat n)))) (bif Nat.blt m (pc k)&&Nat.blt n (pc k) then some (Nat.lor m n) else none):Option Cell)=_;rw[Hh,Hh];by_cases h:m<pc k/\n<pc k
    ·rw[cI h.1,cI h.2,qRy k m n h.1 h.2]; rfl
    ·have:(decide (m<pc k)&&decide (n<pc k))=false:=by
      rw[<- vo]; exact de h
     rw[this]; rfl
 ·rfl
def qTx(op:BinOp)(kd:Nat)(k k':IntKind)(x y:Int):VU op k k' x y=pB op kd (.p (.int k x)) (.p (.int k' y)):=by
 have hb:∀ o:Option bL,(dO o λv=>some (Cell.p v))=o.map .p:=λo=>by cases o <;> rfl
 have nt:∀ b:Bool,Bool.not b = !b:=λ_=>rfl
 cases op
 case or=>exact qVk k k' x y
 case shl=>exact hb _
 case shr=>exact hb _
 case quo =>
  show(bif oQ k k' then (bif vR y 0 then none else some (Cell.p (.int k (oO k (Int.tdiv x y))))) else none)=if k=k' then ((if y=0 then none else some (bL.int k (k.wrap (x.tdiv y)))):Option bL).map Cell.p else none
  rw[Cf,OA,jC,FO];split <;> (try rfl)
  split <;> rfl
 case rem =>
  show(bif oQ k k' then (bif vR y 0 then none else some (Cell.p (.int k (Int.tmod x y)))) else none)=if k=k' then ((if y=0 then none else some (bL.int k (x.tmod y))):Option bL).map Cell.p else none
  rw[Cf,OA,jC];split <;> (try rfl)
  split <;> rfl
 case add=>show(bif oQ k k' then some (Cell.p (.int k (oO k (x+y)))) else none)=if k=k' then some (Cell.p (.int k (k.wrap (x+y)))) else none; rw[Cf,FO]
 case sub=>show(bif oQ k k' then some (Cell.p (.int k (oO k (x - y)))) else none)=if k=k' then some (Cell.p (.int k (k.wrap (x - y)))) else none; rw[Cf,FO]
 case mul=>show(bif oQ k k' then some (Cell.p (.int k (oO k (x*y)))) else none)=if k=k' then some (Cell.p (.int k (k.wrap (x*y)))) else none; rw[Cf,FO]
 case eql=>show(bif oQ k k' then some (Cell.p (.bool (vR x y))) else none)=if k=k' then some (Cell.p (.bool (x==y))) else none; rw[Cf,OA]; rfl
 case neq=>show(bif oQ k k' then some (Cell.p (.bool (!(vR x y)))) else none)=if k=k' then some (Cell.p (.bool (!(x==y)))) else none; rw[Cf,OA]; rfl
 case lss=>show(bif oQ k k' then some (Cell.p (.bool (vQ x y))) else none)=if k=k' then some (Cell.p (.bool (decide (x<y)))) else none; rw[Cf,JF]
 case leq=>show(bif oQ k k' then some (Cell.p (.bool (!(vQ y x)))) else none)=if k=k' then some (Cell.p (.bool (decide (x<=y)))) else none; rw[Cf,JF,<- decide_not]; simp only[Int.not_lt]
 case gtr=>show(bif oQ k k' then some (Cell.p (.bool (vQ y x))) else none)=if k=k' then some (Cell.p (.bool (decide (x>y)))) else none; rw[Cf,JF]
 case geq=>show(bif oQ k k' then some (Cell.p (.bool (!(vQ x y)))) else none)=if k=k' then some (Cell.p (.bool (decide (x>=y)))) else none; rw[Cf,JF,<- decide_not]; simp only[Int.not_lt,ge_iff_le]
 all_goals
  show(bif oQ k k' then (dO (iD _ k x y) λv=>some (Cell.p v)) else none)=if k=k' then (iD _ k x y).map .p else none
  rw[Cf,hb]
def qT8(op:BinOp)(kd:Nat)(x y:List UInt8):UG op x y=pB op kd (.p (.str x)) (.p (.str y)):=by
 have hb:∀ o:Option bL,(dO o λv=>some (Cell.p v))=o.map .p:=λo=>by cases o <;> rfl
 cases op
 case add =>
  show(bif Nat.ble (fw x+fw y) 4611686018427387904 then some (Cell.p (.str (x++y))) else none)=(if x.length+y.length<=2 ^ 62 then some (bL.str (x++y)) else none).map .p;rw[pU,pU];by_cases h:x.length+y.length<=2 ^ 62
  ·rw[bF h,show Nat.ble (x.length+y.length) 4611686018427387904=true from oK h]; rfl
  ·rw[bA h];cases hb:Nat.ble (x.length+y.length) 4611686018427387904 with
   |true=>exact absurd (vp hb) h
   |false=>rfl
 case eql=>show some (Cell.p (.bool (yO x y)))=some (Cell.p (.bool (x==y))); rw[Xv]
 case neq=>show some (Cell.p (.bool (!(yO x y))))=some (Cell.p (.bool (!(x==y)))); rw[Xv]
 case sub=>exact hb (ix .sub x y)
 case mul=>exact hb (ix .mul x y)
 case quo=>exact hb (ix .quo x y)
 case rem=>exact hb (ix .rem x y)
 case and=>exact hb (ix .and x y)
 case or=>exact hb (ix .or x y)
 case xor=>exact hb (ix .xor x y)
 case shl=>exact hb (ix .shl x y)
 case shr=>exact hb (ix .shr x y)
 case andNot=>exact hb (ix .andNot x y)
 case lss=>exact hb (ix .lss x y)
 case leq=>exact hb (ix .leq x y)
 case gtr=>exact hb (ix .gtr x y)
 case geq=>exact hb (ix .geq x y)
def qMU(op:BinOp)(kd:Nat)(x y:Cell):IC op kd x y=pB op kd x y:=by
 cases x with
 |p a =>
  cases y with
  |p b =>
   show JW op kd a b=_;cases a with
   |int k a=>cases b with
    |int k' b=>exact qTx op kd k k' a b
    |_=>rfl
   |str a=>cases b with
    |str b=>exact qT8 op kd a b
    |_=>rfl
   |_=>rfl
  |_=>rfl
 |_=>rfl
def qPU(o:bG):tZ o=match o with | .dead=>none|o=>some o:=by cases o <;> rfl
def FL(h:bm)(r:Ref):qG h r=h.get r:=by
 cases r with
 |im i =>
  show dO (lC h.bY i) tZ=match h.bY[i]? with|some .dead=>none|o=>o
  rw[AW];cases h.bY[i]? with
  |none=>rfl
  |some o=>cases o <;> rfl
 |own d g =>
  show dO (h.cW.get d) _=match h.cW.get d with|some (A,o)=>bif Nat.beq g A then (match o with | .dead=>none|o=>some o) else none|none=>none
  cases h.cW.get d with
  |none=>rfl
  |some p=>obtain⟨A,o⟩:=p; show(bif Nat.beq g A then tZ o else none)=_; rw[qPU]
def qGo(agg:Bool)(n:Nat)(cs:List Cell)(off:Nat)(k:bt->Option β):mT agg n cs off k=(partOf agg n cs off).bind k:=by
 cases agg with
 |false =>
  show dO (lC cs off) (λx=>k (.v (.c x)))=Option.bind (match cs[off]? with|some x=>some (bt.v (.c x))|none=>none) k;rw[AW]; cases cs[off]? <;> rfl
 |true =>
  show(bif Nat.beq (fw (qc (qo cs off) n)) n then k (.v (.agg (qc (qo cs off) n))) else none)=Option.bind (if ((cs.drop off).take n).length=n then some (bt.v (.agg ((cs.drop off).take n))) else none) k;rw[pU,Sn,So,pN,jC];split <;> rfl
def qM7(tm:TM bt)(x:X)(k:Nat->Option β):Gc tm x k=((x.ev tm).bind tM).bind k:=by
 unfold Gc;rw[pM];cases x.ev tm with
 |none=>rfl
 |some v =>
  show iS v _=(tM v).bind k;cases v with
  |dq vs=>rfl
  |v c=>cases c with
   |agg cs=>rfl
   |c c=>cases c with
    |p v=>cases v with
     |int kd z=>cases z with
      |ofNat n=>rfl
      |negSucc n=>rfl
     |_=>rfl
    |_=>rfl
noncomputable def ib(O:bD)(op:jE)(tm:TM bt)(h:bm)(d:Nat):Option (bt×bm):=(cH tm op).bind λp=>(p.exec O d h).map λx=>(x.1,x.2.1)
def Fits(O:bD)(op:jE)(f:wz β):Prop:=∀ tm h d k,f tm h d k=(ib O op tm h d).bind λx=>k x.1 x.2
def qQX(O:bD)(r:Ref)(A:bG->Option bt)(d:Nat)(h:bm):((cA.read r A).exec O d h).map (λx=>(x.1,x.2.1))=(h.get r).bind λo=>(A o).map λv=>(v,h):=by
 show(fN [r] _ d h).map _=_;unfold fN;simp only[ek,gg];cases h.get r with
 |none=>rfl
 |some o =>
  cases hp:A o with
  |none=>simp[hp]
  |some v=>simp[hp]
def qEw(O:bD)(r:Ref)(A:bG->Option (bt×bG))(d:Nat)(h:bm):((cA.write r A).exec O d h).map (λx=>(x.1,x.2.1))=(h.get r).bind λo=>(A o).map λv=>(v.1,h.put r v.2):=by
 show(fN [r] _ d h).map _=_;unfold fN;simp only[ek,gg];cases h.get r with
 |none=>rfl
 |some o =>
  cases hp:A o with
  |none=>simp[hp]
  |some v=>simp[hp]
def qND(O:bD)(x:X):Fits (β:=β) O (.mv x) (OV x):=by
 intro tm h d k;unfold OV ib;rw[pM];show _=Option.bind (Option.bind ((x.ev tm).map cA.pure) _) _;cases x.ev tm <;> rfl
def qHH(O:bD)(op:BinOp)(kd:Nat)(x y:X):Fits (β:=β) O (.bin op kd x y) (D0 op kd x y):=by
 intro tm h d k;unfold D0 ib;simp only[pM];show _=Option.bind (Option.bind (match x.ev tm,y.ev tm with|some (.v (.c a)),some (.v (.c b))=>(pB op kd a b).map λc=>cA.pure (.v (.c c))|some (.v (.agg a)),some (.v (.agg b))=>(uT op kd a b).map λc=>cA.pure (.v (.c c))|_,_=>none) _) _;cases x.ev tm with
 |none=>cases y.ev tm <;> rfl
 |some a =>
  cases y.ev tm with
  |none=>cases a with
   |dq _=>rfl
   |v a=>cases a <;> rfl
  |some b =>
   cases a with
   |dq _=>rfl
   |v a=>cases a with
    |agg a=>cases b with
     |dq _=>rfl
     |v b=>cases b with
      |c _=>rfl
      |agg b =>
       rfl
    |c a=>cases b with
     |dq _=>rfl
     |v b=>cases b with
      |agg _=>rfl
      |c b =>
       show dO (IC op kd a b) _=Option.bind (Option.bind ((pB op kd a b).map λc=>cA.pure (.v (.c c))) _) _;rw[qMU];cases pB op kd a b <;> rfl
def qIK(O:bD)(kd:IntKind)(x:X):Fits (β:=β) O (.toInt kd x) (wO kd x):=by
 intro tm h d k;unfold wO ib;simp only[pM,FO];show _=Option.bind (Option.bind (match x.ev tm with|some (.v (.c (.p (.int _ n))))=>some (cA.pure (.pv (.int kd (kd.wrap n))))|_=>none) _) _;cases x.ev tm with
 |none=>rfl
 |some a=>cases a with
  |dq _=>rfl
  |v a=>cases a with
   |agg _=>rfl
   |c a=>cases a with
    |p a=>cases a <;> rfl
    |_=>rfl
def qFe(O:bD)(agg:Bool)(n:Nat)(x:X):Fits (β:=β) O (.load agg n x) (zF agg n x):=by
 intro tm h d k;unfold zF ib;simp only[pM,qGo,FL]
 show _=Option.bind (Option.bind (match x.ev tm with
  |some (.v (.c (.ptr r off)))=>some (cA.read r λ| .cells cs _=>partOf agg n cs off|_=>none)
  |some (.v (.c (.p (.dc row off))))=>(partOf agg n (bp row) off).map cA.pure
  |_=>none) _) _
 cases x.ev tm with
 |none=>rfl
 |some a=>cases a with
  |dq _=>rfl
  |v a=>cases a with
   |agg _=>rfl
   |c a=>cases a with
    |p a=>cases a with
     |dc row off =>
      show Option.bind (partOf agg n (bp row) off) _=Option.bind (Option.bind ((partOf agg n (bp row) off).map cA.pure) _) _;cases partOf agg n (bp row) off <;> rfl
     |_=>rfl
    |ptr r off =>
     show dO (h.get r) _=Option.bind (((cA.read r _).exec O d h).map _) _;rw[qQX];cases h.get r with
     |none=>rfl
     |some o=>cases o with
      |cells cs imm =>
       show Option.bind (partOf agg n cs off) _=Option.bind ((partOf agg n cs off).map _) _;cases partOf agg n cs off <;> rfl
      |_=>rfl
    |_=>rfl
def Oo(m n:Nat):Nat.ble m n=decide (m<=n):=by
 cases h:Nat.ble m n with
 |true=>exact(cI (vp h)).symm
 |false=>exact(de λc=>by rw[oK c] at h; cases h).symm
def qHf(O:bD)(n:Nat)(a v:X):Fits (β:=β) O (.store n a v) (wP n a v):=by
 intro tm h d k;unfold wP ib;simp only[pM,FL,pU]
 show _=Option.bind (Option.bind (match a.ev tm,v.ev tm with
  |some (.v (.c (.ptr r off))),some (.v x)=>some (cA.write r λ
   |.cells cs imm=>if imm<=off/\x.cells.length=n/\off+n<=cs.length then some (.undef,.cells (eY cs off x.cells) imm) else none
   |_=>none)
  |_,_=>none) _) _
 cases a.ev tm with
 |none=>cases v.ev tm <;> rfl
 |some a =>
  cases v.ev tm with
  |none=>cases a with
   |dq _=>rfl
   |v a=>cases a with
    |agg _=>rfl
    |c a=>cases a <;> rfl
  |some v =>
   cases a with
   |dq _=>rfl
   |v a=>cases a with
    |agg _=>rfl
    |c a =>
     cases v with
     |dq _=>cases a <;> rfl
     |v x =>
      cases a with
      |ptr r off =>
       show dO (h.get r) _=Option.bind (((cA.write r _).exec O d h).map _) _;rw[qEw];cases h.get r with
       |none=>rfl
       |some o=>cases o with
        |cells cs imm =>
         show(bif Nat.ble imm off&&(Nat.beq x.cells.length n&&Nat.ble (off+n) cs.length) then _ else none)=Option.bind (Option.map _ (if _ then _ else none)) _;rw[Oo,Oo,pN,<- vo,<- vo,jC];by_cases hc:imm<=off/\x.cells.length=n/\off+n<=cs.length
         ·rw[bF hc,bF hc]; rfl
         ·rw[bA hc,bA hc]; rfl
        |_=>rfl
      |_=>rfl
def qHU(O:bD)(off:Nat)(x:X):Fits (β:=β) O (.dG off x) (wS off x):=by
 intro tm h d k;unfold wS ib;simp only[pM]
 show _=Option.bind (Option.bind (match x.ev tm with
  |some (.v (.c (.ptr r o)))=>some (cA.pure (.v (.c (.ptr r (o+off)))))
  |some (.v (.c (.p (.dc row o))))=>some (.pure (.pv (.dc row (o+off))))
  |_=>none) _) _
 cases x.ev tm with
 |none=>rfl
 |some a=>cases a with
  |dq _=>rfl
  |v a=>cases a with
   |agg _=>rfl
   |c a=>cases a with
    |p a=>cases a <;> rfl
    |_=>rfl
def qFK(O:bD)(sz:Nat)(x i:X):Fits (β:=β) O (.il sz x i) (wR sz x i):=by
 intro tm h d k;unfold wR ib;simp only[pM,qM7,AW]
 show _=Option.bind (Option.bind (match x.ev tm,(i.ev tm).bind tM with
  |some (.v (.c (.p (.slice A _ rows)))),some k =>
   if A=sz then (match rows[k]? with|some row=>some (cA.pure (.pv (.dc row 0)))|none=>none) else none
  |some (.v (.c (.gm A rows _))),some k =>
   if A=sz then (match rows[k]? with|some row=>some (.pure (.pv (.dc row 0)))|none=>none) else none
  |some (.v (.c (.cf r off len _ A))),some k=>if A=sz/\k<len then some (.pure (.v (.c (.ptr r (off+k*sz))))) else none
  |_,_=>none) _) _
 cases x.ev tm with
 |none=>rfl
 |some a=>cases a with
  |dq _=>rfl
  |v a=>cases a with
   |agg _=>rfl
   |c a =>
    cases (i.ev tm).bind tM with
    |none=>cases a with
     |p a=>cases a <;> rfl
     |_=>rfl
    |some m =>
     cases a with
     |p a=>cases a with
      |slice A t rows =>
       show(bif Nat.beq A sz then dO rows[m]? _ else none)=Option.bind (Option.bind (if A=sz then _ else none) _) _;rw[pN,jC];split
       ·cases rows[m]? <;> rfl
       ·rfl
      |_=>rfl
     |gm A rows r =>
      show(bif Nat.beq A sz then dO rows[m]? _ else none)=Option.bind (Option.bind (if A=sz then _ else none) _) _;rw[pN,jC];split
      ·cases rows[m]? <;> rfl
      ·rfl
     |cf r off len cap A =>
      show(bif Nat.beq A sz&&Nat.blt m len then _ else none)=Option.bind (Option.bind (if A=sz/\m<len then _ else none) _) _;rw[pN,Hh,<- vo,jC];split <;> rfl
     |_=>rfl
def qHO(O:bD)(x i:X):Fits (β:=β) O (.index x i) (wQ x i):=by
 intro tm h d k;unfold wQ ib;simp only[pM,qM7,AW]
 show _=Option.bind (Option.bind (match x.ev tm,(i.ev tm).bind tM with
  |some (.v (.c (.p (.str s)))),some k=>match s[k]? with|some b=>some (cA.pure (.pv (.int .u8 b.toNat)))|none=>none
  |_,_=>none) _) _
 cases x.ev tm with
 |none=>rfl
 |some a=>cases a with
  |dq _=>rfl
  |v a=>cases a with
   |agg _=>rfl
   |c a=>cases a with
    |p a=>cases a with
     |str s =>
      cases (i.ev tm).bind tM with
      |none=>rfl
      |some m =>
       show dO s[m]? _=Option.bind (Option.bind (match s[m]? with|some b=>_|none=>none) _) _;cases s[m]? <;> rfl
     |_=>rfl
    |_=>rfl
def qFk(O:bD)(x:X)(i:Nat):Fits (β:=β) O (.extract x i) (sv x i):=by
 intro tm h d k;unfold sv ib;simp only[pM,AW]
 show _=Option.bind (Option.bind (match x.ev tm with
  |some (.dq vs)=>match vs[i]? with|some v=>some (cA.pure (.v v))|none=>none
  |_=>none) _) _
 cases x.ev tm with
 |none=>rfl
 |some a=>cases a with
  |v _=>rfl
  |dq vs =>
   show dO vs[i]? _=Option.bind (Option.bind (match vs[i]? with|some v=>_|none=>none) _) _;cases vs[i]? <;> rfl
def qM5{c:Cell}(h:DW c=true):∃ v,c = .p v:=by
 cases c with
 |p v=>exact⟨v,rfl⟩
 |_=>cases h
def Yj{α:Type}{p:α->Bool}{a:α}{l:List α}(h:iG p (a::l)=true):p a=true/\iG p l=true:=by
 have h':(bif p a then iG p l else false)=true:=h;cases hp:p a with
 |false=>rw[hp] at h'; cases h'
 |true=>rw[hp] at h'; exact⟨rfl,h'⟩
def qU1:∀ {cs:List Cell},iG DW cs=true->∃ ps:List bL,cs=ps.map .p:=by
 intro cs
 induction cs with
 |nil=>intro _; exact⟨[],rfl⟩
 |cons c cs A =>
  intro h;obtain⟨h1,M⟩:=Yj h;obtain⟨v,rfl⟩:=qM5 h1;obtain⟨ps,rfl⟩:=A M;exact⟨v::ps,rfl⟩
def qGX{c:cN}(h:ld c=true):c.refs=[]/\c.strip=c/\(∀ σ,c.eB σ=c)/\∀ hp:bm,fJ hp c=some (c,[]):=by
 cases c with
 |c x =>
  obtain⟨v,rfl⟩:=qM5 h;exact⟨rfl,rfl,λ_=>rfl,λ_=>rfl⟩
 |agg cs =>
  obtain⟨ps,rfl⟩:=qU1 h;refine⟨?_,?_,?_,?_⟩
  ·show(ps.map Cell.p).flatMap Cell.refs=[]
   induction ps with
   |nil=>rfl
   |cons p ps A=>simp[Cell.refs]
  ·show cN.agg ((ps.map Cell.p).map Cell.strip)=_;rw[fU]; rfl
  ·intro σ;show cN.agg ((ps.map Cell.p).map (Cell.eB σ))=_;rw[fU]; rfl
  ·intro hp;have key:∀ qs:List bL,(qs.map Cell.p).mapM (freeze hp eA)=some (qs.map λq=>(q,[])):=by
    intro qs
    induction qs with
    |nil=>rfl
    |cons q qs A =>
     rw[dr,ek,A];rfl
   show((ps.map Cell.p).mapM (freeze hp eA)).map _=_;rw[key];simp only[iO,fU]
   congr 2
   ·simp[xV]
def zq{v:bt}(h:pT v=true):v.refs=[]/\v.strip=v/\(∀ σ,v.eB σ=v)/\∀ hp:bm,iF hp v=some (v,[]):=by
 cases v with
 |v c =>
  obtain⟨a,b,c',d⟩:=qGX (c:=c) h;exact⟨a,dh bt.v b,λσ=>dh bt.v (c' σ),λhp=>by show(fJ hp c).map _=_; rw[d]; rfl⟩
 |dq vs =>
  have key:∀ vs:List cN,iG ld vs=true->vs.flatMap cN.refs=[]/\vs.map cN.strip=vs/\(∀ σ,vs.map (cN.eB σ)=vs)/\∀ hp:bm,vs.mapM (fJ hp)=some (vs.map λx=>(x,[])):=by
   intro vs
   induction vs with
   |nil=>intro _; exact⟨rfl,rfl,λ_=>rfl,λ_=>rfl⟩
   |cons c vs A =>
    intro h;obtain⟨h1,M⟩:=Yj h;obtain⟨a1,a2,a3,a4⟩:=qGX h1;obtain⟨U,b2,b3,b4⟩:=A M;refine⟨by rw[eJ,a1,U]; rfl,by rw[dr,a2,b2],λσ=>by rw[dr,a3,b3],λhp=>?_⟩;rw[ek,a4,b4];rfl
  obtain⟨a,b,c,d⟩:=key vs h;refine⟨a,dh bt.dq b,λσ=>dh bt.dq (c σ),λhp=>?_⟩;show(vs.mapM (fJ hp)).map _=_;rw[d];simp only[iO,fU]
  congr 2
  ·congr 1; exact List.map_id'' (λ_=>rfl) vs
  ·simp[xV]
def qM3:∀ {args:List bt},iG pT args=true->args.map bt.strip=args/\args.flatMap bt.refs=[]/\∀ σ,args.map (bt.eB σ)=args:=by
 intro args
 induction args with
 |nil=>intro _; exact⟨rfl,rfl,λ_=>rfl⟩
 |cons v vs A =>
  intro h;obtain⟨h1,M⟩:=Yj h;obtain⟨a1,a2,a3,_⟩:=zq h1;obtain⟨U,b2,b3⟩:=A M;exact⟨by rw[dr,a2,U],by rw[eJ,a1,b2]; rfl,λσ=>by rw[dr,a3,b3]⟩
def Ov(O:bD)(f:FuncId)(args:List bt)(d:Nat)(h:bm)(k:bt->bm->Option β):mG O f args d h k=(dE O f args d h).bind λx=>k x.1 x.2.1:=by
 unfold mG;cases hp:iG pT args with
 |false=>exact R0 _ _
 |true =>
  obtain⟨U,e2,e3⟩:=qM3 hp;have hc:dE O f args d h=match O f args [] with
    |none=>none
    |some (v,cZ)=>dE O f args d h:=by
   cases M:O f args [] with
   |none =>
    unfold dE;simp only[U,e2];rw[show reach h cw [] []=[] from rfl];simp only[gg,kL,e3,M,rM]
   |some r=>rfl
  show dO (O f args []) _=_;cases M:O f args [] with
  |none=>rw[hc,M]; rfl
  |some r =>
   obtain⟨v,A⟩:=r;cases A with
   |cons o os =>
    show dO (dE O f args d h) (λx=>k x.1 x.2.1)=_;exact R0 _ _
   |nil =>
    show(bif pT v then k v h else _)=_;cases hv:pT v with
    |false =>
     show dO (dE O f args d h) (λx=>k x.1 x.2.1)=_;exact R0 _ _
    |true =>
     obtain⟨v1,v2,v3,_⟩:=zq hv;unfold dE;simp only[U,e2];rw[show reach h cw [] []=[] from rfl];simp only[gg,kL,e3,M,rM,v3];rfl
def qWb(dM:List Ref)(A:List bG->Option AF)(d:Nat)(h:bm)(k:bt->bm->Option β):Yx dM A d h k=(fN dM A d h).bind λx=>k x.1 x.2.1:=by
 cases dM with
 |cons r rs=>exact R0 _ _
 |nil =>
  unfold Yx fN;simp only[gg,rM];cases A [] with
  |none=>rfl
  |some res =>
   obtain⟨out,kC,new,push⟩:=res;cases kC with
   |cons u us=>rfl
   |nil =>
    cases new with
    |none=>rfl
    |some o =>
     show(bif push then k (out (.im (fw h.bY))) { h with bY:=h.bY++[o] } else _)=_;rw[pU];cases push <;> rfl
def qM0(O:bD)(op:jE)(p:TM bt->Option cA)(hp:∀ tm,p tm=cH tm op):Fits (β:=β) O op (ni O p):=by
 intro tm h d k;unfold ni ib;rw[hp];cases cH tm op with
 |none=>rfl
 |some p=>cases p with
  |go dM A =>
   show Yx dM A d h k=Option.bind ((fN dM A d h).map _) _;rw[qWb];cases fN dM A d h <;> rfl
  |call f args =>
   show mG O f args d h k=Option.bind ((dE O f args d h).map _) _;rw[Ov];cases dE O f args d h <;> rfl
def qLP(tm:TM bt):∀ (xs:List X) (k:List bt->Option β),wk tm xs k=(xs.mapM λx=>X.ev tm x).bind k:=by
 intro xs
 induction xs with
 |nil=>intro k; rfl
 |cons x xs A =>
  intro k;show iP tm x (λv=>wk tm xs λvs=>k (v::vs))=_;rw[pM,ek];cases x.ev tm with
  |none=>rfl
  |some v =>
   show wk tm xs (λvs=>k (v::vs))=_;rw[A];cases xs.mapM λx=>X.ev tm x <;> rfl
def qIo(O:bD)(f:X)(args:List X):Fits (β:=β) O (.call f args) (zI O f args):=by
 intro tm h d k;unfold zI ib;simp only[pM,qLP]
 show _=Option.bind (Option.bind (match f.ev tm with
  |some (.v (.c (.func g dD)))=>(args.mapM λx=>X.ev tm x).bind λas=>some (cA.call g (as++dD.map λr=>.v (.c (.ptr r 0))))
  |_=>none) _) _
 cases f.ev tm with
 |none=>rfl
 |some a=>cases a with
  |dq _=>rfl
  |v a=>cases a with
   |agg _=>rfl
   |c a=>cases a with
    |func g dD =>
     show Option.bind (args.mapM λx=>X.ev tm x) _=Option.bind (Option.bind (Option.bind (args.mapM λx=>X.ev tm x) _) _) _;cases args.mapM λx=>X.ev tm x with
     |none=>rfl
     |some as =>
      show mG O g _ d h k=Option.bind ((dE O g (as++dD.map λr=>.v (.c (.ptr r 0))) d h).map _) _;rw[Ov];have:(List.rec (motive:=λ_=>List bt) as (λ_ _ _=>as++dD.map λr=>bt.v (.c (.ptr r 0))) dD:List bt)=as++dD.map λr=>.v (.c (.ptr r 0)):=by
       cases dD with
       |nil=>exact(fa as).symm
       |cons r rs=>rfl
      rw[this];cases dE O g (as++dD.map λr=>.v (.c (.ptr r 0))) d h <;> rfl
    |_=>rfl
def qRx(O:bD)(kd:Nat)(x:X):Fits (β:=β) O (.len kd x) (Ke O kd x):=by
 have hd:∀ kd,Fits (β:=β) O (.len kd x) (ni O (Be kd x)):=λkd=>qM0 O _ _ λ_=>rfl
 match kd with
 |0 =>
  intro tm h d k;show zH x tm h d k=_;unfold zH ib;simp only[pM,pU,cH];cases x.ev tm with
  |none=>rfl
  |some a=>cases a with
   |dq _=>rfl
   |v a=>cases a with
    |agg _=>rfl
    |c a=>cases a with
     |p a=>cases a <;> rfl
     |_=>rfl
 |1=>exact hd 1
 |2 =>
  intro tm h d k;show zG x tm h d k=_;unfold zG ib;simp only[pM,cH];cases x.ev tm with
  |none=>rfl
  |some a=>cases a with
   |dq _=>rfl
   |v a=>cases a with
    |agg _=>rfl
    |c a=>cases a with
     |p a=>cases a with
      |slice sz t rows=>show k (.pv (.int .i64 (.ofNat (fw rows)))) h=_; rw[pU]; rfl
      |_=>rfl
     |gm sz rows r=>show k (.pv (.int .i64 (.ofNat (fw rows)))) h=_; rw[pU]; rfl
     |_=>rfl
 |m+3=>exact hd (m+3)
def CK(O:bD)(op:jE):Fits (β:=β) O op (Ck O op):=by
 have hd:∀ op,Fits (β:=β) O op (ni O (mB op)):=λop=>qM0 O _ _ (zt op)
 cases op
 case mv=>exact qND O _
 case load=>exact qFe O _ _ _
 case store=>exact qHf O _ _ _
 case bin=>exact qHH O _ _ _ _
 case toInt=>exact qIK O _ _
 case dG=>exact qHU O _ _
 case il=>exact qFK O _ _ _
 case index=>exact qHO O _ _
 case extract=>exact qFk O _ _
 case call=>exact qIo O _ _
 case len=>exact qRx O _ _
 case bad=>intro tm h d k; rfl
 all_goals exact hd _
def OE(tm:TM bt)(dst:Option Nat)(v:bt):qv tm dst v=fX tm dst v:=by cases dst <;> rfl
def qEa(dst:Option Nat):tH dst=dst.getD 1000000:=by cases dst <;> rfl
def Sf(b w:Bool):wX b w=(b==w):=by cases b <;> cases w <;> rfl
def qM6(st:St)(r:pK)(k:cN->Option β):Zs st r k=(ki st r).bind k:=by
 cases r with
 |t n =>
  show dO (st.tm.get n) (λv=>bI v k)=Option.bind (match st.tm.get n with|some (.v x)=>some x|_=>none) k;cases st.tm.get n with
  |none=>rfl
  |some v=>cases v <;> rfl
 |cell n agg size =>
  show dO (st.tm.get n) _=Option.bind (match st.tm.get n with
   |some (.v (.c (.ptr r off)))=>match st.h.get r with
    |some (.cells cs _)=>match partOf agg size cs off with|some (.v x)=>some x|_=>none
    |_=>none
   |_=>none) k
  cases st.tm.get n with
  |none=>rfl
  |some v=>cases v with
   |dq _=>rfl
   |v c=>cases c with
    |agg _=>rfl
    |c c=>cases c with
     |ptr r off =>
      show dO (qG st.h r) (λo=>cellsOf o λcs _=>mT agg size cs off λv=>bI v k)=Option.bind (match st.h.get r with
       |some (.cells cs _)=>match partOf agg size cs off with|some (.v x)=>some x|_=>none
       |_=>none) k
      rw[FL];cases st.h.get r with
      |none=>rfl
      |some o=>cases o with
       |cells cs imm =>
        show mT agg size cs off (λv=>bI v k)=Option.bind (match partOf agg size cs off with|some (.v x)=>some x|_=>none) k;rw[qGo];cases partOf agg size cs off with
        |none=>rfl
        |some v=>cases v <;> rfl
       |_=>rfl
     |_=>rfl
def XJ{vs:List cN}(h:iG ld vs=true):pT (oneOf vs)=true:=by
 match vs,h with
 |[],_=>rfl
 |[x],h=>exact(Yj h).1
 |x::y::A,h=>exact h
end Go.AI
namespace Go.AI
open Go.RowKit Go.ChangeShapes Go.WideShapes
section
variable [Sym] {P:Program} {G:Nat->Option (List bL)} {T:FuncId->Option nd}
end
def qIv{p:Nat->Bool}{n:Nat}(h:(List.range n).all p=true){i:Nat}(hi:i<n):p i=true:=lU.1 h i (sL.2 hi)
structure qT where
 name:String
 g:Nat
 k:IntKind
 eM:List Int
def qx(t:qT):List bL:=t.eM.map (.int t.k)
def sU:List qT->Nat->Option (List bL)
 |[],_=>none
 |t::ts,g=>bif Nat.beq t.g g then some (qx t) else sU ts g
def zB(ts:List qT):eK where
 cell b o:=match sU ts b with
  |some row=>match row[o]? with
   |some (.int k n)=>some (.int k n)
   |_=>none
  |none=>none
 map _:=none
def qFx:∀ {ts:List qT}{g:Nat}{row:List bL},sU ts g=some row->∃ t∈ts,t.g=g/\row=qx t:=by
 intro ts
 induction ts with
 |nil=>intro g row h; cases h
 |cons t ts A =>
  intro g row h;unfold sU at h;rw[pN,jC] at h;split at h
  ·rename_i e;exact⟨t,bR,e,(kr h).symm⟩
  ·obtain⟨u,hu,e⟩:=A h;exact⟨u,by simp[hu],e⟩
def qVm[Sym](ts:List qT):nv (sU ts) (zB ts):=by
 intro g row h;obtain⟨t,_,_,rfl⟩:=qFx h;refine⟨λk=>match t.eM[k]? with|some n=>.int t.k n|none=>.bool false,λk v e=>?_⟩;unfold qx at e;rw[dP] at e;cases hv:t.eM[k]? with
 |none=>rw[hv] at e; cases e
 |some n =>
  rw[hv] at e;obtain rfl:=kr e;refine⟨?_,by simp only[hv]; exact .int _ _⟩;unfold zB;simp only[h,qx,dP,hv,iO]
section
variable {P:Program}
def qLi{H:Type}{enc:TypeId×Value->H}{w:World}{base:Nat}{sp:Nat->Bool}{held:Bool}{fuel:Nat}{t:TypeId}{k:IntKind}{c:Value}{y:DataW H×List MemPlace}
  (ht:P.underlying t=some (.int k)) (h:DataW.trod enc P w base sp held fuel t [c]=some y):∃ n,c = .int k n/\y=(.lit (.int k n),[]):=by
 cases fuel with
 |zero=>simp[DataW.trod] at h
 |succ fuel =>
  cases c <;> simp[DataW.trod,ht] at h
  rename_i k' n;obtain⟨⟨rfl,_⟩,rfl⟩:=h;exact⟨n,rfl,rfl⟩
def qJy{H:Type}{enc:TypeId×Value->H}{w:World}{base:Nat}{sp:Nat->Bool}{held:Bool}{fuel:Nat}{t e:TypeId}{n:Nat}{k:IntKind}{cs:List Value}{eM:List Int}{p:List MemPlace}
  (hu:P.underlying t=some (.array n e)) (he:P.underlying e=some (.int k)) (hc:P.cellsOf e=1)
  (h:DataW.trod enc P w base sp held fuel t cs=some (.agg (eM.map λv=>.lit (.int k v)),p)):∀ (i:Nat) v,eM[i]?=some v->cs[i]?=some (.int k v):=by
 cases fuel with
 |zero=>simp[DataW.trod] at h
 |succ fuel =>
  simp only[DataW.trod,hu,hc] at h;split at h
  ·simp only[mZ,fB,DataW.agg.injEq] at h;obtain⟨xs,hx,h1,_⟩:=h
   letI:Sym:=⟨λ_=>0⟩
   have U:=wc hx;intro i v hv;have A:(xs.map (·.1))[i]?=some (.lit (.int k v)):=by rw[h1,dP,hv]; rfl
   rw[dP] at A;cases M:xs[i]? with
   |none=>rw[M] at A; cases A
   |some x =>
    rw[M] at A;have aa:x.1 = .lit (.int k v):=kr A;have hlen:=U.length;have hi:i<xs.length:=(cQ.1 M).1;have hr:(List.range n)[i]?=some i:=by
     rw[wu (by simp at hlen; omega)]
    obtain⟨b,hb,hf⟩:=U.get i i hr;rw[M] at hb;obtain rfl:=kr hb;rw[BJ] at hf;cases hd:cs.drop i with
    |nil =>
     rw[hd] at hf;cases fuel <;> simp[DataW.trod,he] at hf
    |cons c rest =>
     rw[hd] at hf;obtain⟨m,rfl,rfl⟩:=qLi he (show DataW.trod enc P w base sp held fuel e [c]=some x from hf);simp only[DataW.lit.injEq,Lit.int.injEq,true_and] at aa;subst aa;have:(cs.drop i)[0]?=some (.int k m):=by rw[hd]; rfl
     simpa using this
  ·cases h
def xX(P:Program)(laid:List (String×DataW Unit))(t:qT):Prop :=
 (t.name,DataW.agg (t.eM.map λv=>.lit (.int t.k v)))∈laid/\P.globalNamed t.name=some t.g/\∃ ty e n,(P.globals[t.g]?).map (·.type)=some ty/\P.underlying ty=some (.array n e)/\P.underlying e=some (.int t.k)/\P.cellsOf e=1
def qR0{w:World}:∀ {l:List (String×DataW Unit)}{ps:List MemPlace},DataW.LaidVars P w l ps->∀ {n:String}{d:DataW Unit},(n,d)∈l->∃ g t cs fuel p,P.globalNamed n=some g/\(P.globals[g]?).map (·.type)=some t/\w.var? P n=some cs/\DataW.trod (λ_=>()) P w 0 (λ_=>true) false fuel t cs.toList=some (d,p):=by
 intro l
 induction l with
 |nil=>intro ps _ n d h; cases h
 |cons x l A =>
  intro ps h n d hm;obtain⟨m,d'⟩:=x;obtain⟨g,t,cs,fuel,p,q,h1,M,U,h4,h5,_⟩:=h
  rcases dK.1 hm with e|e
  ·obtain⟨rfl,rfl⟩:=Prod.mk.inj e;exact⟨g,t,cs,fuel,p,h1,M,U,h4⟩
  ·exact A h5 e
def qOF{laid:List (String×DataW Unit)}{w:World}(h:laidMet P laid w){ts:List qT}(U:∀ t∈ts,xX P laid t):∀ b o v,(zB ts).cell b o=some v->w.cell? ⟨b,o,none⟩=some v:=by
 intro b o v hv;obtain⟨ps,hl,_⟩:=h;unfold zB at hv;dsimp only at hv;split at hv
 ·rename_i row gY;obtain⟨t,ht,rfl,rfl⟩:=qFx gY;obtain⟨hm,hg,ty,e,n,k1,k2,k3,k4⟩:=U t ht;obtain⟨g,aa,cs,fuel,p,q1,q2,q3,q4⟩:=qR0 hl hm;obtain rfl:=kr (hg.symm.trans q1);obtain rfl:=kr (k1.symm.trans q2);split at hv
  ·rename_i k m A;unfold qx at A;rw[dP] at A;cases M:t.eM[o]? with
   |none=>rw[M] at A; cases A
   |some x =>
    rw[M] at A;simp only[iO,rJ,bL.int.injEq] at A;obtain⟨rfl,rfl⟩:=A;have:=qJy k2 k3 k4 q4 o x M;rw[<- kr hv];have hc:=World.var?_cell hg q3 o;rw[hc]
    simpa using this
  ·cases hv
 ·cases hv
variable [Sym]
end
def orS(S1 S2:bD):bD:=λf args A=>match S1 f args A with
 |some r=>some r
 |none=>S2 f args A
def qP1[Sym]{P:Program}{G:Nat->Option (List bL)}{S1 S2:bD}(h1:gN P G S1)(M:gN P G S2):gN P G (orS S1 S2):=by
 intro f args A v cZ e;unfold orS at e;split at e
 ·rename_i r U;cases e;exact h1 f args A v cZ U
 ·exact M f args A v cZ e
def jV(ts:List qT)(o:Option Nat)(g:Nat):Option (List bL):=match sU ts g with
 |some row=>some row
 |none=>match o with
  |some A=>bif Nat.beq A g then some [.sym .i64 63 (.ofNat 0) (.ofNat 1) (.ofNat 0)] else none
  |none=>none
def uu[Sym](ts:List qT)(o:Option Nat):eK where
 cell b k:=match sU ts b with
  |some _=>(zB ts).cell b k
  |none=>if o=some b/\k=0 then some (.int .i64 (Sym.num 63)) else none
 map _:=none
variable [Sym]
def qS7(ts:List qT)(o:Option Nat):nv (jV ts o) (uu ts o):=by
 intro g row h;unfold jV at h;split at h
 ·rename_i M A;cases h;obtain⟨cv,hc⟩:=qVm ts g _ A;refine⟨cv,λk v e=>?_⟩;obtain⟨h1,U⟩:=hc k v e;have e1:(uu ts o).cell g k=(zB ts).cell g k:=by unfold uu; simp only[A]
  refine⟨e1.trans h1,?_⟩;unfold qx at *;obtain⟨t,_,_,rfl⟩:=qFx A;unfold qx at e;rw[dP] at e;cases hv:t.eM[k]? with
  |none=>rw[hv] at e; cases e
  |some n =>
   rw[hv] at e;obtain rfl:=kr e;have key:∀ z,eW (zB ts) (.int t.k n) z->eW (uu ts o) (.int t.k n) z:=λz h=>by cases h; exact .int _ _
   exact key _ U
 ·rename_i A;split at h
  ·rename_i g';rw[pN,jC] at h;split at h
   ·rename_i hg;subst hg;cases h;refine⟨λ_=>.int .i64 (Sym.num 63),λk v e=>?_⟩;cases k with
    |succ k=>simp at e
    |zero =>
     simp only[vk,rJ] at e;subst e;refine⟨by unfold uu; simp[A],.sym _ _ _ _ _ _ bR (λh=>absurd h bu)⟩
   ·cases h
  ·cases h
def qWn{P:Program}{laid:List (String×DataW Unit)}{w:World}(h:laidMet P laid w){ts:List qT}(A:∀ t∈ts,xX P laid t){o:Option Nat}(ho:∀ g,o=some g->w.cell? ⟨g,0,none⟩=some (.int .i64 (Sym.num 63))):∀ b k v,(uu ts o).cell b k=some v->w.cell? ⟨b,k,none⟩=some v:=by
 intro b k v e;unfold uu at e;dsimp only at e;split at e
 ·exact qOF h A b k v e
 ·split at e
  ·rename_i hc;obtain⟨h1,rfl⟩:=hc;rw[<- kr e];exact ho b h1
  ·cases e
noncomputable def preB(a:List UInt8):List UInt8->Bool:=List.rec (motive:=λ_=>List UInt8->Bool) (λ_=>true) (λx _ A b=>List.rec (motive:=λ_=>Bool) false (λy b' _=>bif Nat.beq x.toNat y.toNat then A b' else false) b) a
def qT7:∀ (a b:List UInt8),preB a b=a.isPrefixOf b:=by
 intro a
 induction a with
 |nil=>intro b; cases b <;> rfl
 |cons x a A =>
  intro b;cases b with
  |nil=>rfl
  |cons y b =>
   show(bif Nat.beq x.toNat y.toNat then preB a b else false)=(x==y&&a.isPrefixOf b);rw[pN,A,jC];by_cases h:x=y
   ·subst h; simp
   ·have:¬ x.toNat=y.toNat:=λe=>h (jj.1 e)
    simp[h,this]
noncomputable def yD(s sub:List UInt8):Nat->Int:=List.rec (motive:=λ_=>Nat->Int) (λi=>List.rec (motive:=λ_=>Int) (.ofNat i) (λ_ _ _=>.negSucc 0) sub) (λb l A i=>bif preB sub (b::l) then .ofNat i else A (Nat.succ i)) s
def qVe(sub:List UInt8)(s:List UInt8)(i:Nat):yD s sub i=if Lib.index s sub = -1 then -1 else i+Lib.index s sub:=by
 induction s generalizing i with
 |nil=>cases sub <;> simp[yD,Lib.index]
 |cons b s M =>
  show(bif preB sub (b::s) then Int.ofNat i else yD s sub (i+1))=_;have e0:Lib.index (b::s) sub=if sub.isPrefixOf (b::s)=true then 0 else if (Lib.index s sub == -1)=true then -1 else Lib.index s sub+1:=rfl
  rw[qT7,M,e0];have hg:=Lib.index_ge s sub;cases hp:sub.isPrefixOf (b::s) with
  |true=>simp
  |false =>
   simp only[iN,gh,fC];by_cases A:Lib.index s sub = -1
   ·simp[A]
   ·have U:¬ (Lib.index s sub == -1)=true:=by simpa using A
    rw[bA A,show(if (Lib.index s sub == -1)=true then (-1:Int) else Lib.index s sub+1)=Lib.index s sub+1 from bA U,bA bn];omega
def qOw(s sub:List UInt8):Lib.index s sub=yD s sub 0:=by
 rw[qVe];split
 ·rename_i h; exact h
 ·simp
noncomputable def SI(M:FuncId):bD:=λf args A =>
 bif Nat.beq f M then (match args,A with
  |[.v (.c (.p (.str s))),.v (.c (.p (.str sub)))],[]=>bif Nat.blt (fw s) 4294967281 then some (.pv (.int .i64 (yD s sub 0)),[]) else none
  |_,_=>none) else none
def qRn{P:Program}{ts:List qT}{g:Nat}(ab:sU ts g=none){A:FuncId}(ad:∃ fn,P.funcs[A]?=some fn/\fn.body.isSome=true/\fn.name ≠ "runtime.NumGoroutine")
  (hx:∀ (s sub:ByteArray) (m:Int) (w:World),s.size<4294967281->w.cell? ⟨g,0,none⟩=some (.int .i64 m)->Calls P A #[.string s,.string sub] w λe w'=>e = .returned (.int .i64 (Lib.index s.data.toList sub.data.toList))/\w'=w):gN P (jV ts (some g)) (SI A):=by
 intro f args ag v cZ e;unfold SI at e;rw[pN,jC] at e;split at e
 ·rename_i hf;subst hf;split at e
  ·rename_i s sub;rw[pU,Hh,jC] at e;split at e
   ·rename_i hlen;cases e;refine⟨ad,λρ I w ae hG hW ha aa=>?_⟩;obtain⟨cv,hc⟩:=hG g [.sym .i64 63 (.ofNat 0) (.ofNat 1) (.ofNat 0)] (by unfold jV; rw[ab]; simp[]);obtain⟨c1,c2⟩:=hc 0 _ rfl;have c3:=hW.gQ _ _ _ c1;have c4:∃ m,cv 0 = .int .i64 m:=by
     generalize cv 0=z at c2;cases c2;exact⟨_,rfl⟩
    obtain⟨m,c4⟩:=c4;rw[c4] at c3;obtain⟨l⟩:=ae
    match l,ha with
    |[x,y],⟨M,U,_⟩ =>
     cases M with|p _ _ M=>cases M with|str _ b hb =>
     cases U with|p _ _ U=>cases U with|str _ b2 af =>
     subst hb af;have hs:b.size<4294967281:=by
      have:b.size=b.data.toList.length:=by rw[wq]; rfl
      omega
     exact Calls.mono (hx b b2 m w hs c3) λe w' ⟨e1,e2⟩=>by
      subst e2;exact⟨_,ρ,I,e1,by rw[qOw]; exact qPX .i64 _,hW,Good.refl _ _ _ _,aa⟩
   ·cases e
  ·cases e
 ·cases e
def qQE{ρ:Env}{I:eK}{w w':World}(hW:eC ρ I { bY:=[],cW:=.nil } w)(hb:Below w.heap.size w w'):eC ρ I { bY:=[],cW:=.nil } w'/\Good ρ I { bY:=[],cW:=.nil } w ρ I { bY:=[],cW:=.nil } w':=by
 have hn:∀ r,({ bY:=[],cW:=.nil }:bm).get r=none:=Sk;refine⟨⟨λr o e=>(by rw[hn] at e; cases e),λr r' o o' l l' e=>(by rw[hn] at e; cases e),λb o v e=>?_,λb arr c e=>?_,λr o l e=>(by rw[hn] at e; cases e),λr o l e=>(by rw[hn] at e; cases e),hW.fresh,hW.jf⟩,?_⟩
 ·have h1:=hW.gQ b o v e;have A:=World.block_lt_of_cell? _ _ h1;exact(hb.cell (p:=⟨b,o,none⟩) A).trans h1
 ·have h1:=hW.sd b arr c e;have A:b<w.heap.size:=by
   rcases vq b w.heap.size with h|h
   ·exact h
   ·rw[Array.getElem?_eq_none h] at h1; cases h1
  exact(hb.block b A).trans h1
 ·exact⟨Env.le_refl _,eK.le_refl _,⟨hb.os,hb.tape,hb.output,hb.size,λb h _=>hb.block b h⟩,λ_ h=>.inl h,λ_ _ _ h=>.inl h,λ_ _ h=>.inl h⟩
end Go.AI
namespace Go.AI
open Go.RowKit
noncomputable def ud(r:List bL):Option (List UInt8):=match r with|[.str s]=>some s|_=>none
noncomputable def mQ(rows:List (List bL)):Option (List (List UInt8)):=List.rec (motive:=λ_=>Option (List (List UInt8))) (some []) (λr _ A=>dO (ud r) λs=>dO A λt=>some (s::t)) rows
noncomputable def Kc(xs:List (List UInt8))(sep:List UInt8):Option (bt×List bG) :=
 (λt=>bif Nat.ble (fw t) 140737488355328&&Nat.ble (fw xs) 140737488355328 then some (.pv (.str t),[]) else none) (Lib.join xs sep)
noncomputable def DU(v:bL)(sep:List UInt8):Option (bt×List bG):=match v with
 |.bq=>some (.pv (.str []),[])
 |.slice sz _ rows=>bif Nat.beq sz 1 then dO (mQ rows) λxs=>Kc xs sep else none
 |_=>none
noncomputable def SJ(M:FuncId):bD:=λf args A =>
 bif Nat.beq f M then (match args,A with
  |[.v (.c (.p v)),.v (.c (.p (.str sep)))],[]=>DU v sep
  |_,_=>none) else none
def qLp:∀ {rows:List (List bL)}{xs:List (List UInt8)},mQ rows=some xs->xs.length=rows.length/\∀ (i:Nat) s,xs[i]?=some s->rows[i]?=some [.str s]:=by
 intro rows
 induction rows with
 |nil =>
  intro xs h;obtain rfl:=kr h;exact⟨rfl,λi s e=>by simp at e⟩
 |cons r rows M =>
  intro xs h;have h':(dO (ud r) λs=>dO (mQ rows) λt=>some (s::t))=some xs:=h;cases A:ud r with
  |none=>rw[A] at h'; cases h'
  |some s =>
   rw[A] at h';cases ht:mQ rows with
   |none=>rw[ht] at h'; cases h'
   |some t =>
    rw[ht] at h';obtain rfl:=kr h';obtain⟨h1,U⟩:=M ht;have gY:r=[.str s]:=by
     unfold ud at A;split at A
     ·obtain rfl:=kr A; rfl
     ·cases A
    subst gY;refine⟨by simp[h1],λi u e=>?_⟩;cases i with
    |zero=>simp at e; subst e; rfl
    |succ i=>simpa using U i u (by simpa using e)
def qTR{b:ByteArray}{s:List UInt8}(h:b.data.toList=s):b=⟨s.toArray⟩:=by
 obtain⟨⟨l⟩⟩:=b;have:l=s:=h;rw[this]
variable [Sym]
def qSa{P:Program}{G:Nat->Option (List bL)}{U:FuncId}(ah:∃ fn,P.funcs[U]?=some fn/\fn.body.isSome=true/\fn.name ≠ "runtime.NumGoroutine")
  (ae:∀ (a:Option Addr) (c:Nat) (sep:ByteArray) (w:World),Calls P U #[.slice a 0 c,.string sep] w λe w'=>e = .returned (.string ⟨#[]⟩)/\w'=w)
  (hx:∀ (bk o c:Nat) (xs:List ByteArray) (sep:ByteArray) (w:World),(∀ (j:Nat) x,xs[j]?=some x->w.cell? ⟨bk,o+j,none⟩=some (.string x))->bk<w.heap.size->xs.length<=140737488355328->xs.length<=c->(Lib.join (xs.map (·.data.toList)) sep.data.toList).length<=140737488355328 ->
   Calls P U #[.slice (some ⟨bk,o,none⟩) xs.length c,.string sep] w λe w'=>e = .returned (.string ⟨(Lib.join (xs.map (·.data.toList)) sep.data.toList).toArray⟩)/\Below w.heap.size w w'):gN P G (SJ U):=by
 intro f args ao v cZ e;unfold SJ at e;rw[pN,jC] at e;split at e
 ·rename_i hf;subst hf;split at e
  ·rename_i sl sep;refine⟨ah,λρ I w ai hG hW ha A=>?_⟩;obtain⟨l⟩:=ai
   match l,ha with
   |[x,y],⟨aa,af,_⟩ =>
    cases aa with|p _ _ aa =>
    cases af with|p _ _ af=>cases af with|str _ b2 aj =>
    subst aj;unfold DU at e;split at e
    ·cases e;cases aa;exact Calls.mono (ae none 0 b2 w) λe w' ⟨e1,e2⟩=>by
      subst e2;exact⟨_,ρ,I,e1,cD.p _ _ (.str [] _ rfl),hW,Good.refl _ _ _ _,A⟩
    ·rename_i sz tight rows;rw[pN,jC] at e;split at e
     ·rename_i kJ;subst kJ;cases hr:mQ rows with
      |none=>rw[hr] at e; cases e
      |some xs =>
       rw[hr] at e;have e':(bif Nat.ble (fw (Lib.join xs b2.data.toList)) 140737488355328&&Nat.ble (fw xs) 140737488355328 then some (bt.pv (.str (Lib.join xs b2.data.toList)),([]:List bG)) else none)=some (v,cZ):=e;rw[pU,pU,Oo,Oo,<- vo,jC] at e';split at e'
       ·rename_i hb;cases e';obtain⟨r1,r2⟩:=qLp hr;cases aa with|emp _ _ ad cap ht=>(have:xs=[]:=ku.1 r1; subst this; refine Calls.mono (ae (some ad) cap b2 w) λe w' ⟨e1,e2⟩=>?_; subst e2; exact⟨_,ρ,I,e1,cD.p _ _ (.str _ _ (by simp[Lib.join_nil])),hW,Good.refl _ _ _ _,A⟩)|slice _ _ _ b o cap cv ht hc hs hI hv =>
        cases ag:rows with
        |nil =>
         rw[ag] at r1;have:xs=[]:=ku.1 r1;subst this;refine Calls.mono (ae (some ⟨b,o,none⟩) cap b2 w) λe w' ⟨e1,e2⟩=>?_
         subst e2;exact⟨_,ρ,I,e1,cD.p _ _ (.str _ _ (by simp[Lib.join_nil])),hW,Good.refl _ _ _ _,A⟩
        |cons r0 rest =>
         have M:∀ (j:Nat) z,(xs.map λs=>(⟨s.toArray⟩:ByteArray))[j]?=some z->w.cell? ⟨b,o+j,none⟩=some (.string z):=by
          intro j z hz;rw[dP] at hz;cases hj:xs[j]? with
          |none=>rw[hj] at hz; cases hz
          |some s =>
           rw[hj] at hz;obtain rfl:=kr hz;have h1:=hI j _ 0 (.str s) (r2 j s hj) rfl;have h2:=hv j _ 0 (.str s) (r2 j s hj) rfl;rw[BJ,gH] at h1;have h3:=hW.gQ _ _ _ h1;generalize cv j 0=q at h2 h3;cases h2 with|str _ bb ak =>
           rw[h3,qTR ak]
         have ab:(xs.map λs=>(⟨s.toArray⟩:ByteArray)).map (λb=>b.data.toList)=xs:=by
          rw[fU];exact List.map_id'' (λ_=>rfl) xs
         have al:b<w.heap.size:=by
          have:0<xs.length:=by rw[r1,ag]; simp
          obtain⟨s,an⟩:∃ s,xs[0]?=some s:=⟨xs[0],fQ this⟩;exact World.block_lt_of_cell? _ _ (M 0 _ (by rw[dP,an]; rfl))
         have hl:(xs.map λs=>(⟨s.toArray⟩:ByteArray)).length=rows.length:=by rw[dj,r1]
         have:=hx b o cap (xs.map λs=>(⟨s.toArray⟩:ByteArray)) b2 w M al (by rw[dj]; exact hb.2) (by rw[hl]; exact hc) (by rw[ab]; exact hb.1);rw[hl,ab,ag] at this;refine Calls.mono this λe w' ⟨e1,e2⟩=>?_
         obtain⟨b1,b3⟩:=qQE hW e2;exact⟨_,ρ,I,e1,cD.p _ _ (.str _ _ rfl),b1,b3,A⟩
       ·cases e'
     ·cases e
    ·cases e
  ·cases e
 ·cases e
end Go.AI
namespace Go.AI
open Go.RowKit
variable [Sym]
section
variable {P:Program} {G:Nat->Option (List bL)} {O:bD} {nt:Nat} {heap:Nat->Bool}
end
end Go.AI
namespace Go.AI
open Go.RowKit
section
variable [Sym]
section
variable {P:Program} {G:Nat->Option (List bL)} {O:bD} {nt:Nat} {heap:Nat->Bool}
omit [Sym] in
end
end
section
variable [Sym] {P:Program} {G:Nat->Option (List bL)} {O:bD} {nt:Nat} {heap:Nat->Bool}
end
noncomputable section
variable {β:Type}
abbrev tK{α:Type}(c:Bool)(a b:α):α:=Bool.rec (motive:=λ_=>α) b a c
def qJA{α:Type}(c:Bool)(a b:α):tK c a b=cond c a b:=by cases c <;> rfl
abbrev oA(d:Nat)(op:jE):dX:=⟨some d,op,none⟩
abbrev kI(n:Int):bt:=.v (.c (.p (.int .i64 n)))
abbrev kB(b:Bool):bt:=.v (.c (.p (.bool b)))
abbrev kS(s:List UInt8):bt:=.v (.c (.p (.str s)))
def bQ(O:bD)(op:jE)(h:bm)(d:Nat)(k:bt->bm->Option β):Option β:=Ck O op .nil h d k
def br(O:bD)(op:jE)(h:bm)(d:Nat)(k:bt->bm->Touch->Option β):Option β :=
 dO (mB op .nil) λp=>dO (p.exec O d h) λx=>k x.1 x.2.1 x.2.2
def bw(op:BinOp)(kd:Nat)(a b:bt)(h:bm)(k:bt->bm->Option β):Option β:=Uv op kd a b λv=>k v h
def gI(kd:IntKind)(a:bt)(h:bm)(k:bt->bm->Option β):Option β:=iS a λa=>D3 a λ_ n=>k (.pv (.int kd (oO kd n))) h
def bz(agg:Bool)(n:Nat)(a:bt)(h:bm)(k:bt->bm->Option β):Option β:=iS a λa =>
 match a with
 |.ptr r off=>dO (qG h r) λo=>cellsOf o λcs _=>mT agg n cs off λv=>k v h
 |.p (.dc row off)=>mT agg n (bp row) off λv=>k v h
 |_=>none
def bK(n:Nat)(a v:bt)(h:bm)(k:bt->bm->Option β):Option β:=iS a λa=>bI v λx =>
 match a with
 |.ptr r off=>dO (qG h r) λo=>cellsOf o λcs imm=>bif Nat.ble imm off&&(Nat.beq (fw x.cells) n&&Nat.ble (Nat.add off n) (fw cs)) then k .undef (h.put r (.cells (eY cs off x.cells) imm)) else none
 |_=>none
def bC(off:Nat)(a:bt)(h:bm)(k:bt->bm->Option β):Option β:=iS a λa =>
 match a with
 |.ptr r o=>k (.v (.c (.ptr r (Nat.add o off)))) h
 |.p (.dc row o)=>k (.pv (.dc row (Nat.add o off))) h
 |_=>none
def bU(sz:Nat)(a i:bt)(h:bm)(k:bt->bm->Option β):Option β:=iS a λa=>iS i λc=>D3 c λ_ z=>DN z λn =>
 match a with
 |.p (.slice A _ rows)=>bif Nat.beq A sz then dO (lC rows n) λrow=>k (.pv (.dc row 0)) h else none
 |.gm A rows _=>bif Nat.beq A sz then dO (lC rows n) λrow=>k (.pv (.dc row 0)) h else none
 |.cf r off len _ A=>bif Nat.beq A sz&&Nat.blt n len then k (.v (.c (.ptr r (Nat.add off (Nat.mul n sz))))) h else none
 |_=>none
def eX(a i:bt)(h:bm)(k:bt->bm->Option β):Option β:=iS a λa=>RA a λs=>iS i λc=>D3 c λ_ z=>DN z λn=>dO (lC s n) λb=>k (.pv (.int .u8 (.ofNat b.toNat))) h
def fV(a:bt)(i:Nat)(h:bm)(k:bt->bm->Option β):Option β:=bt.rec (motive:=λ_=>Option β) (λ_=>none) (λvs=>dO (lC vs i) λv=>k (.v v) h) a
def bE(O:bD)(g:bt)(as:List bt)(h:bm)(d:Nat)(k:bt->bm->Option β):Option β:=iS g λg =>
 match g with
 |.func g dD=>mG O g (List.rec (motive:=λ_=>List bt) as (λ_ _ _=>as++dD.map λr=>.v (.c (.ptr r 0))) dD) d h k
 |_=>none
def cP(O:bD)(kd:Nat)(a:bt)(h:bm)(d:Nat)(k:bt->bm->Option β):Option β:=Ck O (.len kd (.k a)) .nil h d k
def cY(c:bt)(a b:Option β):Option β:=iS c λc=>D2 c λt=>Bool.rec (motive:=λ_=>Option β) b a t
def bo(v:bt)(want:Bool)(A:(bt->bm->Option β)->Option β)(h:bm)(k:bt->bm->Option β):Option β :=
 bt.rec (motive:=λ_=>Option β) (λc=>cN.rec (motive:=λ_=>Option β) (λc=>D2 c λb=>bif wX b want then A k else k .undef h) (λ_=>none) c)
  (λvs=>List.rec (motive:=λ_=>Option β) (k .undef h) (λ_ _ _=>none) vs) v
def wD(v:bt)(want:Bool)(A:(bt->bm->Touch->Option β)->Option β)(h:bm)(k:bt->bm->Touch->Option β):Option β :=
 bt.rec (motive:=λ_=>Option β) (λc=>cN.rec (motive:=λ_=>Option β) (λc=>D2 c λb=>bif wX b want then A k else k .undef h cj) (λ_=>none) c)
  (λvs=>List.rec (motive:=λ_=>Option β) (k .undef h cj) (λ_ _ _=>none) vs) v
abbrev Hu(tm:TM bt)(o:Option X)(k:Option X->Option β):Option β:=Option.rec (motive:=λ_=>Option β) (k none) (λx=>iP tm x λv=>k (some (.k v))) o
abbrev Wa(tm:TM bt)(xs:List X)(k:List X->Option β):Option β:=List.rec (motive:=λ_=>(List X->Option β)->Option β) (λk=>k []) (λx _ A k=>iP tm x λv=>A λvs=>k (.k v::vs)) xs k
abbrev YB(tm:TM bt)(xs:List (Nat×X))(k:List (Nat×X)->Option β):Option β:=List.rec (motive:=λ_=>(List (Nat×X)->Option β)->Option β) (λk=>k []) (λx _ A k=>iP tm x.2 λv=>A λvs=>k ((x.1,.k v)::vs)) xs k
abbrev YA(tm:TM bt)(xs:List (Nat×Nat×X))(k:List (Nat×Nat×X)->Option β):Option β:=List.rec (motive:=λ_=>(List (Nat×Nat×X)->Option β)->Option β) (λk=>k []) (λx _ A k=>iP tm x.2.2 λv=>A λvs=>k ((x.1,x.2.1,.k v)::vs)) xs k
abbrev gW(tm:TM bt)(op:jE)(k:jE->Option β):Option β:=jE.rec (motive:=λ_=>Option β)
 (λx=>iP tm x λx=>k (.mv (.k x))) (λc a b=>iP tm c λc=>iP tm a λa=>iP tm b λb=>k (.pick (.k c) (.k a) (.k b))) (λz p=>k (.alloc z p)) (λx p=>iP tm x λx=>k (.box (.k x) p))
 (λz ps=>YA tm ps λps=>k (.build z ps)) (λsz n z ps hp=>YB tm ps λps=>k (.cm sz n z ps hp))
 (λa n x=>iP tm x λx=>k (.load a n (.k x))) (λn a v=>iP tm a λa=>iP tm v λv=>k (.store n (.k a) (.k v))) (λx=>iP tm x λx=>k (.cO (.k x)))
 (λop kd x y=>iP tm x λx=>iP tm y λy=>k (.bin op kd (.k x) (.k y))) (λop x=>iP tm x λx=>k (.un op (.k x))) (λkd x=>iP tm x λx=>k (.toInt kd (.k x)))
 (λx=>iP tm x λx=>k (.toStr (.k x)))
 (λf cs=>Wa tm cs λcs=>k (.qD f cs)) (λsz by' z l c pu=>iP tm l λl=>iP tm c λc=>k (.mU sz by' z (.k l) (.k c) pu))
 (λsz s x lo hi mx=>iP tm x λx=>Hu tm lo λlo=>Hu tm hi λhi=>Hu tm mx λmx=>k (.slice sz s (.k x) lo hi mx))

 (λo x=>iP tm x λx=>k (.dG o (.k x))) (λsz x i=>iP tm x λx=>iP tm i λi=>k (.il sz (.k x) (.k i)))
 (λn sz x i=>iP tm x λx=>iP tm i λi=>k (.lE n sz (.k x) (.k i))) (λx i=>iP tm x λx=>iP tm i λi=>k (.index (.k x) (.k i)))

 (λx=>iP tm x λx=>k (.ng (.k x))) (λx=>iP tm x λx=>k (.mD (.k x))) (λx i=>iP tm x λx=>k (.extract (.k x) i))
 (λf as=>iP tm f λf=>Wa tm as λas=>k (.call (.k f) as)) (λkd x=>iP tm x λx=>k (.len kd (.k x)))
 (λsz by' hp a b=>iP tm a λa=>iP tm b λb=>k (.append sz by' hp (.k a) (.k b)))
 none op
abbrev vB(O:bD)(op:jE)(tm:TM bt)(h:bm)(d:Nat)(k:bt->bm->Option β):Option β:=jE.rec (motive:=λ_=>Option β)
 (λx=>iP tm x λv=>k v h) (λc a b=>gW tm (.pick c a b) λo=>bQ O o h d k) (λz p=>gW tm (.alloc z p) λo=>bQ O o h d k) (λx p=>gW tm (.box x p) λo=>bQ O o h d k)
 (λz ps=>gW tm (.build z ps) λo=>bQ O o h d k) (λsz n z ps hp=>gW tm (.cm sz n z ps hp) λo=>bQ O o h d k)
 (λa n x=>iP tm x λx=>bz a n x h k) (λn a v=>iP tm a λa=>iP tm v λv=>bK n a v h k) (λx=>gW tm (.cO x) λo=>bQ O o h d k)
 (λop kd x y=>iP tm x λx=>iP tm y λy=>bw op kd x y h k) (λop x=>gW tm (.un op x) λo=>bQ O o h d k) (λkd x=>iP tm x λx=>gI kd x h k)
 (λx=>gW tm (.toStr x) λo=>bQ O o h d k)
 (λf cs=>gW tm (.qD f cs) λo=>bQ O o h d k) (λsz by' z l c pu=>gW tm (.mU sz by' z l c pu) λo=>bQ O o h d k)
 (λsz s x lo hi mx=>gW tm (.slice sz s x lo hi mx) λo=>bQ O o h d k)
 (λo x=>iP tm x λx=>bC o x h k) (λsz x i=>iP tm x λx=>iP tm i λi=>bU sz x i h k)
 (λn sz x i=>gW tm (.lE n sz x i) λo=>bQ O o h d k) (λx i=>iP tm x λx=>iP tm i λi=>eX x i h k)

 (λx=>gW tm (.ng x) λo=>bQ O o h d k) (λx=>gW tm (.mD x) λo=>bQ O o h d k) (λx i=>iP tm x λx=>fV x i h k)
 (λf as=>iP tm f λf=>wk tm as λas=>bE O f as h d k) (λkd x=>iP tm x λx=>cP O kd x h d k)
 (λsz by' hp a b=>gW tm (.append sz by' hp a b) λo=>bQ O o h d k)
 none op
abbrev stepT(O:bD)(o:dX)(st:St)(k:St->Option β):Option β :=
 dX.rec (motive:=λ_=>Option β) (λdst op guard=>Option.rec (motive:=λ_=>Option β) (vB O op st.tm st.h (tH dst) λv h=>k ⟨qv st.tm dst v,h⟩)
  (λg=>dO (st.tm.get g.1) λv=>bo v g.2 (λA=>vB O op st.tm st.h (tH dst) A) st.h λv h=>k ⟨qv st.tm dst v,h⟩) guard) o
abbrev wL(O:bD)(ops:List dX):St->(St->Option β)->Option β :=
 List.rec (motive:=λ_=>St->(St->Option β)->Option β) (λst k=>k st) (λo _ M st k=>stepT O o st λA=>M A k) ops
abbrev qu(O:bD)(o:dX)(st:St)(k:St->Touch->Option β):Option β :=
 dX.rec (motive:=λ_=>Option β) (λdst op guard=>Option.rec (motive:=λ_=>Option β) (gW st.tm op λo=>br O o st.h (tH dst) λv h t=>k ⟨qv st.tm dst v,h⟩ t)
  (λg=>dO (st.tm.get g.1) λv=>wD v g.2 (λA=>gW st.tm op λo=>br O o st.h (tH dst) A) st.h λv h t=>k ⟨qv st.tm dst v,h⟩ t) guard) o
abbrev rj(O:bD)(ops:List dX):St->(St->List Touch->Option β)->Option β :=
 List.rec (motive:=λ_=>St->(St->List Touch->Option β)->Option β) (λst k=>k st []) (λo _ U st k=>qu O o st λM t=>U M λA ts=>k A (t::ts)) ops
abbrev DA(O:bD)(ops:List dX)(gP:List (Nat×Nat))(st:St)(k:St->Option β):Option β :=
 List.rec (motive:=λ_=>Option β) (wL O ops st k) (λ_ _ _=>rj O ops st λA ts=>bif da ts gP then k A else none) gP
inductive MC where
 |skip
 |yd (ops:List dX) (gP:List (Nat×Nat))
 |seq (a b:MC)
 |cond (c:X) (a b:MC)
 |block (id:Nat) (b:MC)
 |loop (l:Nat) (live:List Nat) (b:MC)
 |mark (l:Nat) (live:List Nat) (b:MC)
 |exit (id:Nat)
 |scope (b:MC)
 |ret
 |bad
def MC.erase:MC->eo
 |.skip=>.skip
 |.yd ops ps=>.yd ops ps
 |.seq a b=>.seq a.erase b.erase
 |.cond c a b=>.cond c a.erase b.erase
 |.block id b=>.block id b.erase
 |.loop _ _ b=>.loop b.erase
 |.mark _ _ b=>b.erase
 |.exit id=>.exit id
 |.scope b=>.scope b.erase
 |.ret=>.ret
 |.bad=>.bad
inductive Fr where
 |seq (b:MC)
 |fg (id:Nat)
 |lp (l:Nat) (live:List Nat)
 |CE
abbrev dA:=Option (bt×List bG)
abbrev Jump:=Nat->List bt->bm->dA
abbrev getAll(tm:TM bt)(ls:List Nat)(k:List bt->dA):dA:=List.rec (motive:=λ_=>(List bt->dA)->dA) (λk=>k []) (λl _ A k=>dO (tm.get l) λv=>A λvs=>k (v::vs)) ls k
abbrev jump(R:Jump)(l:Nat)(live:List Nat)(st:St):dA:=getAll st.tm live λvs=>R l vs st.h
abbrev vu:=lV->St->dA
abbrev walk(O:bD)(R:Jump)(c:MC):St->vu->dA:=MC.rec (motive:=λ_=>St->vu->dA)
 (λst k=>k .norm st)
 (λops gP st k=>DA O ops gP st λA=>k .norm A)
 (λ_ _ M U st k=>M st λex A=>lV.rec (motive:=λ_=>dA) (U A k) (λid=>k (.exit id) A) (k .ret A) ex)
 (λc _ _ M U st k=>iP st.tm c λv=>cY v (M st k) (U st k))
 (λid _ r st k=>r st λex A=>lV.rec (motive:=λ_=>dA) (k .norm A) (λj=>tK (Nat.beq j id) (k .norm A) (k (.exit j) A)) (k .ret A) ex)
 (λl live _ _ st _=>jump R l live st)
 (λl live _ _ st _=>jump R l live st)
 (λid st k=>k (.exit id) st)
 (λ_ r st k=>r st k)
 (λst k=>k .ret st)
 (λ_ _=>none) c
abbrev pop(O:bD)(R:Jump)(fin:vu)(M:List Fr):vu:=List.rec (motive:=λ_=>vu) fin (λf _ A ex st=>Fr.rec (motive:=λ_=>dA)
 (λb=>lV.rec (motive:=λ_=>dA) (walk O R b st A) (λid=>A (.exit id) st) (A .ret st) ex)
 (λid=>lV.rec (motive:=λ_=>dA) (A .norm st) (λj=>tK (Nat.beq j id) (A .norm st) (A (.exit j) st)) (A .ret st) ex)
 (λl live=>lV.rec (motive:=λ_=>dA) (jump R l live st) (λid=>A (.exit id) st) (A .ret st) ex)
 (A ex st) f) M
abbrev WU:=Nat×List Nat×List Fr
abbrev pb(c:MC):List Fr->List WU:=MC.rec (motive:=λ_=>List Fr->List WU)
 (λ_=>[]) (λ_ _ _=>[]) (λ_ b la lb A=>la (.seq b::A)++lb A) (λ_ _ _ la lb A=>la A++lb A) (λid _ lb A=>lb (.fg id::A))
 (λl live b lb A=>(l,live,.seq b :: .lp l live::A)::lb (.lp l live::A)) (λl live b lb A=>(l,live,.seq b::A)::lb A)
 (λ_ _=>[]) (λ_ lb A=>lb (.CE::A)) (λ_=>[]) (λ_=>[]) c
abbrev nU(l:Nat)(es:List WU):Option (List Nat×List Fr):=List.rec (motive:=λ_=>Option (List Nat×List Fr)) none (λe _ A=>bif Nat.beq l e.1 then some e.2 else A) es
structure cg where
 np:Nat
 res:List pK
 gU:Bool
 body:MC
abbrev cg.pb(F:cg):List WU:=(0,List.range F.np,[.seq F.body])::AI.pb F.body []
def cg.erase(F:cg):nd:={ np:=F.np,res:=F.res,gU:=F.gU,body:=F.body.erase }
abbrev rV(ls:List Nat):List bt->TM bt->TM bt:=List.rec (motive:=λ_=>List bt->TM bt->TM bt) (λ_ tm=>tm) (λl _ A vs tm=>List.rec (motive:=λ_=>TM bt) tm (λv vs _=>A vs (tm.set v l)) vs) ls
def cJ(agg:Bool)(size:Nat)(v:bt)(h:bm)(k:cN->dA):dA:=iS v λc=>match c with
 |.ptr r off=>dO (qG h r) λo=>cellsOf o λcs _=>mT agg size cs off λv=>bI v k
 |_=>none
abbrev N9(st:St)(r:pK)(k:cN->dA):dA :=
 pK.rec (motive:=λ_=>dA) (λn=>dO (st.tm.get n) λv=>bI v k) (λn agg size=>dO (st.tm.get n) λv=>cJ agg size v st.h k) r
abbrev pL(st:St)(rs:List pK)(k:List cN->dA):dA:=List.rec (motive:=λ_=>(List cN->dA)->dA) (λk=>k []) (λr _ A k=>N9 st r λv=>A λvs=>k (v::vs)) rs k
def qH(gU:Bool)(vs:List cN)(h:bm)(k:Nat):dA :=
 let v:bt:=oneOf vs
 match (if gU then iF h v else some (v,[])) with
 |none=>none
 |some (U,fr) =>
  let h:=settle h fr
  let A:=reach h cw ((bY k).flatMap (λr=>match h.get r with|some o=>o.refs|none=>[])++U.refs) (bY k)
  let M:=A.map λr=>match h.get r with|some o=>o.eB (iU A)|none=>.dead
  some (U.eB (iU A),M)
def bS(gU:Bool)(q:Nat)(vs:List cN)(h:bm):dA :=
 Nat.rec (motive:=λ_=>dA) (bif iG ld vs then some (oneOf vs,[]) else qH gU vs h 0) (λm _=>qH gU vs h (m+1)) q
abbrev Co(gU:Bool)(res:List pK)(q:Nat):vu:=λex st=>lV.rec (motive:=λ_=>dA) (pL st res λvs=>bS gU q vs st.h) (λ_=>none) (pL st res λvs=>bS gU q vs st.h) ex
abbrev bM(F:cg)(O:bD)(R:Jump)(q l:Nat)(vs:List bt)(h:bm):dA :=
 dO (nU l F.pb) λe=>tK (Nat.beq (fw e.1) (fw vs)) (pop O R (Co F.gU F.res q) e.2 .norm ⟨rV e.1 vs .nil,h⟩) none
abbrev n9:=FuncId->Nat->Jump
def r8(S:bD)(W:n9):bD:=λf args A=>Option.rec (motive:=λ_=>dA) (W f (fw A) 0 args { bY:=A,cW:=.nil }) some (S f args A)
def ue(T:FuncId->Option cg)(S:bD)(W:n9):n9:=λf q l vs h=>dO (T f) λF=>bM F (r8 S W) (W f q) q l vs h
def oh(T:FuncId->Option cg)(S:bD):Nat->n9
 |0=>λ_ _ _ _ _=>none
 |n+1=>ue T S (oh T S n)
end
variable {β:Type}
def Va{α A M:Type}{f:α->Option M}{g:A->Option M}:∀ {xs:List α}{U:List A},cS (λx y=>f x=g y) xs U->xs.mapM f=U.mapM g
 |[],[],_=>rfl
 |_::_,_::_,h=>by rw[ek,ek,h.1,Va h.2]
def ZA(tm:TM bt):∀ (xs:List X) (k:List X->Option β),Wa tm xs k=(xs.mapM λx=>X.ev tm x).bind λvs=>k (vs.map .k):=by
 intro xs
 induction xs with
 |nil=>intro k; rfl
 |cons x xs A =>
  intro k;show iP tm x (λv=>Wa tm xs λvs=>k (.k v::vs))=_;rw[pM,ek];cases x.ev tm with
  |none=>rfl
  |some v=>show Wa tm xs (λvs=>k (.k v::vs))=_; rw[A]; cases xs.mapM λx=>X.ev tm x <;> rfl
def qPA(tm:TM bt):∀ (xs:List (Nat×X)) (k:List (Nat×X)->Option β),YB tm xs k=(xs.mapM λx=>(X.ev tm x.2).map λv=>(x.1,X.k v)).bind k:=by
 intro xs
 induction xs with
 |nil=>intro k; rfl
 |cons x xs A =>
  intro k;show iP tm x.2 (λv=>YB tm xs λvs=>k ((x.1,.k v)::vs))=_;rw[pM,ek];cases x.2.ev tm with
  |none=>rfl
  |some v=>show YB tm xs (λvs=>k ((x.1,.k v)::vs))=_; rw[A]; cases xs.mapM λx=>(X.ev tm x.2).map λv=>(x.1,X.k v) <;> rfl
def qRI(tm:TM bt):∀ (xs:List (Nat×Nat×X)) (k:List (Nat×Nat×X)->Option β),YA tm xs k=(xs.mapM λx=>(X.ev tm x.2.2).map λv=>(x.1,x.2.1,X.k v)).bind k:=by
 intro xs
 induction xs with
 |nil=>intro k; rfl
 |cons x xs A =>
  intro k;show iP tm x.2.2 (λv=>YA tm xs λvs=>k ((x.1,x.2.1,.k v)::vs))=_;rw[pM,ek];cases x.2.2.ev tm with
  |none=>rfl
  |some v=>show YA tm xs (λvs=>k ((x.1,x.2.1,.k v)::vs))=_; rw[A]; cases xs.mapM λx=>(X.ev tm x.2.2).map λv=>(x.1,x.2.1,X.k v) <;> rfl
def qMz(tm:TM bt)(o:Option X)(k:Option X->Option β):Hu tm o k=(match o with|none=>some none|some x=>(x.ev tm).map λv=>some (X.k v)).bind k:=by
 cases o with
 |none=>rfl
 |some x=>show iP tm x _=((x.ev tm).map λv=>some (X.k v)).bind k; rw[pM]; cases x.ev tm <;> rfl
def Xo(tm:TM bt)(op:jE)(k:jE->Option β):gW tm op k=(gW tm op some).bind k:=by
 cases op <;> simp only[gW,pM,ZA,qPA,qRI,qMz,lO,eG,Option.bind_none]
def qLW(tm A:TM bt):∀ {xs:List X}{vs:List bt},xs.mapM (λx=>X.ev tm x)=some vs->cS (λx y=>X.ev tm x=X.ev A y) xs (vs.map X.k):=by
 intro xs
 induction xs with
 |nil=>intro vs h; simp at h; subst h; trivial
 |cons x xs M =>
  intro vs h;simp only[ek,rL,rK,rM,rJ] at h;obtain⟨v,h1,U,h2,rfl⟩:=h;exact⟨h1,M h2⟩
def qTz(tm M:TM bt):∀ {xs A:List (Nat×X)},(xs.mapM λx=>(X.ev tm x.2).map λv=>(x.1,X.k v))=some A->cS (λx y=>x.1=y.1/\X.ev tm x.2=X.ev M y.2) xs A:=by
 intro xs
 induction xs with
 |nil=>intro A h; simp at h; subst h; trivial
 |cons x xs U =>
  intro A h;simp only[ek,rL,rK,rM,rJ,mZ] at h;obtain⟨_,⟨v,h1,rfl⟩,aa,h2,rfl⟩:=h;exact⟨⟨rfl,h1⟩,U h2⟩
def qT0(tm M:TM bt):∀ {xs A:List (Nat×Nat×X)},(xs.mapM λx=>(X.ev tm x.2.2).map λv=>(x.1,x.2.1,X.k v))=some A->cS (λx y=>x.1=y.1/\x.2.1=y.2.1/\X.ev tm x.2.2=X.ev M y.2.2) xs A:=by
 intro xs
 induction xs with
 |nil=>intro A h; simp at h; subst h; trivial
 |cons x xs U =>
  intro A h;simp only[ek,rL,rK,rM,rJ,mZ] at h;obtain⟨_,⟨v,h1,rfl⟩,aa,h2,rfl⟩:=h;exact⟨⟨rfl,rfl,h1⟩,U h2⟩
def qFU(tm A:TM bt){o p:Option X}(h:(match o with|none=>some none|some x=>(x.ev tm).map λv=>some (X.k v))=some p):qC tm o=qC A p:=by
 cases o with
 |none=>simp at h; subst h; rfl
 |some x =>
  simp only[mZ] at h;obtain⟨v,h1,rfl⟩:=h;simp only[qC,h1]; rfl
def qLA{tm:TM bt}{op M:jE}(h:gW tm op some=some M):cH tm op=cH .nil M:=by
 cases op <;> simp only[gW,pM,ZA,qPA,qRI,qMz,rK,rJ] at h
 case mv=>obtain⟨v,h1,rfl⟩:=h; simp only[cH,h1]; rfl
 case pick=>obtain⟨c,h1,a,A,b,h3,rfl⟩:=h; simp only[cH,h1,A,h3]; rfl
 case alloc=>subst h; rfl
 case box=>obtain⟨v,h1,rfl⟩:=h; simp only[cH,h1]; rfl
 case build z ps =>
  obtain⟨ys,h1,rfl⟩:=h;unfold cH;dsimp only;refine dh (λo=>Option.bind o λps=>(iu z ps).bind λcs=>some (cA.pure (.v (.agg cs)))) (Va (cS.mono (λx y U=>?_) (qT0 tm .nil h1)));obtain⟨a,b,c⟩:=U;rw[a,b,c]
 case cm sz n z ps hp =>
  obtain⟨ys,h1,rfl⟩:=h;unfold cH;dsimp only
  refine dh (λo=>Option.bind o λps=>(iu (rep n z) ps).bind λcs=>match (if hp then none else chunk sz n cs) with
   |some rows=>some (cA.pure (.v (.c (.p (.slice sz true rows)))))
   |none=>some (cA.Bj (.cells cs 0) hp λr=>.v (.c (.cf r 0 n (some n) sz)))) (Va (cS.mono (λx y U=>?_) (qTz tm .nil h1)))
  obtain⟨a,c⟩:=U;rw[a,c]
 case load=>obtain⟨v,h1,rfl⟩:=h; simp only[cH,h1]; rfl
 case store=>obtain⟨v,h1,u,A,rfl⟩:=h; simp only[cH,h1,A]; rfl
 case cO=>obtain⟨v,h1,rfl⟩:=h; simp only[cH,h1]; rfl
 case bin=>obtain⟨v,h1,u,A,rfl⟩:=h; simp only[cH,h1,A]; rfl
 case un=>obtain⟨v,h1,rfl⟩:=h; simp only[cH,h1]; rfl
 case toInt=>obtain⟨v,h1,rfl⟩:=h; simp only[cH,h1]; rfl
 case toStr=>obtain⟨v,h1,rfl⟩:=h; simp only[cH,h1]; rfl
 case qD f cs =>
  obtain⟨vs,h1,rfl⟩:=h;unfold cH;dsimp only;refine dh (λo=>Option.bind o λrs=>some (cA.pure (.v (.c (.func f rs))))) (Va (cS.mono (λx y U=>?_) (qLW tm .nil h1)));rw[U]
 case mU=>obtain⟨v,h1,u,A,rfl⟩:=h; simp only[cH,h1,A]; rfl
 case slice=>obtain⟨v,h1,lo,A,hi,h3,mx,h4,rfl⟩:=h; simp only[cH,h1,qFU tm .nil A,qFU tm .nil h3,qFU tm .nil h4]; rfl
 case dG=>obtain⟨v,h1,rfl⟩:=h; simp only[cH,h1]; rfl
 case il=>obtain⟨v,h1,u,A,rfl⟩:=h; simp only[cH,h1,A]; rfl
 case lE=>obtain⟨v,h1,u,A,rfl⟩:=h; simp only[cH,h1,A]; rfl
 case index=>obtain⟨v,h1,u,A,rfl⟩:=h; simp only[cH,h1,A]; rfl
 case ng=>obtain⟨v,h1,rfl⟩:=h; simp only[cH,h1]; rfl
 case mD=>obtain⟨v,h1,rfl⟩:=h; simp only[cH,h1]; rfl
 case extract=>obtain⟨v,h1,rfl⟩:=h; simp only[cH,h1]; rfl
 case call f as =>
  obtain⟨v,h1,vs,A,rfl⟩:=h;unfold cH;dsimp only;have e:=Va (qLW tm .nil A);rw[h1,e];rfl
 case len=>obtain⟨v,h1,rfl⟩:=h; simp only[cH,h1]; rfl
 case append=>obtain⟨v,h1,u,A,rfl⟩:=h; simp only[cH,h1,A]; rfl
 case bad=>exact(Option.some_ne_none _ h.symm).elim
def qUh:∀ (as:List bt) (k:List bt->Option β),wk .nil (as.map X.k) k=k as:=by
 intro as
 induction as with
 |nil=>intro k; rfl
 |cons a as A=>intro k; exact A λvs=>k (a::vs)
def qSP(O:bD)(g:bt)(as:List bt)(h:bm)(d:Nat)(k:bt->bm->Option β):bE O g as h d k=(ib O (.call (.k g) (as.map X.k)) .nil h d).bind λx=>k x.1 x.2:=by
 rw[<- qIo];cases g with
 |dq _=>rfl
 |v g=>cases g with
  |agg _=>rfl
  |c g=>cases g with
   |func g dD=>exact(qUh as λas=>mG O g (List.rec (motive:=λ_=>List bt) as (λ_ _ _=>as++dD.map λr=>.v (.c (.ptr r 0))) dD) d h k).symm
   |_=>rfl
def ZG(O:bD)(op:jE)(tm:TM bt)(h:bm)(d:Nat)(k:bt->bm->Option β) :
  vB O op tm h d k=(gW tm op some).bind λA=>(ib O A .nil h d).bind λx=>k x.1 x.2:=by
 have hv:∀ op,vB O op tm h d k=gW tm op (λo=>bQ O o h d k)->vB O op tm h d k=(gW tm op some).bind λA=>(ib O A .nil h d).bind λx=>k x.1 x.2:=by
  intro op e;rw[e,Xo];refine dh _ (funext λo=>?_);exact CK O o .nil h d k
 cases op
 case alloc z p=>exact hv (.alloc z p) rfl
 case bad=>rfl
 case mv x =>
  simp only[vB,gW,pM,lO,eG];exact dh _ (funext λv=>qND O (.k v) .nil h d k)
 case load a n x =>
  simp only[vB,gW,pM,lO,eG];exact dh _ (funext λv=>qFe O a n (.k v) .nil h d k)
 case store n a v =>
  simp only[vB,gW,pM,lO,eG];exact dh _ (funext λa=>dh _ (funext λv=>qHf O n (.k a) (.k v) .nil h d k))
 case bin op kd x y =>
  simp only[vB,gW,pM,lO,eG];exact dh _ (funext λa=>dh _ (funext λv=>qHH O op kd (.k a) (.k v) .nil h d k))
 case toInt kd x =>
  simp only[vB,gW,pM,lO,eG];exact dh _ (funext λv=>qIK O kd (.k v) .nil h d k)
 case dG o x =>
  simp only[vB,gW,pM,lO,eG];exact dh _ (funext λv=>qHU O o (.k v) .nil h d k)
 case il sz x i =>
  simp only[vB,gW,pM,lO,eG];exact dh _ (funext λa=>dh _ (funext λv=>qFK O sz (.k a) (.k v) .nil h d k))
 case index x i =>
  simp only[vB,gW,pM,lO,eG];exact dh _ (funext λa=>dh _ (funext λv=>qHO O (.k a) (.k v) .nil h d k))
 case extract x i =>
  simp only[vB,gW,pM,lO,eG];exact dh _ (funext λv=>qFk O (.k v) i .nil h d k)
 case len kd x =>
  simp only[vB,gW,pM,lO,eG];exact dh _ (funext λv=>CK O (.len kd (.k v)) .nil h d k)
 case call f as =>
  simp only[vB,gW,pM,ZA,qLP,lO,eG];exact dh _ (funext λg=>dh _ (funext λvs=>qSP O g vs h d k))
 all_goals exact hv _ rfl
def qR4{O:bD}{tm:TM bt}{op A:jE}(h:gW tm op some=some A)(hp:bm)(d:Nat):ib O A .nil hp d=ib O op tm hp d:=by
 unfold ib; rw[qLA h]
def qKB{O:bD}{op:jE}{tm:TM bt}{h:bm}{d:Nat}{k:bt->bm->Option β}{r:β}(e:vB O op tm h d k=some r):∃ v h',ib O op tm h d=some (v,h')/\k v h'=some r:=by
 rw[ZG] at e;simp only[rK] at e;obtain⟨A,M,⟨v,h'⟩,U,e3⟩:=e;exact⟨v,h',by rw[<- qR4 M]; exact U,e3⟩
def qJU{O:bD}{dst:Option Nat}{op:jE}{g:Option (Nat×Bool)}{st:St}{v:bt}{h':bm}(e:ib O op st.tm st.h (dst.getD 1000000)=some (v,h')):∃ t,pd O ⟨dst,op,g⟩ st=some (⟨fX st.tm dst v,h'⟩,t):=by
 unfold ib at e;simp only[rK,mZ,fB] at e;obtain⟨p,U,⟨v1,h1,t⟩,e2,A,M⟩:=e;dsimp only at A M;subst A M;exact⟨t,by unfold pd; dsimp only; rw[U]; dsimp only; rw[e2]⟩
def qGh{v:bt}{want:Bool}{A:(bt->bm->Option β)->Option β}{h:bm}{k:bt->bm->Option β}{r:β}(e:bo v want A h k=some r) :
  (v = .pv (.bool want)/\A k=some r)\/((v = .dq []\/v = .pv (.bool !want))/\k .undef h=some r):=by
 cases v with
 |dq vs=>cases vs with
  |nil=>exact .inr ⟨.inl rfl,e⟩
  |cons _ _=>cases e
 |v c=>cases c with
  |agg _=>cases e
  |c c=>cases c with
   |p p=>cases p with
    |bool b =>
     change (bif wX b want then A k else k .undef h)=some r at e;rw[Sf] at e;cases b <;> cases want
     ·exact .inl ⟨rfl,e⟩
     ·exact .inr ⟨.inr rfl,e⟩
     ·exact .inr ⟨.inr rfl,e⟩
     ·exact .inl ⟨rfl,e⟩
    |_=>cases e
   |_=>cases e
def qFo{v:bt}{want:Bool}{A:(bt->bm->Touch->Option β)->Option β}{h:bm}{k:bt->bm->Touch->Option β}{r:β}(e:wD v want A h k=some r) :
  (v = .pv (.bool want)/\A k=some r)\/((v = .dq []\/v = .pv (.bool !want))/\k .undef h cj=some r):=by
 cases v with
 |dq vs=>cases vs with
  |nil=>exact .inr ⟨.inl rfl,e⟩
  |cons _ _=>cases e
 |v c=>cases c with
  |agg _=>cases e
  |c c=>cases c with
   |p p=>cases p with
    |bool b =>
     change (bif wX b want then A k else k .undef h cj)=some r at e;rw[Sf] at e;cases b <;> cases want
     ·exact .inl ⟨rfl,e⟩
     ·exact .inr ⟨.inr rfl,e⟩
     ·exact .inr ⟨.inr rfl,e⟩
     ·exact .inl ⟨rfl,e⟩
    |_=>cases e
   |_=>cases e
def AU{α:Type}{x:Option α}{k:α->Option β}{r:β}:dO x k=some r↔∃ a,x=some a/\k a=some r:=by
 rw[R0,rK]
def qHh{O:bD}{o:dX}{st:St}{k:St->Option β}{r:β}(e:stepT O o st k=some r):∃ M t,gX O o st=some (M,t)/\k M=some r:=by
 obtain⟨dst,op,g⟩:=o;cases g with
 |none =>
  obtain⟨v,h',A,U⟩:=qKB (show vB O op st.tm st.h (tH dst) (λv h=>k ⟨qv st.tm dst v,h⟩)=some r from e);rw[qEa] at A;obtain⟨t,e3⟩:=qJU (g:=none) A;exact⟨_,t,e3,by rw[<- OE]; exact U⟩
 |some g =>
  obtain⟨g,want⟩:=g;obtain⟨v,hv,e⟩:=AU.1 (show dO (st.tm.get g) _=some r from e);unfold gX;dsimp only;rw[hv]
  rcases qGh e with ⟨rfl,A⟩|⟨h|h,A⟩
  ·obtain⟨v,h',A,U⟩:=qKB A;rw[qEa] at A;obtain⟨t,e3⟩:=qJU (g:=some (g,want)) A;exact⟨_,t,by simpa using e3,by rw[<- OE]; exact U⟩
  ·subst h;exact⟨_,cj,rfl,by rw[<- OE]; exact A⟩
  ·subst h;refine⟨⟨qv st.tm dst .undef,st.h⟩,cj,?_,A⟩;rw[OE];cases want <;> rfl
def qFu{O:bD}:∀ {ops:List dX}{st:St}{k:St->Option β}{r:β},wL O ops st k=some r->∃ A ts,lA O ops st=some (A,ts)/\k A=some r:=by
 intro ops
 induction ops with
 |nil=>intro st k r e; exact⟨st,[],rfl,e⟩
 |cons o os U =>
  intro st k r e;obtain⟨A,t,e1,e2⟩:=qHh (show stepT O o st (λA=>wL O os A k)=some r from e);obtain⟨M,ts,e3,e4⟩:=U e2;exact⟨M,t::ts,by simp only[lA,e1,e3],e4⟩
def qGb{O:bD}{op:jE}{h:bm}{d:Nat}{k:bt->bm->Touch->Option β}{r:β}(e:br O op h d k=some r):∃ p v h' t,cH .nil op=some p/\p.exec O d h=some (v,h',t)/\k v h' t=some r:=by
 unfold br at e;simp only[AU,zt] at e;obtain⟨p,A,⟨v,h',t⟩,M,U⟩:=e;exact⟨p,v,h',t,A,M,U⟩
def qLu{O:bD}{o:dX}{st:St}{k:St->Touch->Option β}{r:β}(e:qu O o st k=some r):∃ A t,gX O o st=some (A,t)/\k A t=some r:=by
 obtain⟨dst,op,g⟩:=o;have one:∀ (g:Option (Nat×Bool)),(gW st.tm op λo=>br O o st.h (tH dst) λv h t=>k ⟨qv st.tm dst v,h⟩ t)=some r->∃ A t,pd O ⟨dst,op,g⟩ st=some (A,t)/\k A t=some r:=by
  intro g e;rw[Xo,rK] at e;obtain⟨aa,M,U⟩:=e;obtain⟨p,v,h',t,e3,e4,e5⟩:=qGb U;rw[qEa] at e4;refine⟨_,t,?_,e5⟩;unfold pd;dsimp only;rw[qLA M,e3];dsimp only;rw[e4,OE]
 cases g with
 |none=>exact one none e
 |some g =>
  obtain⟨g,want⟩:=g;obtain⟨v,hv,e⟩:=AU.1 (show dO (st.tm.get g) _=some r from e);unfold gX;dsimp only;rw[hv]
  rcases qFo e with ⟨rfl,M⟩|⟨h|h,M⟩
  ·obtain⟨A,t,U,e3⟩:=one (some (g,want)) M;exact⟨A,t,by simpa using U,e3⟩
  ·subst h;exact⟨_,cj,rfl,by rw[<- OE]; exact M⟩
  ·subst h;refine⟨⟨qv st.tm dst .undef,st.h⟩,cj,?_,M⟩;rw[OE];cases want <;> rfl
def qOl{O:bD}:∀ {ops:List dX}{st:St}{k:St->List Touch->Option β}{r:β},rj O ops st k=some r->∃ A ts,lA O ops st=some (A,ts)/\k A ts=some r:=by
 intro ops
 induction ops with
 |nil=>intro st k r e; exact⟨st,[],rfl,e⟩
 |cons o os U =>
  intro st k r e;obtain⟨A,t,e1,e2⟩:=qLu (show qu O o st (λA t=>rj O os A λM ts=>k M (t::ts))=some r from e);obtain⟨M,ts,e3,e4⟩:=U e2;exact⟨M,t::ts,by simp only[lA,e1,e3],e4⟩
def qQY{O:bD}{ops:List dX}{gP:List (Nat×Nat)}{st:St}{k:St->Option β}{r:β}(e:DA O ops gP st k=some r):∃ A,rW O ops gP st=some A/\k A=some r:=by
 cases gP with
 |nil=>obtain⟨A,ts,U,M⟩:=qFu (show wL O ops st k=some r from e);exact⟨A,by unfold rW; rw[U]; rfl,M⟩
 |cons p ps =>
  obtain⟨A,ts,U,M⟩:=qOl (show rj O ops st (λA ts=>bif da ts (p::ps) then k A else none)=some r from e);cases ha:da ts (p::ps) with
  |false=>rw[ha] at M; cases M
  |true=>rw[ha] at M; exact⟨A,by unfold rW; rw[U]; simp only[ha]; rfl,M⟩
end Go.AI
namespace Go.AI
def Yd{tm:TM bt}:∀ {ls:List Nat}{k:List bt->dA}{r:bt×List bG},getAll tm ls k=some r->∃ vs,cS (λl v=>tm.get l=some v) ls vs/\k vs=some r:=by
 intro ls
 induction ls with
 |nil=>intro k r h; exact⟨[],bB,h⟩
 |cons l ls A =>
  intro k r h;obtain⟨v,h1,M⟩:=AU.1 (show dO (tm.get l) (λv=>getAll tm ls λvs=>k (v::vs))=some r from h);obtain⟨vs,U,h4⟩:=A M;exact⟨v::vs,⟨h1,U⟩,h4⟩
def qHS:∀ {ls:List Nat}{vs:List bt}{tm:TM bt}{t:Nat}{v:bt},(rV ls vs tm).get t=some v->(∃ i:Nat,ls[i]?=some t/\vs[i]?=some v)\/tm.get t=some v:=by
 intro ls
 induction ls with
 |nil=>intro vs tm t v h; exact .inr h
 |cons l ls A =>
  intro vs tm t v h;cases vs with
  |nil=>exact .inr h
  |cons u vs =>
   rcases A (show(rV ls vs (tm.set u l)).get t=some v from h) with ⟨i,h1,M⟩|h1
   ·exact .inl ⟨i+1,by simpa using h1,by simpa using M⟩
   ·by_cases e:l=t
    ·subst e;have:=TM.jq u tm l v h1;exact .inl ⟨0,rfl,by rw[this]; rfl⟩
    ·rw[TM.ez u tm l t e] at h1; exact .inr h1
def sM(L:Nat->Option (List Nat×List Fr)):MC->List Fr->Prop
 |.seq a b,A=>sM L a (.seq b::A)/\sM L b A
 |.cond _ a b,A=>sM L a A/\sM L b A
 |.block id b,A=>sM L b (.fg id::A)
 |.loop l live b,A=>L l=some (live,.seq b :: .lp l live::A)/\sM L b (.lp l live::A)
 |.mark l live b,A=>L l=some (live,.seq b::A)/\sM L b A
 |.scope b,A=>sM L b (.CE::A)
 |_,_=>True
def qQ0(L:Nat->Option (List Nat×List Fr)):∀ (m:MC) (A:List Fr),(∀ e∈pb m A,L e.1=some e.2)->sM L m A:=by
 intro m
 induction m with
 |seq a b M U=>intro A h; exact⟨M _ λe he=>h e (vt _ he),U _ λe he=>h e (vr _ he)⟩
 |cond c a b M U=>intro A h; exact⟨M _ λe he=>h e (vt _ he),U _ λe he=>h e (vr _ he)⟩
 |block id b ih=>intro A h; exact ih _ h
 |scope b ih=>intro A h; exact ih _ h
 |loop l live b ih=>intro A h; exact⟨h (l,live,.seq b :: .lp l live::A) (iR ..),ih _ λe he=>h e (ia _ he)⟩
 |mark l live b ih=>intro A h; exact⟨h (l,live,.seq b::A) (iR ..),ih _ λe he=>h e (ia _ he)⟩
 |_=>intros; trivial
noncomputable def DR(n:Nat)(l:List Nat):Bool:=List.rec (motive:=λ_=>Bool) false (λa _ A=>bif Nat.beq n a then true else A) l
noncomputable def sc(l:List Nat):Bool:=List.rec (motive:=λ_=>Bool) true (λa t A=>bif DR a t then false else A) l
def qOB{n:Nat}:∀ {l:List Nat},DR n l=false->n∉l:=by
 intro l
 induction l with
 |nil=>intro _ h; cases h
 |cons a l A =>
  intro h;change (bif Nat.beq n a then true else DR n l)=false at h;rw[pN] at h;by_cases e:n=a
  ·rw[cI e] at h; cases h
  ·rw[de e] at h;intro hm
   rcases dK.1 hm with hm|hm
   ·exact e hm
   ·exact A h hm
def qS6:∀ {es:List WU},sc (es.map (·.1))=true->∀ e∈es,nU e.1 es=some e.2:=by
 intro es
 induction es with
 |nil=>intro _ e he; cases he
 |cons x es A =>
  intro h e he;change (bif DR x.1 (es.map (·.1)) then false else sc (es.map (·.1)))=true at h;cases hm:DR x.1 (es.map (·.1)) with
  |true=>rw[hm] at h; cases h
  |false =>
   rw[hm] at h;show(bif Nat.beq e.1 x.1 then some x.2 else nU e.1 es)=some e.2;rw[pN]
   rcases dK.1 he with he|he
   ·subst he; rw[cI rfl]; rfl
   ·have:¬ e.1=x.1:=λM=>qOB hm (by rw[<- M]; exact pG he)
    rw[de this];exact A h e he
inductive CF where
 |seq (c:Code)
 |fg (id:Nat)
 |lp (c:Code)
 |CE
def kq(P:Program)(N:Nat)(Q:Exit->Act->World->Prop):List CF->Exit->Act->World->Prop
 |[]=>Q
 |.seq c::A=>Exit.then (c.wp P (kq P N Q A)) (kq P N Q A)
 |.fg id::A=>Exit.inBlock id (kq P N Q A)
 |.lp c::A=>Exit.then (Code.rounds P c (kq P N Q A) N) (kq P N Q A)
 |.CE::A=>Exit.noGoto (kq P N Q A)
def XM{A M:Act->World->Prop}{Q U:Exit->Act->World->Prop}(hA:∀ a w,A a w->M a w)(hQ:∀ e a w,Q e a w->U e a w):∀ e a w,Exit.then A Q e a w->Exit.then M U e a w:=by
 intro e a w h;cases e with
 |normal=>exact hA _ _ h
 |_=>exact hQ _ _ _ h
def qGU{P:Program}{c:Code}{Q A:Exit->Act->World->Prop}(M:∀ e a w,Q e a w->A e a w):∀ (n:Nat) (a:Act) (w:World),Code.rounds P c Q n a w->Code.rounds P c A (n+1) a w/\Code.rounds P c A n a w:=by
 intro n
 induction n with
 |zero=>intro a w h; exact h.elim
 |succ n U=>intro a w h; exact⟨wp_mono h (XM (λa w h=>(U a w h).1) M),wp_mono h (XM (λa w h=>(U a w h).2) M)⟩
def qIN{P:Program}{N:Nat}{Q:Exit->Act->World->Prop}:∀ (M:List CF) (e:Exit) (a:Act) (w:World),kq P N Q M e a w->kq P (N+1) Q M e a w:=by
 intro M
 induction M with
 |nil=>intro e a w h; exact h
 |cons f M A =>
  intro e a w h;cases f with
  |seq c=>exact XM (λa w h=>wp_mono h A) A e a w h
  |lp c=>exact XM (λa w h=>(qGU A N a w h).1) A e a w h
  |fg id =>
   cases e with
   |exit j =>
    change (if j=id then _ else _) at h;show(if j=id then _ else _);split at h
    ·rename_i e; rw[bF e]; exact A _ _ _ h
    ·rename_i e; rw[bA e]; exact A _ _ _ h
   |_=>exact A _ _ _ h
  |CE =>
   cases e with
   |goto l=>exact h.elim
   |_=>exact A _ _ _ h
section
variable (P:Program) (G:Nat->Option (List bL)) (nt:Nat) (heap:Nat->Bool) (L:Nat->Option (List Nat×List Fr))
def FM:List Fr->List CF->Prop
 |[],[]=>True
 |.seq b::M,.seq c::A=>b.erase=comp P G nt heap c/\sM L b M/\FM M A
 |.fg i::M,.fg j::A=>i=j/\FM M A
 |.lp l live::M,.lp c::A=>(∃ b,b.erase=comp P G nt heap c/\L l=some (live,.seq b :: .lp l live::M)/\sM L b (.lp l live::M))/\FM M A
 |.CE::M,.CE::A=>FM M A
 |_,_=>False
end
variable [Sym]
structure vV (G:Nat->Option (List bL)) (nt:Nat) (ρ0:Env) (I0:eK) (h0:bm) (w0:World) (st:St) (ρ:Env) (I:eK) (a:Act) (w:World):Prop where
 S:nr nt ρ I st a w
 G:nv G I
 g:Good ρ0 I0 h0 w0 ρ I st.h w
def vV.cut{G:Nat->Option (List bL)}{nt:Nat}{ρ0:Env}{I0:eK}{h0:bm}{w0:World}{st:St}{ρ:Env}{I:eK}{a:Act}{w:World}(R:vV G nt ρ0 I0 h0 w0 st ρ I a w){ls:List Nat}{vs:List bt}(h:cS (λl v=>st.tm.get l=some v) ls vs) :
  vV G nt ρ0 I0 h0 w0 ⟨rV ls vs .nil,st.h⟩ ρ I a w:=by
 refine⟨⟨R.S.heap,λt v e=>?_,R.S.size,R.S.defers⟩,R.G,R.g⟩
 rcases qHS e with ⟨i,h1,M⟩|h1
 ·obtain⟨v',A,U⟩:=h.get i t h1;rw[M] at A; cases A;exact R.S.tm t v U
 ·rw[TM.get_nil] at h1; cases h1
section
variable {P:Program} {G:Nat->Option (List bL)} {O:bD} {nt:Nat} {heap:Nat->Bool} {L:Nat->Option (List Nat×List Fr)} {ρ0:Env} {I0:eK} {h0:bm} {w0:World}
variable {R:Jump} {fin:vu} {n:Nat} {r:bt×List bG} {Q:Exit->Act->World->Prop}
def wy(P:Program)(G:Nat->Option (List bL))(nt:Nat)(heap:Nat->Bool)(L:Nat->Option (List Nat×List Fr))(ρ0:Env)(I0:eK)(h0:bm)(w0:World)(R:Jump)(n:Nat)(r:bt×List bG)(Q:Exit->Act->World->Prop):Prop :=
 ∀ l live b M A c,L l=some (live,.seq b::M)->b.erase=comp P G nt heap c->sM L b M->FM P G nt heap L M A->∀ vs h,R l vs h=some r->∀ ρ I a w,vV G nt ρ0 I0 h0 w0 ⟨rV live vs .nil,h⟩ ρ I a w->c.wp P (kq P n Q A) a w
def Lv(P:Program)(G:Nat->Option (List bL))(nt:Nat)(O:bD)(ρ0:Env)(I0:eK)(h0:bm)(w0:World)(R:Jump)(fin:vu)(n:Nat)(r:bt×List bG)(Q:Exit->Act->World->Prop)(M:List Fr)(A:List CF):Prop :=
 ∀ ex st ρ I a w,pop O R fin M ex st=some r->vV G nt ρ0 I0 h0 w0 st ρ I a w->kq P (n+1) Q A ex.uc a w
def qNN(hm:P.follows .mixedOrders=true)(hO:gN P G O)(af:nt<1000000)(hL:wy P G nt heap L ρ0 I0 h0 w0 R n r Q):∀ (m:MC) (M:List Fr) (A:List CF) (c:Code) (st:St) (ρ:Env) (I:eK) (a:Act) (w:World),
  m.erase=comp P G nt heap c->sM L m M->FM P G nt heap L M A->Lv P G nt O ρ0 I0 h0 w0 R fin n r Q M A->walk O R m st (pop O R fin M)=some r->vV G nt ρ0 I0 h0 w0 st ρ I a w->c.wp P (kq P (n+1) Q A) a w:=by
 intro m
 induction m with
 |skip =>
  intro M A c st ρ I a w he hw U hp h X;cases c with
  |skip=>exact Go.wp_skip (hp .norm st ρ I a w h X)
  |label l=>exact wp_label (hp .norm st ρ I a w h X)
  |region id ops draw =>
   simp only[MC.erase,comp] at he;cases hc:iV P G nt heap ops draw with
   |none=>rw[hc] at he; cases he
   |some x=>obtain⟨_,_,rfl⟩:=Hl hc; rw[hc] at he; cases he
  |cond cx x y=>simp only[MC.erase,comp] at he; split at he <;> cases he
  |_=>simp[MC.erase,comp] at he
 |yd ops gP =>
  intro M A c st ρ I a w he hw U hp h X;cases c with
  |region id ab draw =>
   simp only[MC.erase,comp] at he;cases hc:iV P G nt heap ab draw with
   |none=>rw[hc] at he; cases he
   |some x =>
    obtain⟨L',ae,rfl⟩:=Hl hc;rw[hc] at he;simp only[oS,eo.yd.injEq] at he;obtain⟨rfl,rfl⟩:=he
    obtain⟨aa,e1,e2⟩:=qQY (show DA O ops gP st (λaa=>pop O R fin M .norm aa)=some r from h);exact qWD hm hO af hc e1 X.G X.S λdL I' a' w' S' g=>hp .norm aa dL I' a' w' e2 ⟨S',X.G.mono g.imm,X.g.trans g⟩
  |cond cx x y=>simp only[MC.erase,comp] at he; split at he <;> cases he
  |_=>simp[MC.erase,comp] at he
 |seq x y ag ah =>
  intro M A c st ρ I a w he hw U hp h X;cases c with
  |seq cx cy =>
   simp only[MC.erase,comp,eo.seq.injEq] at he;refine wp_seq ?_;refine ag (.seq y::M) (.seq cy::A) cx st ρ I a w he.1 hw.1 ⟨he.2,hw.2,U⟩ ?_ h X;intro ex st ρ I a w h X;cases ex with
   |norm=>exact ah M A cy st ρ I a w he.2 hw.2 U hp h X
   |exit id=>exact hp (.exit id) st ρ I a w h X
   |ret=>exact hp .ret st ρ I a w h X
  |region id ops draw =>
   simp only[MC.erase,comp] at he;cases hc:iV P G nt heap ops draw with
   |none=>rw[hc] at he; cases he
   |some x=>obtain⟨_,_,rfl⟩:=Hl hc; rw[hc] at he; cases he
  |cond cx x y=>simp only[MC.erase,comp] at he; split at he <;> cases he
  |_=>simp[MC.erase,comp] at he
 |cond x m1 m2 ai aj =>
  intro M A c st ρ I a w he hw U hp h X;cases c with
  |cond cx c1 c2 =>
   simp only[MC.erase,comp] at he;split at he
   ·rename_i x' ad;simp only[eo.cond.injEq] at he;obtain⟨rfl,ak,al⟩:=he;change iP st.tm x (λv=>cY v (walk O R m1 st (pop O R fin M)) (walk O R m2 st (pop O R fin M)))=some r at h;rw[pM,rK] at h;obtain⟨v,hv,h⟩:=h;cases v with
    |dq _=>cases h
    |v v=>cases v with
     |agg _=>cases h
     |c v=>cases v with
      |p v=>cases v with
       |bool t =>
        cases t with
        |true=>exact wp_cond_true (Si ((X.S.here (P:=P) X.G).ev ad hv)) (ai M A c1 st ρ I a w ak hw.1 U hp h X)
        |false=>exact wp_cond_false (Si ((X.S.here (P:=P) X.G).ev ad hv)) (aj M A c2 st ρ I a w al hw.2 U hp h X)
       |_=>cases h
      |_=>cases h
   ·cases he
  |region id ops draw =>
   simp only[MC.erase,comp] at he;cases hc:iV P G nt heap ops draw with
   |none=>rw[hc] at he; cases he
   |some x=>obtain⟨_,_,rfl⟩:=Hl hc; rw[hc] at he; cases he
  |_=>simp[MC.erase,comp] at he
 |block id m ih =>
  intro M A c st ρ I a w he hw U hp h X;cases c with
  |block j c =>
   simp only[MC.erase,comp,eo.block.injEq] at he;obtain⟨rfl,he⟩:=he;refine wp_block ?_;refine ih (.fg id::M) (.fg id::A) c st ρ I a w he hw ⟨rfl,U⟩ ?_ h X;intro ex st ρ I a w h X;cases ex with
   |norm=>exact hp .norm st ρ I a w h X
   |exit j =>
    change tK (Nat.beq j id) (pop O R fin M .norm st) (pop O R fin M (.exit j) st)=some r at h;rw[qJA,pN,jC] at h;show(if j=id then _ else _);split at h
    ·rename_i e; rw[bF e]; exact hp .norm st ρ I a w h X
    ·rename_i e; rw[bA e]; exact hp (.exit j) st ρ I a w h X
   |ret=>exact hp .ret st ρ I a w h X
  |region id ops draw =>
   simp only[MC.erase,comp] at he;cases hc:iV P G nt heap ops draw with
   |none=>rw[hc] at he; cases he
   |some x=>obtain⟨_,_,rfl⟩:=Hl hc; rw[hc] at he; cases he
  |cond cx x y=>simp only[MC.erase,comp] at he; split at he <;> cases he
  |_=>simp[MC.erase,comp] at he
 |loop l live m ih =>
  intro M A c st ρ I a w he hw U hp h X;cases c with
  |loop c =>
   simp only[MC.erase,comp,eo.loop.injEq] at he;obtain⟨vs,h1,h2⟩:=Yd (show getAll st.tm live (λvs=>R l vs st.h)=some r from h);have:=hL l live m (.lp l live::M) (.lp c::A) c hw.1 he hw.2 ⟨⟨m,he,hw.1,hw.2⟩,U⟩ vs st.h h2 ρ I a w (X.cut h1);exact wp_mono (wp_loop_rounds (n+1) this) (qIN A)
  |region id ops draw =>
   simp only[MC.erase,comp] at he;cases hc:iV P G nt heap ops draw with
   |none=>rw[hc] at he; cases he
   |some x=>obtain⟨_,_,rfl⟩:=Hl hc; rw[hc] at he; cases he
  |cond cx x y=>simp only[MC.erase,comp] at he; split at he <;> cases he
  |_=>simp[MC.erase,comp] at he
 |mark l live m ih =>
  intro M A c st ρ I a w he hw U hp h X;obtain⟨vs,h1,h2⟩:=Yd (show getAll st.tm live (λvs=>R l vs st.h)=some r from h);exact wp_mono (hL l live m M A c hw.1 he hw.2 U vs st.h h2 ρ I a w (X.cut h1)) (qIN A)
 |exit id =>
  intro M A c st ρ I a w he hw U hp h X;cases c with
  |exit j =>
   simp only[MC.erase,comp,eo.exit.injEq] at he;subst he;exact wp_exit (hp (.exit id) st ρ I a w h X)
  |region id ops draw =>
   simp only[MC.erase,comp] at he;cases hc:iV P G nt heap ops draw with
   |none=>rw[hc] at he; cases he
   |some x=>obtain⟨_,_,rfl⟩:=Hl hc; rw[hc] at he; cases he
  |cond cx x y=>simp only[MC.erase,comp] at he; split at he <;> cases he
  |_=>simp[MC.erase,comp] at he
 |scope m ih =>
  intro M A c st ρ I a w he hw U hp h X;cases c with
  |scope c =>
   simp only[MC.erase,comp,eo.scope.injEq] at he;refine wp_scope_straight ?_;refine ih (.CE::M) (.CE::A) c st ρ I a w he hw U ?_ h X;intro ex st ρ I a w h X;cases ex with
   |norm=>exact hp .norm st ρ I a w h X
   |exit id=>exact hp (.exit id) st ρ I a w h X
   |ret=>exact hp .ret st ρ I a w h X
  |region id ops draw =>
   simp only[MC.erase,comp] at he;cases hc:iV P G nt heap ops draw with
   |none=>rw[hc] at he; cases he
   |some x=>obtain⟨_,_,rfl⟩:=Hl hc; rw[hc] at he; cases he
  |cond cx x y=>simp only[MC.erase,comp] at he; split at he <;> cases he
  |_=>simp[MC.erase,comp] at he
 |ret =>
  intro M A c st ρ I a w he hw U hp h X;cases c with
  |ret=>exact wp_ret (hp .ret st ρ I a w h X)
  |region id ops draw =>
   simp only[MC.erase,comp] at he;cases hc:iV P G nt heap ops draw with
   |none=>rw[hc] at he; cases he
   |some x=>obtain⟨_,_,rfl⟩:=Hl hc; rw[hc] at he; cases he
  |cond cx x y=>simp only[MC.erase,comp] at he; split at he <;> cases he
  |_=>simp[MC.erase,comp] at he
 |bad=>intro M A c st ρ I a w he hw U hp h X; cases h
def qVy(hm:P.follows .mixedOrders=true)(hO:gN P G O)(ab:nt<1000000)(hL:wy P G nt heap L ρ0 I0 h0 w0 R n r Q)
  (aa:∀ ex st ρ I a w,fin ex st=some r->vV G nt ρ0 I0 h0 w0 st ρ I a w->Q ex.uc a w):∀ (κ:List Fr) (A:List CF),FM P G nt heap L κ A->Lv P G nt O ρ0 I0 h0 w0 R fin n r Q κ A:=by
 intro κ
 induction κ with
 |nil=>intro A hF; cases A with
  |nil=>exact aa
  |cons _ _=>exact hF.elim
 |cons f κ U =>
  intro A hF;cases A with
  |nil=>cases f <;> exact hF.elim
  |cons f' A =>
   intro ex st ρ I a w h X;cases f with
   |seq b=>cases f' with
    |seq c =>
     obtain⟨h1,h2,M⟩:=hF;cases ex with
     |norm=>exact qNN hm hO ab hL b κ A c st ρ I a w h1 h2 M (U A M) h X
     |exit id=>exact U A M (.exit id) st ρ I a w h X
     |ret=>exact U A M .ret st ρ I a w h X
    |_=>exact hF.elim
   |fg id=>cases f' with
    |fg ad =>
     obtain⟨rfl,M⟩:=hF;cases ex with
     |norm=>exact U A M .norm st ρ I a w h X
     |exit j =>
      change tK (Nat.beq j id) (pop O R fin κ .norm st) (pop O R fin κ (.exit j) st)=some r at h;rw[qJA,pN,jC] at h;show(if j=id then _ else _);split at h
      ·rename_i e; rw[bF e]; exact U A M .norm st ρ I a w h X
      ·rename_i e; rw[bA e]; exact U A M (.exit j) st ρ I a w h X
     |ret=>exact U A M .ret st ρ I a w h X
    |_=>exact hF.elim
   |lp l live=>cases f' with
    |lp c =>
     obtain⟨⟨b,h1,h2,h4⟩,M⟩:=hF;cases ex with
     |norm =>
      obtain⟨vs,e1,e2⟩:=Yd (show getAll st.tm live (λvs=>R l vs st.h)=some r from h);have:=hL l live b (.lp l live::κ) (.lp c::A) c h2 h1 h4 ⟨⟨b,h1,h2,h4⟩,M⟩ vs st.h e2 ρ I a w (X.cut e1);exact(qGU (P:=P) (c:=c) (qIN A) (n+1) a w this).2
     |exit id=>exact U A M (.exit id) st ρ I a w h X
     |ret=>exact U A M .ret st ρ I a w h X
    |_=>exact hF.elim
   |CE=>cases f' with
    |CE =>
     have M:FM P G nt heap L κ A:=hF;cases ex with
     |norm=>exact U A M .norm st ρ I a w h X
     |exit id=>exact U A M (.exit id) st ρ I a w h X
     |ret=>exact U A M .ret st ρ I a w h X
    |_=>exact hF.elim
end
def qVA(st:St)(r:pK)(k:cN->dA):N9 st r k=(ki st r).bind k:=by
 rw[<- qM6]; cases r <;> rfl
def qOC(st:St):∀ (rs:List pK) (k:List cN->dA),pL st rs k=(rs.mapM (ki st)).bind k:=by
 intro rs
 induction rs with
 |nil=>intro k; rfl
 |cons r rs A =>
  intro k;show N9 st r (λv=>pL st rs λvs=>k (v::vs))=_;rw[qVA,ek];cases ki st r with
  |none=>rfl
  |some v=>show pL st rs (λvs=>k (v::vs))=_; rw[A]; cases rs.mapM (ki st) <;> rfl
def JI(gU:Bool)(q:Nat)(vs:List cN)(h:bm):bS gU q vs h=qH gU vs h q:=by
 cases q with
 |succ m=>rfl
 |zero =>
  show(bif iG ld vs then some (oneOf vs,[]) else qH gU vs h 0)=_;cases hp:iG ld vs with
  |false=>rfl
  |true =>
   obtain⟨A,_,M,U⟩:=zq (XJ hp);unfold qH;dsimp only;rw[U];cases gU <;> simp[A,M,bY,settle,reach,cw]
def qP7(F:nd)(st:St)(q:Nat):finish F st q=(F.res.mapM (ki st)).bind λvs=>qH F.gU vs st.h q:=by
 unfold finish;cases F.res.mapM (ki st) <;> rfl
def qO2{gU:Bool}{res:List pK}{q:Nat}{ex:lV}{st:St}{r:bt×List bG}(h:Co gU res q ex st=some r)(F:nd)(h1:F.res=res)(A:F.gU=gU):(ex = .norm\/ex = .ret)/\finish F st q=some r:=by
 have key:(pL st res λvs=>bS gU q vs st.h)=some r->finish F st q=some r:=by
  intro h;rw[qP7,h1,A,<- h,qOC];exact dh _ (funext λvs=>(JI _ _ _ _).symm)
 cases ex with
 |norm=>exact⟨.inl rfl,key h⟩
 |exit id=>cases h
 |ret=>exact⟨.inr rfl,key h⟩
def Cy(P:Program)(G:Nat->Option (List bL))(T:FuncId->Option cg):Prop:=∀ f F,T f=some F->(∃ fn heap gU,P.funcs[f]?=some fn/\lS P G heap gU fn=some F.erase)/\sc (F.pb.map (·.1))=true
def qR1{P:Program}{G:Nat->Option (List bL)}(hm:P.follows .mixedOrders=true){O:bD}(hO:gN P G O){F:cg}{fn:Func}{heap:Nat->Bool}{gU:Bool}(hF:lS P G heap gU fn=some F.erase)
  {ρ0:Env} {I0:eK} {h0:bm} {w0:World} {R:Jump} {q n:Nat} {r:bt×List bG} {Q:Exit->Act->World->Prop} (hL:wy P G fn.ntmps heap (λl=>nU l F.pb) ρ0 I0 h0 w0 R n r Q)
  (A:∀ ex st ρ I a w,Co F.gU F.res q ex st=some r->vV G fn.ntmps ρ0 I0 h0 w0 st ρ I a w->Q ex.uc a w) :
  wy P G fn.ntmps heap (λl=>nU l F.pb) ρ0 I0 h0 w0 (bM F O R q) (n+1) r Q:=by
 obtain⟨c0,rs,_,_,_,M,_,_⟩:=qI9 hF;intro l live b κ U c hl he hw hk vs h hr ρ I a w X;obtain⟨e,h1,h2⟩:=AU.1 (show dO (nU l F.pb) _=some r from hr);dsimp only at hl;rw[hl] at h1;cases h1;dsimp only at h2;cases hb:Nat.beq (fw live) (fw vs) with
 |false=>rw[hb] at h2; cases h2
 |true =>
  rw[hb] at h2;exact qNN hm hO M hL b κ U c _ ρ I a w he hw hk (qVy hm hO M hL A κ U hk) h2 X
def qUt{P:Program}{G:Nat->Option (List bL)}(hm:P.follows .mixedOrders=true){T:FuncId->Option cg}(hT:Cy P G T){S:bD}(hS:gN P G S):∀ n,gN P G (r8 S (oh T S n)):=by
 have base:∀ n,(∀ f q l vs h r,oh T S n f q l vs h=some r->∃ F,T f=some F):=by
  intro n f q l vs h r e;cases n with
  |zero=>cases e
  |succ n=>obtain⟨F,h1,_⟩:=AU.1 (show dO (T f) _=some r from e); exact⟨F,h1⟩
 have key:∀ n,gN P G (r8 S (oh T S n))/\∀ f F fn heap gU,T f=some F->lS P G heap gU fn=some F.erase->∀ ρ0 I0 h0 w0 q r Q,(∀ ex st ρ I a w,Co F.gU F.res q ex st=some r->vV G fn.ntmps ρ0 I0 h0 w0 st ρ I a w->Q ex.uc a w) ->
   wy P G fn.ntmps heap (λl=>nU l F.pb) ρ0 I0 h0 w0 (oh T S n f q) n r Q:=by
  intro n
  induction n with
  |zero =>
   refine⟨λf args A v cZ e=>?_,λf F fn heap gU U hc ρ0 I0 h0 w0 q r Q M l live b κ aA c hl he hw hk vs h hr=>by cases hr⟩;refine hS f args A v cZ ?_;unfold r8 at e;cases hs:S f args A with
   |none=>rw[hs] at e; cases e
   |some x=>rw[hs] at e; exact e
  |succ n ih =>
   have ah:∀ f F fn heap gU,T f=some F->lS P G heap gU fn=some F.erase->∀ ρ0 I0 h0 w0 q r Q,(∀ ex st ρ I a w,Co F.gU F.res q ex st=some r->vV G fn.ntmps ρ0 I0 h0 w0 st ρ I a w->Q ex.uc a w) ->
     wy P G fn.ntmps heap (λl=>nU l F.pb) ρ0 I0 h0 w0 (oh T S (n+1) f q) (n+1) r Q:=by
    intro f F fn heap gU U hc ρ0 I0 h0 w0 q r Q M;have e:oh T S (n+1) f q=bM F (r8 S (oh T S n)) (oh T S n f q) q:=by
     funext l vs h
     show dO (T f) _=_;rw[U]
    rw[e];exact qR1 hm ih.1 hc (ih.2 f F fn heap gU U hc ρ0 I0 h0 w0 q r Q M) M
   refine⟨λf args A v cZ e=>?_,ah⟩;unfold r8 at e;cases hs:S f args A with
   |some x=>rw[hs] at e; exact hS f args A v cZ (hs.trans e)
   |none =>
    rw[hs] at e;change oh T S (n+1) f (fw A) 0 args { bY:=A,cW:=.nil }=some (v,cZ) at e;obtain⟨F,U⟩:=base _ _ _ _ _ _ _ e;obtain⟨⟨fn,heap,gU,ai,hc⟩,au⟩:=hT f F U;obtain⟨c,rs,hb,aw,aa,aB,aC,ab⟩:=qI9 hc;refine⟨⟨fn,ai,by rw[hb]; rfl,aa⟩,λρ0 I0 w0 ad hG H ha aj=>?_⟩;have az:F.np=fn.params.size+fn.nfree:=dh nd.np ab;have ae:F.res=rs:=dh nd.res ab;have af:F.body.erase=comp P G fn.ntmps heap c:=dh nd.body ab;have ak:nU 0 F.pb=some (List.range F.np,[.seq F.body]):=rfl;have hlen:args.length=F.np:=by
     obtain⟨F',h1,h2⟩:=AU.1 (show dO (T f) _=_ from e);rw[U] at h1; cases h1;obtain⟨e1,h3,h4⟩:=AU.1 (show dO (nU 0 F.pb) _=_ from h2);rw[ak] at h3; cases h3;dsimp only at h4;cases al:Nat.beq (fw (List.range F.np)) (fw args) with
     |false=>rw[al] at h4; cases h4
     |true=>have:=Fk al; rw[pU,pU,List.length_range] at this; exact this.symm
    have an:=ha.length;simp only[wq] at an;refine calls_of_wp ai hb ?_;have ag:=qQ0 (λl=>nU l F.pb) F.body [] λx hx=>qS6 au x (ia _ hx)
    refine ah f F fn heap gU U hc ρ0 I0 { bY:=A,cW:=.nil } w0 (fw A) (v,cZ) _ ?_ 0 _ F.body [] [] c ak af ag trivial args { bY:=A,cW:=.nil } e ρ0 I0 _ w0 ?_
    ·intro ex st dL I' a' w' M X;obtain⟨hex,ao⟩:=qO2 M F.erase rfl rfl;rw[pU] at ao;obtain⟨cv,ax,I2,q1,q2,q3,q4,q5⟩:=qQu X.S (fn:=fn) (by rw[aw]; exact dh some ae.symm) ao X.g (λi l e=>H.jf i l e) aj;have done:a'.defers=[]/\∃ cv,(results fn a'.tmps).run P w' = .ok cv w'/\∃ aq dL I',(Ending.returned cv) = .returned aq/\fq dL I' v aq/\eC dL I' { bY:=cZ,cW:=.nil } w'/\Good ρ0 I0 { bY:=A,cW:=.nil } w0 dL I' { bY:=cZ,cW:=.nil } w'/\(∀ d g,dL (.own d g)=none) :=
      ⟨X.S.defers,cv,q1,cv,ax,I2,rfl,q2,q3,q4,q5⟩
     rcases hex with rfl|rfl
     ·exact done
     ·exact done
    ·refine⟨⟨H,λt u e=>?_,cM,rfl⟩,hG,Good.refl _ _ _ _⟩
     rcases qHS e with ⟨i,e1,e2⟩|e1
     ·have hi:i=t:=by
       have:=(cQ.1 e1).2
       simpa using this
      subst hi;obtain⟨cv,e3,e4⟩:=ha.get i u e2;have ar:=(cQ.1 e3).1;simp only[wq] at ar;have ay:ad[i]?=some cv:=by simpa using e3
      have:(ad++Array.replicate (fn.ntmps - ad.size) undef)[i]?=some cv:=by rw[E0 ar]; exact ay
      simp only[AA,this,oS];exact e4
     ·rw[TM.get_nil] at e1; cases e1
 exact λn=>(key n).1
end Go.AI
namespace Go.AI
def Ev(p:Nat->Prop):Prop:=∃ N,∀ n,N<=n->p n
def Ev.all{p:Nat->Prop}(h:∀ n,p n):Ev p:=⟨0,λn _=>h n⟩
def Ev.mono{p q:Nat->Prop}(h:Ev p)(A:∀ n,p n->q n):Ev q:=let ⟨N,M⟩:=h; ⟨N,λn hn=>A n (M n hn)⟩
def Ev.and{p q:Nat->Prop}(h:Ev p)(h':Ev q):Ev λn=>p n/\q n :=
 let ⟨N,A⟩:=h
 let ⟨M,U⟩:=h'
 ⟨max N M,λn hn=>⟨A n bn,U n bn⟩⟩
def Ev.Ka{p q r:Nat->Prop}(h:Ev p)(h':Ev q)(A:∀ n,p n->q n->r n):Ev r:=(h.and h').mono λn x=>A n x.1 x.2
section
variable {β:Type} {O:bD} {On:Nat->bD}
def rU(On:Nat->bD)(O:bD):Prop:=∀ f a o r,O f a o=some r->Ev λn=>On n f a o=some r
def qOV(U:rU On O){f:FuncId}{args:List bt}{d:Nat}{h:bm}{y:bt×bm×Touch}(e:dE O f args d h=some y):Ev λn=>dE (On n) f args d h=some y:=by
 unfold dE at e ⊢;dsimp only at e ⊢;split at e
 ·cases e
 ·rename_i M A;split at e
  ·cases e
  ·rename_i v cZ hr;refine(U _ _ _ _ hr).mono λn hn=>?_
   rw[hn];exact e
def qKw(A:rU On O){p:cA}{d:Nat}{h:bm}{y:bt×bm×Touch}(e:p.exec O d h=some y):Ev λn=>p.exec (On n) d h=some y:=by
 cases p with
 |go dM k=>exact .all λn=>e
 |call f args=>exact qOV (d:=d) A e
def qTD(A:rU On O){op:jE}{tm:TM bt}{h:bm}{d:Nat}{y:bt×bm}(e:ib O op tm h d=some y):Ev λn=>ib (On n) op tm h d=some y:=by
 unfold ib at e ⊢;simp only[rK,mZ] at e;obtain⟨p,M,x,U,e3⟩:=e;refine(qKw A U).mono λn hn=>?_
 rw[M,eG,hn,iO,e3]
def qMM(A:rU On O){op:jE}{tm:TM bt}{h:bm}{d:Nat}{k:bt->bm->Option β}{kn:Nat->bt->bm->Option β}{r:β}(M:∀ v h,k v h=some r->Ev λn=>kn n v h=some r)(e:vB O op tm h d k=some r) :
  Ev λn=>vB (On n) op tm h d (kn n)=some r:=by
 rw[ZG] at e;simp only[rK] at e;obtain⟨U,e1,⟨v,h'⟩,e2,e3⟩:=e;refine(qTD A e2).Ka (M _ _ e3) λn h1 h2=>?_
 rw[ZG,e1,eG,h1,eG];exact h2
def qJI(U:rU On O){o:dX}{st:St}{k:St->Option β}{kn:Nat->St->Option β}{r:β}(A:∀ st,k st=some r->Ev λn=>kn n st=some r)(e:stepT O o st k=some r):Ev λn=>stepT (On n) o st (kn n)=some r:=by
 obtain⟨dst,op,g⟩:=o;cases g with
 |none=>exact qMM U (λv h=>A _) (show vB O op st.tm st.h (tH dst) (λv h=>k ⟨qv st.tm dst v,h⟩)=some r from e)
 |some g =>
  obtain⟨v,hv,e⟩:=AU.1 (show dO (st.tm.get g.1) _=some r from e);have:∀ n,stepT (On n) ⟨dst,op,some g⟩ st (kn n)=bo v g.2 (λkk=>vB (On n) op st.tm st.h (tH dst) kk) st.h λv h=>kn n ⟨qv st.tm dst v,h⟩:=by
   intro n;show dO (st.tm.get g.1) _=_;rw[hv]
  simp only[this]
  rcases qGh e with ⟨rfl,M⟩|⟨h,M⟩
  ·refine(qMM U (λv h=>A ⟨qv st.tm dst v,h⟩) M).mono λn hn=>?_
   show(bif wX g.2 g.2 then _ else _)=_;rw[Sf,show(g.2==g.2)=true by simp];exact hn
  ·refine(A _ M).mono λn hn=>?_
   rcases h with rfl|rfl
   ·exact hn
   ·show(bif wX (!g.2) g.2 then _ else _)=_;rw[Sf,show((!g.2)==g.2)=false by cases g.2 <;> rfl];exact hn
def qHA(U:rU On O):∀ {ops:List dX}{st:St}{k:St->Option β}{kn:Nat->St->Option β}{r:β},(∀ st,k st=some r->Ev λn=>kn n st=some r)->wL O ops st k=some r->Ev λn=>wL (On n) ops st (kn n)=some r:=by
 intro ops
 induction ops with
 |nil=>intro st k kn r M e; exact M _ e
 |cons o os ih =>
  intro st k kn r M e;exact qJI U (kn:=λn A=>wL (On n) os A (kn n)) (λA e=>ih M e) (show stepT O o st (λA=>wL O os A k)=some r from e)
def qOo(A:rU On O){op:jE}{h:bm}{d:Nat}{k:bt->bm->Touch->Option β}{kn:Nat->bt->bm->Touch->Option β}{r:β}(M:∀ v h t,k v h t=some r->Ev λn=>kn n v h t=some r)(e:br O op h d k=some r) :
  Ev λn=>br (On n) op h d (kn n)=some r:=by
 obtain⟨p,v,h',t,U,e2,e3⟩:=qGb e;refine(qKw A e2).Ka (M _ _ _ e3) λn h1 h2=>?_
 unfold br;rw[zt,U,nX,h1,nX];exact h2
def qOk(hO:rU On O){o:dX}{st:St}{k:St->Touch->Option β}{kn:Nat->St->Touch->Option β}{r:β}(U:∀ st t,k st t=some r->Ev λn=>kn n st t=some r)(e:qu O o st k=some r):Ev λn=>qu (On n) o st (kn n)=some r:=by
 obtain⟨dst,op,g⟩:=o;have one:∀ {A:bt->bm->Touch->Option β}{kkn:Nat->bt->bm->Touch->Option β},(∀ v h t,A v h t=some r->Ev λn=>kkn n v h t=some r)->(gW st.tm op λo=>br O o st.h (tH dst) A)=some r->Ev λn=>(gW st.tm op λo=>br (On n) o st.h (tH dst) (kkn n))=some r:=by
  intro A kkn aa e;rw[Xo,rK] at e;obtain⟨ab,M,e2⟩:=e;refine(qOo hO aa e2).mono λn hn=>?_
  rw[Xo,M];exact hn
 cases g with
 |none=>exact one (λv h t=>U _ _) e
 |some g =>
  obtain⟨v,hv,e⟩:=AU.1 (show dO (st.tm.get g.1) _=some r from e);have:∀ n,qu (On n) ⟨dst,op,some g⟩ st (kn n)=wD v g.2 (λA=>gW st.tm op λo=>br (On n) o st.h (tH dst) A) st.h λv h t=>kn n ⟨qv st.tm dst v,h⟩ t:=by
   intro n;show dO (st.tm.get g.1) _=_;rw[hv]
  simp only[this]
  rcases qFo e with ⟨rfl,M⟩|⟨h,M⟩
  ·refine(one (kkn:=λn v h t=>kn n ⟨qv st.tm dst v,h⟩ t) (λv h t=>U ⟨qv st.tm dst v,h⟩ t) M).mono λn hn=>?_
   show(bif wX g.2 g.2 then _ else _)=_;rw[Sf,show(g.2==g.2)=true by simp];exact hn
  ·refine(U _ _ M).mono λn hn=>?_
   rcases h with rfl|rfl
   ·exact hn
   ·show(bif wX (!g.2) g.2 then _ else _)=_;rw[Sf,show((!g.2)==g.2)=false by cases g.2 <;> rfl];exact hn
def qQc(hO:rU On O):∀ {ops:List dX}{st:St}{k:St->List Touch->Option β}{kn:Nat->St->List Touch->Option β}{r:β},(∀ st ts,k st ts=some r->Ev λn=>kn n st ts=some r)->rj O ops st k=some r->Ev λn=>rj (On n) ops st (kn n)=some r:=by
 intro ops
 induction ops with
 |nil=>intro st k kn r U e; exact U _ _ e
 |cons o os ih =>
  intro st k kn r U e;exact qOk hO (kn:=λn M t=>rj (On n) os M λA ts=>kn n A (t::ts)) (λM t e=>ih (kn:=λn A ts=>kn n A (t::ts)) (λst ts=>U st (t::ts)) e) (show qu O o st (λM t=>rj O os M λA ts=>k A (t::ts))=some r from e)
def qSI(M:rU On O){ops:List dX}{gP:List (Nat×Nat)}{st:St}{k:St->Option β}{kn:Nat->St->Option β}{r:β}(U:∀ st,k st=some r->Ev λn=>kn n st=some r)(e:DA O ops gP st k=some r):Ev λn=>DA (On n) ops gP st (kn n)=some r:=by
 cases gP with
 |nil=>exact qHA M U (show wL O ops st k=some r from e)
 |cons p ps =>
  refine qQc M (kn:=λn A ts=>bif da ts (p::ps) then kn n A else none) (λst ts e=>?_) (show rj O ops st (λA ts=>bif da ts (p::ps) then k A else none)=some r from e);cases h:da ts (p::ps) with
  |false=>rw[h] at e; cases e
  |true=>rw[h] at e; exact U _ e
variable {R:Jump} {Rn:Nat->Jump}
def IH(Rn:Nat->Jump)(R:Jump):Prop:=∀ l vs h r,R l vs h=some r->Ev λn=>Rn n l vs h=some r
def qG4(hR:IH Rn R){l:Nat}{live:List Nat}{st:St}{r:bt×List bG}(e:jump R l live st=some r):Ev λn=>jump (Rn n) l live st=some r:=by
 obtain⟨vs,h1,A⟩:=Yd (show getAll st.tm live (λvs=>R l vs st.h)=some r from e);have key:∀ (live:List Nat) (vs:List bt) (k:List bt->dA),cS (λl v=>st.tm.get l=some v) live vs->getAll st.tm live k=k vs:=by
  intro live
  induction live with
  |nil=>intro vs k h; cases vs with
   |nil=>rfl
   |cons _ _=>exact h.elim
  |cons l live M=>intro vs k h; cases vs with
   |nil=>exact h.elim
   |cons v vs =>
    show dO (st.tm.get l) (λv=>getAll st.tm live λvs=>k (v::vs))=_;rw[h.1];exact M vs _ h.2
 refine(hR _ _ _ _ A).mono λn hn=>?_
 show getAll st.tm live _=_;rw[key live vs _ h1];exact hn
def qTN(hO:rU On O)(hR:IH Rn R):∀ (m:MC) {st:St} {k:vu} {kn:Nat->vu} {r:bt×List bG},(∀ ex st,k ex st=some r->Ev λn=>kn n ex st=some r)->walk O R m st k=some r->Ev λn=>walk (On n) (Rn n) m st (kn n)=some r:=by
 intro m
 induction m with
 |skip=>intro st k kn r A e; exact A _ _ e
 |yd ops gP=>intro st k kn r A e; exact qSI hO (kn:=λn M=>kn n .norm M) (λst=>A .norm st) e
 |seq a b U aa =>
  intro st k kn r A e;refine U (kn:=λn ex M=>lV.rec (motive:=λ_=>dA) (walk (On n) (Rn n) b M (kn n)) (λid=>kn n (.exit id) M) (kn n .ret M) ex) (λex st e=>?_) e;cases ex with
  |norm=>exact aa A e
  |exit id=>exact A _ _ e
  |ret=>exact A _ _ e
 |cond c a b U aa =>
  intro st k kn r A e;change iP st.tm c (λv=>cY v (walk O R a st k) (walk O R b st k))=some r at e;rw[pM,rK] at e;obtain⟨v,hv,e⟩:=e;have:∀ n,walk (On n) (Rn n) (.cond c a b) st (kn n)=cY v (walk (On n) (Rn n) a st (kn n)) (walk (On n) (Rn n) b st (kn n)):=by
   intro n;show iP st.tm c _=_;rw[pM,hv]; rfl
  simp only[this];cases v with
  |dq _=>cases e
  |v v=>cases v with
   |agg _=>cases e
   |c v=>cases v with
    |p v=>cases v with
     |bool t=>cases t with
      |true=>exact U A e
      |false=>exact aa A e
     |_=>cases e
    |_=>cases e
 |block id b ih =>
  intro st k kn r A e;refine ih (kn:=λn ex M=>lV.rec (motive:=λ_=>dA) (kn n .norm M) (λj=>tK (Nat.beq j id) (kn n .norm M) (kn n (.exit j) M)) (kn n .ret M) ex) (λex st e=>?_) e;cases ex with
  |norm=>exact A _ _ e
  |exit j =>
   change tK (Nat.beq j id) (k .norm st) (k (.exit j) st)=some r at e;show Ev λn=>tK (Nat.beq j id) (kn n .norm st) (kn n (.exit j) st)=some r
   cases h:Nat.beq j id with
   |true=>rw[h] at e; exact A _ _ e
   |false=>rw[h] at e; exact A _ _ e
  |ret=>exact A _ _ e
 |loop l live b ih=>intro st k kn r A e; exact qG4 hR e
 |mark l live b ih=>intro st k kn r A e; exact qG4 hR e
 |exit id=>intro st k kn r A e; exact A _ _ e
 |scope b ih=>intro st k kn r A e; exact ih A e
 |ret=>intro st k kn r A e; exact A _ _ e
 |bad=>intro st k kn r A e; cases e
def qUS(U:rU On O)(hR:IH Rn R)(fin:vu):∀ (M:List Fr) {ex:lV} {st:St} {r:bt×List bG},pop O R fin M ex st=some r->Ev λn=>pop (On n) (Rn n) fin M ex st=some r:=by
 intro M
 induction M with
 |nil=>intro ex st r e; exact .all λn=>e
 |cons f M A =>
  intro ex st r e;cases f with
  |seq b=>cases ex with
   |norm=>exact qTN U hR b (kn:=λn=>pop (On n) (Rn n) fin M) (λex st=>A) e
   |exit id=>exact A (ex:=.exit id) e
   |ret=>exact A (ex:=.ret) e
  |fg id=>cases ex with
   |norm=>exact A (ex:=.norm) e
   |exit j =>
    change tK (Nat.beq j id) (pop O R fin M .norm st) (pop O R fin M (.exit j) st)=some r at e;show Ev λn=>tK (Nat.beq j id) (pop (On n) (Rn n) fin M .norm st) (pop (On n) (Rn n) fin M (.exit j) st)=some r
    cases h:Nat.beq j id with
    |true=>rw[h] at e; exact A e
    |false=>rw[h] at e; exact A e
   |ret=>exact A (ex:=.ret) e
  |lp l live=>cases ex with
   |norm=>exact qG4 hR e
   |exit id=>exact A (ex:=.exit id) e
   |ret=>exact A (ex:=.ret) e
  |CE=>cases ex with
   |norm=>exact A (ex:=.norm) e
   |exit id=>exact A (ex:=.exit id) e
   |ret=>exact A (ex:=.ret) e
def qI7(M:rU On O)(hR:IH Rn R){F:cg}{q l:Nat}{vs:List bt}{h:bm}{r:bt×List bG}(e:bM F O R q l vs h=some r):Ev λn=>bM F (On n) (Rn n) q l vs h=some r:=by
 obtain⟨x,U,A⟩:=AU.1 (show dO (nU l F.pb) _=_ from e);have:∀ n,bM F (On n) (Rn n) q l vs h=tK (Nat.beq (fw x.1) (fw vs)) (pop (On n) (Rn n) (Co F.gU F.res q) x.2 .norm ⟨rV x.1 vs .nil,h⟩) none:=by
  intro n;show dO (nU l F.pb) _=_;rw[U]
 simp only[this];cases hb:Nat.beq (fw x.1) (fw vs) with
 |false=>rw[hb] at A; cases A
 |true=>rw[hb] at A; exact qUS M hR _ _ A
end
def IE(Wn:Nat->n9)(W:n9):Prop:=∀ f q l vs h r,W f q l vs h=some r->Ev λn=>Wn n f q l vs h=some r
def qNA{S:bD}{Wn:Nat->n9}{W:n9}(hW:IE Wn W):rU (λn=>r8 S (Wn n)) (r8 S W):=by
 intro f a o r e;have h1:∀ A:n9,r8 S A f a o=Option.rec (motive:=λ_=>dA) (A f (fw o) 0 a { bY:=o,cW:=.nil }) some (S f a o):=λ_=>rfl
 simp only[h1] at e ⊢;cases hs:S f a o with
 |some x=>rw[hs] at e; exact .all λn=>e
 |none=>rw[hs] at e; exact hW _ _ _ _ _ _ e
def qIw{T:FuncId->Option cg}{S:bD}{Wn:Nat->n9}{W:n9}(hW:IE Wn W):IE (λn=>ue T S (Wn n)) (ue T S W):=by
 intro f q l vs h r e;obtain⟨F,A,M⟩:=AU.1 (show dO (T f) _=_ from e);refine(qI7 (qNA (S:=S) hW) (R:=W f q) (Rn:=λn=>Wn n f q) (λl vs h r=>hW f q l vs h r) M).mono λn hn=>?_
 show dO (T f) _=_;rw[A];exact hn
def WQ(W A:n9):Prop:=∀ f q l vs h r,W f q l vs h=some r->A f q l vs h=some r
def qG1{T:FuncId->Option cg}{S:bD}{W A:n9}(h:WQ W A):WQ (ue T S W) (ue T S A):=by
 intro f q l vs hp r e;obtain⟨N,M⟩:=qIw (Wn:=λ_=>A) (λf q l vs hp r e=>.all λ_=>h f q l vs hp r e) f q l vs hp r e;exact M N (cB _)
section
variable (T:FuncId->Option cg) (S:bD)
def qLY:∀ n,WQ (oh T S n) (oh T S (n+1)):=by
 intro n
 induction n with
 |zero=>intro f q l vs h r e; cases e
 |succ n A=>exact qG1 A
def qIP{n m:Nat}(h:n<=m):WQ (oh T S n) (oh T S m):=by
 induction h with
 |refl=>exact λf q l vs h r e=>e
 |step _ A=>exact λf q l vs h r e=>qLY T S _ _ _ _ _ _ _ (A _ _ _ _ _ _ e)
open Classical in
noncomputable def ca:n9:=λf q l vs h=>if e:∃ r,∃ n,oh T S n f q l vs h=some r then some e.choose else none
variable {T S}
def qQR{n:Nat}{f:FuncId}{q l:Nat}{vs:List bt}{h:bm}{r:bt×List bG}(e:oh T S n f q l vs h=some r):ca T S f q l vs h=some r:=by
 have hx:∃ r,∃ n,oh T S n f q l vs h=some r:=⟨r,n,e⟩;unfold ca;rw[dif_pos hx];obtain⟨m,hm⟩:=hx.choose_spec;have h1:=qIP T S (Nat.le_max_left n m) _ _ _ _ _ _ e;have A:=qIP T S (Nat.le_max_right n m) _ _ _ _ _ _ hm;rw[h1] at A;exact A.symm
def qKv{f:FuncId}{q l:Nat}{vs:List bt}{h:bm}{r:bt×List bG}(e:ca T S f q l vs h=some r):∃ n,oh T S n f q l vs h=some r:=by
 unfold ca at e;split at e
 ·rename_i hx;cases e;exact hx.choose_spec
 ·cases e
def qNF:IE (oh T S) (ca T S):=λf q l vs h r e=>let ⟨n,hn⟩:=qKv e; ⟨n,λm hm=>qIP T S hm _ _ _ _ _ _ hn⟩
def qPx(f:FuncId)(q l:Nat)(vs:List bt)(h:bm):ca T S f q l vs h=ue T S (ca T S) f q l vs h:=by
 refine Option.ext λr=>⟨λe=>?_,λe=>?_⟩
 ·obtain⟨n,hn⟩:=qKv e;cases n with
  |zero=>cases hn
  |succ n=>exact qG1 (λf q l vs h r=>qQR) f q l vs h r hn
 ·obtain⟨N,A⟩:=qIw qNF f q l vs h r e;exact qQR (n:=N+1) (A N (cB _))
def qAA{f:FuncId}{F:cg}(A:T f=some F)(q l:Nat)(vs:List bt)(h:bm):ca T S f q l vs h=bM F (r8 S (ca T S)) (ca T S f q) q l vs h:=by
 rw[qPx];show dO (T f) _=_;rw[A]
def qQt[Sym]{P:Program}{G:Nat->Option (List bL)}(hm:P.follows .mixedOrders=true)(M:Cy P G T)(U:gN P G S):gN P G (r8 S (ca T S)):=by
 intro f args A v cZ e;obtain⟨N,hN⟩:=qNA (S:=S) qNF f args A _ e;exact qUt hm M U N f args A v cZ (hN N (cB _))
end
inductive tX where
 |z (f:bm->dA)
 |s (f:bt->tX)
noncomputable def tX.app(b:tX):List bt->bm->dA:=tX.rec (motive:=λ_=>List bt->bm->dA)
 (λf vs h=>List.rec (motive:=λ_=>dA) (f h) (λ_ _ _=>none) vs) (λ_ A vs h=>List.rec (motive:=λ_=>dA) none (λx t _=>A x t h) vs) b
def tX.BQ:tX->(List bt->bm->dA)->Prop
 |.z f,g=>∀ h,f h=g [] h
 |.s f,g=>∀ x,(f x).BQ λvs h=>g (x::vs) h
def tX.ok:∀ {b:tX}{g:List bt->bm->dA},b.BQ g->∀ {vs:List bt}{h:bm}{r:bt×List bG},b.app vs h=some r->g vs h=some r:=by
 intro b
 induction b with
 |z f =>
  intro g H vs h r e;cases vs with
  |nil=>exact(H h).symm.trans e
  |cons _ _=>cases e
 |s f A =>
  intro g H vs h r e;cases vs with
  |nil=>cases e
  |cons x t=>exact A x (H x) e
abbrev eL:=bD->Jump->Nat->List tX
noncomputable def Uw(D:FuncId->Option eL)(S:bD)(W:n9):n9:=λf q l vs h=>dO (D f) λB=>dO (lC (B (r8 S W) (W f q) q) l) λb=>b.app vs h
noncomputable def rq(D:FuncId->Option eL)(S:bD)(n:Nat):n9:=Nat.rec (motive:=λ_=>n9) (λ_ _ _ _ _=>none) (λ_ A=>Uw D S A) n
def cd(F:cg)(O:bD)(R:Jump)(q:Nat):Nat->List tX->Prop
 |_,[]=>True
 |i,b::A=>b.BQ (λvs h=>bM F O R q i vs h)/\cd F O R q (i+1) A
def cd.get{F:cg}{O:bD}{R:Jump}{q:Nat}:∀ {A:List tX}{i:Nat},cd F O R q i A->∀ {l:Nat}{b:tX},lC A l=some b->b.BQ λvs h=>bM F O R q (i+l) vs h:=by
 intro A
 induction A with
 |nil=>intro i _ l b e; cases e
 |cons b A M =>
  intro i h l b' e;cases l with
  |zero=>cases e; exact h.1
  |succ l =>
   have:=M h.2 (show lC A l=some b' from e);rw[show i+(l+1)=i+1+l by omega];exact this
def WX(T:FuncId->Option cg)(D:FuncId->Option eL):Prop:=∀ f B,D f=some B->∃ F,T f=some F/\∀ O R q,cd F O R q 0 (B O R q)
def Oy{T:FuncId->Option cg}{D:FuncId->Option eL}{S:bD}(h:WX T D):∀ n,WQ (rq D S n) (ca T S):=by
 intro n
 induction n with
 |zero=>intro f q l vs hp r e; cases e
 |succ n M =>
  intro f q l vs hp r e;obtain⟨B,U,e2⟩:=AU.1 (show dO (D f) _=some r from e);obtain⟨b,e3,e4⟩:=AU.1 e2;obtain⟨F,hF,hB⟩:=h f B U;have A:=tX.ok ((hB (r8 S (rq D S n)) (rq D S n f q) q).get e3) e4;rw[nY] at A;have e6:ue T S (rq D S n) f q l vs hp=some r:=by
   show dO (T f) _=some r;rw[hF];show bM F (r8 S (rq D S n)) (rq D S n f q) q l vs hp=some r;exact A
  rw[qPx];exact qG1 M f q l vs hp r e6
def qRw{P:Program}{G:Nat->Option (List bL)}{t:TM cg}(h:TM.Lx (λf F=>(∃ fn heap gU,P.funcs[f]?=some fn/\lS P G heap gU fn=some F.erase)/\sc (F.pb.map (·.1))=true) t (λn=>n)):Cy P G t.get:=λ_ _ e=>TM.Lx.get h e
def qU7{T:TM cg}{t:TM eL}(h:TM.Lx (λf B=>∃ F,T.get f=some F/\∀ O R q,cd F O R q 0 (B O R q)) t (λn=>n)):WX T.get t.get:=λ_ _ e=>TM.Lx.get h e
end Go.AI
namespace Go.AI
open Go.RowKit Go.ChangeShapes Go.WideShapes
noncomputable def h0:bm:={ bY:=[],cW:=.nil }
def ID(D:FuncId->Option eL)(wid:FuncId):Prop:=∀ (a:Int) (m:Nat),rq D (λ_ _ _=>none) 10 wid 0 0 [.pv (.int .i64 a),.pv (.int .i64 (.ofNat (m+1)))] h0 =
 Bool.rec (motive:=λ_=>Option (bt×List bG)) (some (.pv (.int .i64 (Int.tmod a (.ofNat (m+1)))),[])) (some (.pv (.int .i64 (oO .i64 (Int.add (Int.tmod a (.ofNat (m+1))) (.ofNat (m+1))))),[])) (vQ (Int.tmod a (.ofNat (m+1))) 0)
section
variable [Sym] {P:Program} {G:Nat->Option (List bL)} {T:FuncId->Option cg} {D:FuncId->Option eL}
def qSb{S:bD}(hm:P.follows .mixedOrders=true)(U:Cy P G T)(hS:gN P G S){f:FuncId}{args:List bt}{A:List bG}(h:r8 S (ca T S) f args []=some (.pv (.bool true),A)){I:eK}(hG:nv G I){w:World}
  (h1:∀ b o v,I.cell b o=some v->w.cell? ⟨b,o,none⟩=some v) (h2:∀ b arr c,I.map b=some (arr,c)->w.heap[b]?=some (.map arr c)) {M:Array Value} (ha:cS (fq qm I) args M.toList) :
  Calls P f M w λe w'=>e = .returned (.bool true)/\Below w.heap.size w w' :=
 Calls.mono (qTK (qQt hm U hS) h hG h1 h2 ha) λe w' ⟨cv,dL,I',e1,e2,e3⟩=>⟨by rw[e1,Si e2],e3⟩
end
section
variable {β:Type} {O:bD} {h:bm} {d:Nat} {k:bt->bm->Option β}
abbrev kN(K:IntKind)(n:Int):bt:=.v (.c (.p (.int K n)))
abbrev kU(b:UInt8):bt:=.v (.c (.p (.int .u8 (b.toNat:Int))))
def FN(K:IntKind):oQ K K=true:=by cases K <;> rfl
def nz(kd:Nat)(K:IntKind)(a b:Int):bw .add kd (kN K a) (kN K b) h k=k (kN K (K.wrap (a+b))) h:=by
 rw[<- FO]; show dO (bif oQ K K then _ else _) _=_; rw[FN]; rfl
def FP(kd:Nat)(K:IntKind)(a b:Int):bw .sub kd (kN K a) (kN K b) h k=k (kN K (K.wrap (a - b))) h:=by
 rw[<- FO]; show dO (bif oQ K K then _ else _) _=_; rw[FN]; rfl
def XW(kd:Nat)(K:IntKind)(a b:Int):bw .mul kd (kN K a) (kN K b) h k=k (kN K (K.wrap (a*b))) h:=by
 rw[<- FO]; show dO (bif oQ K K then _ else _) _=_; rw[FN]; rfl
def vG(kd:Nat)(K:IntKind)(a b:Int):bw .eql kd (kN K a) (kN K b) h k=k (kB (decide (a=b))) h:=by
 rw[<- OA]; show dO (bif oQ K K then _ else _) _=_; rw[FN]; rfl
def XA(kd:Nat)(K:IntKind)(a b:Int):bw .neq kd (kN K a) (kN K b) h k=k (kB (!decide (a=b))) h:=by
 rw[<- OA]; show dO (bif oQ K K then _ else _) _=_; rw[FN]; rfl
def qh(kd:Nat)(K:IntKind)(a b:Int):bw .lss kd (kN K a) (kN K b) h k=k (kB (decide (a<b))) h:=by
 rw[<- JF]; show dO (bif oQ K K then _ else _) _=_; rw[FN]; rfl
def zc(kd:Nat)(K:IntKind)(a b:Int):bw .gtr kd (kN K a) (kN K b) h k=k (kB (decide (b<a))) h:=by
 rw[<- JF]; show dO (bif oQ K K then _ else _) _=_; rw[FN]; rfl
def qK6(kd:Nat)(K:IntKind)(a b:Int):bw .leq kd (kN K a) (kN K b) h k=k (kB (!decide (b<a))) h:=by
 rw[<- JF]; show dO (bif oQ K K then _ else _) _=_; rw[FN]; rfl
def qGk(kd:Nat)(K:IntKind)(a b:Int):bw .geq kd (kN K a) (kN K b) h k=k (kB (!decide (a<b))) h:=by
 rw[<- JF]; show dO (bif oQ K K then _ else _) _=_; rw[FN]; rfl
def Vb(kd:Nat)(K:IntKind)(a b:Int)(hb:b≠0):bw .rem kd (kN K a) (kN K b) h k=k (kN K (a.tmod b)) h:=by
 show dO (bif oQ K K then (bif vR b 0 then _ else _) else _) _=_; rw[FN,OA,de hb]; rfl
def vA(kd:Nat)(a b:List UInt8)(hl:a.length+b.length<=4611686018427387904):bw .add kd (kS a) (kS b) h k=k (kS (a++b)) h:=by
 show dO (bif Nat.ble (Nat.add (fw a) (fw b)) 4611686018427387904 then _ else _) _=_;rw[pU,pU,show Nat.ble (a.length.add b.length) 4611686018427387904=true from oK hl]; rfl
def Yl(kd:Nat)(a b:List UInt8):bw .eql kd (kS a) (kS b) h k=k (kB (decide (a=b))) h:=by
 show k (kB (yO a b)) h=_;rw[Xv]
 congr 4
 by_cases e:a=b
 ·subst e; simp
 ·rw[de e]; simp[e]
def qPK(kd:Nat)(a b:List UInt8):bw .neq kd (kS a) (kS b) h k=k (kB (!decide (a=b))) h:=by
 show k (kB (!yO a b)) h=_;rw[Xv]
 congr 5
 by_cases e:a=b
 ·subst e; simp
 ·rw[de e]; simp[e]
def oP(b:Bool)(x y:Option β):cY (kB b) x y=if b=true then x else y:=by cases b <;> rfl
def CO(A:(bt->bm->Option β)->Option β):bo (kB true) true A h k=A k:=id rfl
def XT(A:(bt->bm->Option β)->Option β):bo (kB false) false A h k=A k:=id rfl
def XO(A:(bt->bm->Option β)->Option β):bo (kB true) false A h k=k .undef h:=id rfl
def Ci(A:(bt->bm->Option β)->Option β):bo (kB false) true A h k=k .undef h:=id rfl
def oc(x y:Option β):cY (kB true) x y=x:=id rfl
def mN(x y:Option β):cY (kB false) x y=y:=id rfl
def Yt(w:Bool)(A:(bt->bm->Option β)->Option β):bo .undef w A h k=k .undef h:=id rfl
def UJ(b:Bool):bQ O (.un .not (.k (kB b))) h d k=k (kB (!b)) h:=id rfl
def qRa(K:IntKind)(a:Int):bQ O (.un .neg (.k (kN K a))) h d k=k (kN K (K.wrap (0 - a))) h:=id rfl
def zp(a b:bt):bQ O (.pick (.k (kB true)) (.k a) (.k b)) h d k=k a h:=id rfl
def zb(a b:bt):bQ O (.pick (.k (kB false)) (.k a) (.k b)) h d k=k b h:=id rfl
def oW(s:List UInt8):cP O 0 (kS s) h d k=k (kI (s.length:Int)) h:=by
 show k (kI (.ofNat (fw s))) h=_; rw[pU]; rfl
def qTU:cP O 2 (.v (.c (.p .bq))) h d k=k (kI 0) h:=id rfl
def ZQ(sz:Nat)(t:Bool)(rows:List (List bL)):cP O 2 (.v (.c (.p (.slice sz t rows)))) h d k=k (kI (rows.length:Int)) h:=by
 show k (kI (.ofNat (fw rows))) h=_; rw[pU]; rfl
def qHJ(sz:Nat)(rows:List (List bL))(r:Ref):cP O 2 (.v (.c (.gm sz rows r))) h d k=k (kI (rows.length:Int)) h:=by
 show k (kI (.ofNat (fw rows))) h=_; rw[pU]; rfl
def vH(s:List UInt8)(n:Nat)(b:UInt8)(hb:s[n]?=some b):eX (kS s) (kI (n:Int)) h k=k (kU b) h:=by
 show dO (lC s n) _=_; rw[AW,hb]; rfl
def tp(vs:List cN)(i:Nat)(v:cN)(hv:vs[i]?=some v):fV (.dq vs) i h k=k (.v v) h:=by
 show dO (lC vs i) _=_; rw[AW,hv]
def FQ(K A:IntKind)(a:Int):gI K (kN A a) h k=k (kN K (K.wrap a)) h:=by rw[<- FO]; rfl
def gV(c:cN)(k:cN->Option β):bI (.v c) k=k c:=id rfl
def jZ(z:Int)(h1 : -9223372036854775808<=z)(A:z<=9223372036854775807):IntKind.i64.wrap z=z:=Sa .i64 z h1 A
def Hm(z:Int)(h1:0<=z)(A:z<=18446744073709551615):IntKind.u64.wrap z=z:=Sa .u64 z h1 A
def DF(s:List UInt8)(l u:Nat)(h1:l<=u)(A:u<=s.length):bQ O (.slice 0 true (.k (kS s)) (some (.k (kI (l:Int)))) (some (.k (kI (u:Int)))) none) h d k=k (kS ((s.take u).drop l)) h:=by
 show dO (Option.map (λc=>cA.pure (.v (.c c))) (fW 0 true (.p (.str s)) (some l) (some u) none)) _=_;have:fW 0 true (.p (.str s)) (some l) (some u) none=some (.p (.str ((s.take u).drop l))):=by
  simp only[fW];simp[h1,A]
 rw[this]; rfl
def Vc(s:List UInt8)(l:Nat)(A:l<=s.length):bQ O (.slice 0 true (.k (kS s)) (some (.k (kI (l:Int)))) none none) h d k=k (kS (s.drop l)) h:=by
 show dO (Option.map (λc=>cA.pure (.v (.c c))) (fW 0 true (.p (.str s)) (some l) none none)) _=_;have:fW 0 true (.p (.str s)) (some l) none none=some (.p (.str (s.drop l))):=by
  simp only[fW];simp[A]
 rw[this]; rfl
def XI(s:List UInt8)(u:Nat)(A:u<=s.length):bQ O (.slice 0 true (.k (kS s)) none (some (.k (kI (u:Int)))) none) h d k=k (kS (s.take u)) h:=by
 show dO (Option.map (λc=>cA.pure (.v (.c c))) (fW 0 true (.p (.str s)) none (some u) none)) _=_;have:fW 0 true (.p (.str s)) none (some u) none=some (.p (.str (s.take u))):=by
  simp only[fW];simp[A]
 rw[this]; rfl
noncomputable def bm.own(h:bm)(d g:Nat)(o:bG):bm:={ h with cW:=h.cW.set (g,o) d }
def bm.cC(h:bm)(d g:Nat)(o:bG)(hd:d+1<1048576)(ho:o ≠ .dead):(h.own d g o).get (.own d g)=some o:=by
 unfold bm.own bm.get;simp only[TM.iE (g,o) h.cW d hd];rw[pN,cI rfl];cases o <;> first|rfl|exact absurd rfl ho
def bm.bN(h:bm)(d g:Nat)(o:bG)(e A:Nat)(hd:d≠e):(h.own d g o).get (.own e A)=h.get (.own e A):=by
 unfold bm.own bm.get;simp only[TM.ez (g,o) h.cW d e hd]
def bm.zx(h:bm)(d g:Nat)(o:bG)(i:Nat):(h.own d g o).get (.im i)=h.get (.im i):=rfl
def bm.Bh(h:bm)(d g:Nat)(o:bG)(hd:d+1<1048576):(h.own d g o).gen d=g:=by
 unfold bm.own bm.gen;simp only[TM.iE (g,o) h.cW d hd]
def bm.um(h:bm)(d g:Nat)(o:bG)(e:Nat)(hd:d≠e):(h.own d g o).gen e=h.gen e:=by
 unfold bm.own bm.gen;simp only[TM.ez (g,o) h.cW d e hd]
def bm.rf(h:bm)(d g:Nat)(o:bG):h.put (.own d g) o=h.own d g o:=rfl
def He(z:List Cell):bQ O (.alloc z false) h d k=k (.v (.c (.ptr (.own d (h.gen d+1)) 0))) (h.own d (h.gen d+1) (.cells z 0)):=rfl
def qMh(s:List UInt8):bQ O (.ng (.k (kS s))) h d k=k (.v (.c (.ptr (.own d (h.gen d+1)) 0))) (h.own d (h.gen d+1) (.gO s 0)):=rfl
def JD(f:Ref->Option bG)(r:Ref):[r].mapM f=(f r).map λo=>[o]:=by
 rw[ek,gg]; cases f r <;> rfl
def qGW(s:List UInt8)(pos:Nat)(r:Ref)(A:h.get r=some (.gO s pos))(hp:pos<s.length) :
  bQ O (.mD (.k (.v (.c (.ptr r 0))))) h d k=k (.dq [.c (.p (.bool true)),.c (.p (.int .i64 (pos:Int))),.c (.p (.int .i32 ((mj s pos).1:Int)))]) (h.put r (.gO s (pos+(mj s pos).2))):=by
 show Ck O (.mD (.k (.v (.c (.ptr r 0))))) .nil h d k=_;rw[CK];have:ib O (.mD (.k (.v (.c (.ptr r 0))))) .nil h d=some (.dq [.c (.p (.bool true)),.c (.p (.int .i64 (pos:Int))),.c (.p (.int .i32 ((mj s pos).1:Int)))],h.put r (.gO s (pos+(mj s pos).2))):=by
  unfold ib;show((cA.write r _).exec O d h).map _=_;rw[qEw,A];show(Option.map _ (if pos<s.length then _ else _))=_;rw[bF hp]; rfl
 rw[this]; rfl
def qHr(s:List UInt8)(pos:Nat)(r:Ref)(A:h.get r=some (.gO s pos))(hp:¬ pos<s.length) :
  bQ O (.mD (.k (.v (.c (.ptr r 0))))) h d k=k (.dq [.c (.p (.bool false))]) (h.put r (.gO s pos)):=by
 show Ck O (.mD (.k (.v (.c (.ptr r 0))))) .nil h d k=_;rw[CK];have:ib O (.mD (.k (.v (.c (.ptr r 0))))) .nil h d=some (.dq [.c (.p (.bool false))],h.put r (.gO s pos)):=by
  unfold ib;show((cA.write r _).exec O d h).map _=_;rw[qEw,A];show(Option.map _ (if pos<s.length then _ else _))=_;rw[bA hp]; rfl
 rw[this]; rfl
def Yc(n:Nat)(r:Ref)(off imm:Nat)(cs:List Cell)(x:cN)(A:h.get r=some (.cells cs imm))(hi:imm<=off)(hn:x.cells.length=n)(hl:off+n<=cs.length) :
  bK n (.v (.c (.ptr r off))) (.v x) h k=k .undef (h.put r (.cells (eY cs off x.cells) imm)):=by
 show dO (qG h r) (λo=>cellsOf o λcs imm=>bif Nat.ble imm off&&(Nat.beq (fw x.cells) n&&Nat.ble (Nat.add off n) (fw cs)) then _ else _)=_;rw[FL,A];show(bif Nat.ble imm off&&(Nat.beq (fw x.cells) n&&Nat.ble (off+n) (fw cs)) then _ else _)=_;rw[pU,pU,hn,show Nat.ble imm off=true from oK hi,show Nat.ble (off+n) cs.length=true from oK hl,pN,cI rfl]; rfl
def qIn(n:Nat)(r:Ref)(off imm:Nat)(cs:List Cell)(A:h.get r=some (.cells cs imm))(hc:((cs.drop off).take n).length=n):bz true n (.v (.c (.ptr r off))) h k=k (.v (.agg ((cs.drop off).take n))) h:=by
 show dO (qG h r) (λo=>cellsOf o λcs _=>mT true n cs off λv=>k v h)=_;rw[FL,A];show(bif Nat.beq (fw (qc (qo cs off) n)) n then _ else _)=_;rw[pU,Sn,So,hc,pN,cI rfl]; rfl
def qQm(n:Nat)(r:Ref)(off imm:Nat)(cs:List Cell)(k:cN->dA)(A:h.get r=some (.cells cs imm))(hc:((cs.drop off).take n).length=n):cJ true n (.v (.c (.ptr r off))) h k=k (.agg ((cs.drop off).take n)):=by
 show dO (qG h r) (λo=>cellsOf o λcs _=>mT true n cs off λv=>bI v k)=_;rw[FL,A];show(bif Nat.beq (fw (qc (qo cs off) n)) n then _ else _)=_;rw[pU,Sn,So,hc,pN,cI rfl]; rfl
def qHZ(off o:Nat)(r:Ref):bC off (.v (.c (.ptr r o))) h k=k (.v (.c (.ptr r (o+off)))) h:=id rfl
def qLn(off o:Nat)(row:List bL):bC off (.v (.c (.p (.dc row o)))) h k=k (.v (.c (.p (.dc row (o+off))))) h:=id rfl
def Vh(sz:Nat)(t:Bool)(rows:List (List bL))(n:Nat)(row:List bL)(A:rows[n]?=some row):bU sz (.v (.c (.p (.slice sz t rows)))) (kI (n:Int)) h k=k (.v (.c (.p (.dc row 0)))) h:=by
 show(bif Nat.beq sz sz then dO (lC rows n) _ else _)=_;rw[pN,cI rfl,AW,A]; rfl
def qNn(n off:Nat)(row:List bL)(v:bL)(hv:row[off]?=some v):bz false n (.v (.c (.p (.dc row off)))) h k=k (.v (.c (.p v))) h:=by
 show dO (lC (bp row) off) _=_;rw[AW];show dO ((row.map Cell.p)[off]?) _=_;rw[dP,hv]; rfl
def Cg(n d g:Nat)(h:bm)(cs A:List Cell)(k:bm->cN->dA)(U:h.get (.own d g)=some (.cells cs 0))(hd:d+1<1048576)(h1:cs.length=n)(M:A.length=n) :
  bK n (.v (.c (.ptr (.own d g) 0))) (.v (.agg A)) h (λ_ h=>cJ true n (.v (.c (.ptr (.own d g) 0))) h (k h))=k (h.own d g (.cells A 0)) (.agg A):=by
 rw[Yc n (.own d g) 0 0 cs (.agg A) U (cB _) M bn];have e:eY cs 0 A=A:=by
  unfold eY;simp[M,<- h1]
 show cJ true n _ (h.put (.own d g) (.cells (eY cs 0 A) 0)) (k (h.put (.own d g) (.cells (eY cs 0 A) 0)))=_;rw[e,bm.rf,qQm n (.own d g) 0 0 A _ (bm.cC h d g _ hd cb) (by simp[M])];simp[<- M]
def qg(op:jE)(v:bt)(hb:cH .nil op=some (.pure v)):bQ O op h d k=k v h:=by
 show Ck O op .nil h d k=_;rw[CK];have:ib O op .nil h d=some (v,h):=by
  unfold ib;rw[hb]; rfl
 rw[this]; rfl
def DB(z:List Cell)(ps:List (Nat×Nat×X))(cs:List Cell)(hb:cH .nil (.build z ps)=some (.pure (.v (.agg cs)))):bQ O (.build z ps) h d k=k (.v (.agg cs)) h:=qg _ _ hb
def j6(g:FuncId)(as:List bt)(v:bt)(A:iG pT as=true)(ho:O g as []=some (v,[]))(hv:pT v=true):bE O (.v (.c (.func g []))) as h d k=k v h:=by
 show mG O g as d h k=_;unfold mG;rw[A,iv,ho];show(bif pT v then k v h else _)=_;rw[hv]; rfl
def qGg(g:FuncId)(as:List bt)(v:bt)(h1:as.map bt.strip=as)(A:as.flatMap bt.refs=[])(M:∀ σ,as.map (bt.eB σ)=as)(ho:O g as []=some (v,[]))(hv:pT v=true):bE O (.v (.c (.func g []))) as h d k=k v h:=by
 show mG O g as d h k=_;rw[Ov];have:dE O g as d h=some (v,h,{ rd:=[],wr:=[],oU:=false }):=by
  obtain⟨_,_,q3,_⟩:=zq hv;unfold dE;simp[h1,A,reach,cw,M,ho,q3,fu];rfl
 rw[this]; rfl
def mz(gU:Bool)(vs:List cN)(hv:iG ld vs=true):bS gU 0 vs h=some (oneOf vs,[]):=by
 show(bif iG ld vs then _ else _)=_;rw[hv]; rfl
end
section
variable {β:Type} {O:bD} {h:bm} {d:Nat} {k:bt->bm->Option β}
abbrev OR:bt:=.v (.c (.p .bq))
abbrev j7(sz:Nat)(t:Bool)(rows:List (List bL)):bt:=.v (.c (.p (.slice sz t rows)))
def ma(D:List Nat)(sz:Nat)(v:Cell)(rows:List (List bL))(h:bm):Prop :=
 (rows=[]/\v = .p .bq)\/(rows≠[]/\∃ e g,e∈D/\v = .gm sz rows (.own e g)/\h.get (.own e g)=some (.cells [] 0))
def iq(sz:Nat)(rows:List (List bL)):bL:=match rows with
 |[]=>.bq
 |rows=>.slice sz false rows
def ma.nil(D:List Nat)(sz:Nat)(h:bm):ma D sz (.p .bq) [] h:=.inl ⟨rfl,rfl⟩
def ma.dY{D:List Nat}{sz:Nat}{v:Cell}{rows:List (List bL)}{h h':bm}(G:ma D sz v rows h)(A:∀ e∈D,∀ g,h.get (.own e g)=some (.cells [] 0)->h'.get (.own e g)=some (.cells [] 0)):ma D sz v rows h':=by
 rcases G with ⟨a,b⟩|⟨a,e,g,m,b,c⟩
 ·exact .inl ⟨a,b⟩
 ·exact .inr ⟨a,e,g,m,b,A _ m _ c⟩
def ma.own{D:List Nat}{sz:Nat}{v:Cell}{rows:List (List bL)}{h:bm}(G:ma D sz v rows h){d:Nat}(g:Nat)(o:bG)(hd:d∉D):ma D sz v rows (h.own d g o) :=
 G.dY λe he A M=>(bm.bN h d g o e A (λx=>hd (x▸he))).trans M
def qFb{D:List Nat}{sz:Nat}{v:Cell}{rows:List (List bL)}(G:ma D sz v rows h):cP O 2 (.v (.c v)) h d k=k (kI (rows.length:Int)) h:=by
 rcases G with ⟨rfl,rfl⟩|⟨_,e,g,_,rfl,_⟩
 ·rfl
 ·exact qHJ _ _ _
def iM(s:List UInt8):List (List bL):=s.map λb=>[.int .u8 (b.toNat:Int)]
def qFH:∀ s:List UInt8,fP (iM s)=some s:=by
 intro s
 induction s with
 |nil=>rfl
 |cons b s A =>
  show(fP (iM s)).map (UInt8.ofNat ((b.toNat:Int)).toNat::·)=_;rw[A];simp
def qLo{D:List Nat}{v:Cell}{s:List UInt8}(G:ma D 1 v (iM s) h):bQ O (.toStr (.k (.v (.c v)))) h d k=k (kS s) h:=by
 rcases G with ⟨a,rfl⟩|⟨_,e,g,_,rfl,_⟩
 ·have:s=[]:=by simpa [iM] using a
  subst this; rfl
 ·refine qg _ _ ?_;show(fP (iM s)).map _=_;rw[qFH]; rfl
def qIz{D:List Nat}{sz:Nat}{v:Cell}{rows:List (List bL)}(x:bL)(G:ma D sz v rows h):bS true 0 [.c v,.c (.p x)] h=some (.dq [.c (.p (iq sz rows)),.c (.p x)],[]):=by
 rcases G with ⟨rfl,rfl⟩|⟨A,e,g,_,rfl,_⟩
 ·rfl
 ·letI:Sym:=⟨λ_=>0⟩
  rw[JI];unfold qH;have:iq sz rows = .slice sz false rows:=by cases rows with
   |nil=>exact absurd rfl A
   |cons _ _=>rfl
  rw[this];simp[oneOf,iF,fJ,freeze,eA,settle,reach,cw,bY,bt.refs,cN.refs,Cell.refs,bt.eB,cN.eB,Cell.eB]
def Ya(sz:Nat):∀ (rows:List (List bL)),(∀ r∈rows,r.length=sz)->chunk sz rows.length (bp rows.flatten)=some rows:=by
 intro rows
 induction rows with
 |nil=>intro _; rfl
 |cons r rows A =>
  intro h;have M:=h r bR;have U:(bp (r::rows).flatten).take sz=bp r:=by
   unfold bp; rw[<- mK]; simp[<- M]
  have e2:(bp (r::rows).flatten).drop sz=bp rows.flatten:=by
   unfold bp; rw[<- mJ]; simp[<- M]
  have e3:tY (bp r)=some r:=by
   unfold tY bp;clear M U e2 A h
   induction r with
   |nil=>rfl
   |cons a r A=>rw[dr,ek,A]; rfl
  show(do let row <- tY ((bp (r::rows).flatten).take sz); if row.length=sz then pure (row::(<- chunk sz rows.length ((bp (r::rows).flatten).drop sz))) else none)=_;rw[U,e2,e3,A (λq hq=>h q (by simp[hq]))];simp[M]
def qDu{D:List Nat}{sz by':Nat}{v:Cell}{rows new:List (List bL)}(t:Bool)(G:ma D sz v rows h)(hD:d∈D)(hn:new≠[])(kJ:∀ r∈new,r.length=sz)(hb:(rows.length+new.length)*by'<=1099511627776)(hd:d+1<1048576) :
  ∃ M h',ma D sz M (rows++new) h'/\(∀ (β:Type) (O:bD) (k:bt->bm->Option β),bQ O (.append sz by' false (.k (.v (.c v))) (.k (j7 sz t new))) h d k=k (.v (.c M)) h') /\
   (∀ e g o,e≠d->h.get (.own e g)=some o->o ≠ .cells [] 0->h'.get (.own e g)=some o):=by
 have aa:new.length≠0:=by simpa using hn
 have A:∀ (O:bD) (M:bt) (h':bm),(cH .nil (.append sz by' false (.k (.v (.c v))) (.k (j7 sz t new)))).bind (λp=>(p.exec O d h).map λx=>(x.1,x.2.1))=some (M,h') ->
   ∀ (β:Type) (k:bt->bm->Option β),bQ O (.append sz by' false (.k (.v (.c v))) (.k (j7 sz t new))) h d k=k M h':=by
  intro O M h' e β k;show Ck O _ .nil h d k=_;rw[CK];show(Option.bind (Option.bind _ _) _)=_;rw[e]; rfl
 have gr:∀ kC,jo sz by' rows (bp new.flatten) new.length kC=some ⟨λr=>.v (.c (.gm sz (rows++new) r)),kC,some (.cells [] 0),false⟩:=by
  intro kC;unfold jo;rw[Ya sz new kJ];dsimp only;rw[bF bn]
 rcases G with ⟨rfl,rfl⟩|⟨ab,e,g,_,rfl,U⟩
 ·refine⟨.gm sz new (.own d (h.gen d+1)),h.own d (h.gen d+1) (.cells [] 0),.inr ⟨hn,d,_,hD,rfl,bm.cC h d _ _ hd cb⟩,λβ O k=>A O _ _ ?_ β k,λe g o he ho _=>(bm.bN h d _ _ e g (oC he)).trans ho⟩;have ea:ee sz by' false OR none (bp new.flatten) new.length=some ⟨λr=>.v (.c (.gm sz ([]++new) r)),[],some (.cells [] 0),false⟩:=by
   unfold ee;rw[bA aa];exact gr []
  show((cA.go [] _).exec O d h).map _=_;simp only[cA.exec,fN,gg,rM,dw,gf,hU,jb];simp only[fx,rL,eG,ea];rfl
 ·have ad:(h.put (.own e g) .dead).gen d=(if e=d then g else h.gen d):=by
   show(h.own e g .dead).gen d=_;split
   ·rename_i U; subst U; exact bm.Bh h e g _ hd
   ·rename_i U; exact bm.um h e g _ d U
  refine⟨.gm sz (rows++new) (.own d (h.gen d+1)),(h.put (.own e g) .dead).own d (h.gen d+1) (.cells [] 0),.inr ⟨by simp[ab],d,_,hD,rfl,bm.cC _ d _ _ hd cb⟩,λβ O k=>A O _ _ ?_ β k,λe' g' o he ho hx=>?_⟩
  ·have ea:ee sz by' false (.v (.c (.gm sz rows (.own e g)))) (some (.cells [] 0)) (bp new.flatten) new.length=some ⟨λr=>.v (.c (.gm sz (rows++new) r)),[(.own e g,.dead)],some (.cells [] 0),false⟩:=by
    unfold ee;rw[bA aa];show(if sz=sz then jo sz by' rows (bp new.flatten) new.length [(.own e g,.dead)] else none)=_;rw[bF rfl];exact gr _
   show((cA.go [.own e g] _).exec O d h).map _=_;simp only[cA.exec,fN,JD,U,iO,dw,gf,hU,jb];simp only[fx,rL,eG,ea];simp;rfl
  ·refine(bm.bN _ d _ _ e' g' (oC he)).trans ?_;show(h.own e g .dead).get (.own e' g')=some o;by_cases e1:e=e'
   ·subst e1;exfalso
    letI:Sym:=⟨λ_=>0⟩
    have h1:=(bm.je U);have h2:=(bm.je ho);obtain⟨a1,b1⟩:=h1;obtain⟨a2,b2⟩:=h2;rw[b1] at b2;simp only[rJ,fB] at b2;exact hx b2.2.symm
   ·exact(bm.bN h e g _ e' g' e1).trans ho
end
def gD{S:bD}{W:n9}{f:FuncId}{args:List bt}{A:List bG}(hs:S f args A=none):r8 S W f args A=W f A.length 0 args { bY:=A,cW:=.nil }:=by
 show Option.rec (motive:=λ_=>dA) _ some (S f args A)=_;rw[hs,<- pU]
def tU(r:dA)(x:Bool):Bool:=match r with
 |some (.v (.c (.p (.bool y))),[])=>y==x
 |_=>false
def qGd{r:dA}{x:Bool}(h:tU r x=true):r=some (kB x,[]):=by
 unfold tU at h;split at h
 ·simp only[beq_iff_eq] at h; subst h; rfl
 ·cases h
def Sg{T:FuncId->Option cg}{D:FuncId->Option eL}{S:bD}(A:WX T D){f:FuncId}{p:Nat->Bool}{N:Nat}(h:((List.range 256).all λn=>tU (rq D S N f 0 0 [kN .u8 (.ofNat n)] h0) (p n))=true)(b:UInt8) :
  ca T S f 0 0 [kU b] h0=some (kB (p b.toNat),[]) :=
 Oy A N f 0 0 _ _ _ (qGd (qIv h (Ax b)))
def qHT{T:FuncId->Option cg}{D:FuncId->Option eL}{S:bD}(A:WX T D){f:FuncId}{p:Nat->Bool}{N:Nat}{av:Nat->List bt}(h:((List.range 256).all λn=>tU (rq D S N f 0 0 (av n) h0) (p n))=true)(b:UInt8) :
  ca T S f 0 0 (av b.toNat) h0=some (kB (p b.toNat),[]) :=
 Oy A N f 0 0 _ _ _ (qGd (qIv h (Ax b)))
def qH2(s:List UInt8)(pos:Nat)(b:UInt8)(hb:s[pos]?=some b)(A:b.toNat<128):mj s pos=(b.toNat,1):=by
 obtain⟨hp,e⟩:=cQ.1 hb;have M:(ByteArray.get! ⟨s.toArray⟩ pos)=b:=by
  show(s.toArray)[pos]! = b;rw[getElem!_pos s.toArray pos (by simpa using hp)]
  simpa using e
 unfold mj Utf8.decode;have h1:(ByteArray.get! ⟨s.toArray⟩ (pos+0)).toNat=b.toNat:=by rw[gH,M]
 simp only[h1,bF A]
def ZO(d:Nat):h0.gen d=0:=rfl
def allI(w:World):eK:=⟨λb o=>w.cell? ⟨b,o,none⟩,λ_=>none⟩
def DX(k:IntKind)(o:Option (List Int)):bL:=match o with
 |none=>.bq
 |some l=>.slice 1 false (l.map λn=>[.int k n])
def rv(o:Option (List Int)):List Int:=o.getD []
section
variable [Sym] {H:Type} {enc:TypeId×Value->H} {P:Program} {w:World} {spare:Nat->Bool} {held:Bool} {r:Reach} {b0:Nat}
def qOx{w:World}{a:Addr}{v:Value}(h:w.cell? a=some v):a.spot=none:=by
 unfold World.cell? at h;split at h
 ·split at h
  ·cases h
  ·rename_i hs; cases hx:a.spot with
   |none=>rfl
   |some _=>rw[hx] at hs; simp at hs
 ·cases h
def qL8{H:Type}{enc:TypeId×Value->H}{P:Program}{f:Func}{s:ChangeSpec}{apart fresh handsOn:Bool}{W U:World}{args:Array Value}{v:Value}{ds gs:List (DataW H)}{before pa pv:List MemPlace}
  (hW:DataW.Whole enc P f.params.toList s.vars apart W args.toList ds gs before)
  (aa:∀ (b:Nat) (sp:Nat->Bool) (hd:Bool),DataW.TrodAll enc P U b sp hd f.resultTypes.toList (v.resultList f.resultTypes.size) (s.fn H (ds++gs)).results [])
  (A:DataW.TrodAll enc P U 0 (λb=>decide (b<W.heap.size)) true f.params.toList args.toList (s.fn H (ds++gs)).args pa)
  (M:∀ sp:Nat->Bool,(∀ p∈before,sp p.block=true)->DataW.TrodVars enc P U sp s.vars (s.fn H (ds++gs)).vars pv)
  (ab:before=pa++pv) (hk:Below W.heap.size W U) :
  s.post enc P f apart fresh handsOn false W args v U:=by
 have hold:∀ p∈before,(λb=>decide (b<W.heap.size)) p.block=true:=λp hp=>by simpa using hW.lt p hp
 refine⟨ds,gs,before,[],pa,pv,hW,aa _ _ _,A,M _ hold,World.keptBut_mono (λp hp=>⟨hp,?_⟩) (hk.frame (·∈before)),cb⟩;rw[ab,fb] at hp;exact Or.inr hp
def qbh{P:Program}{laid:List (String×DataW Unit)}{ts:List qT}{o:Option Nat}{w:World}(hl:laidMet P laid w)(A:∀ t∈ts,xX P laid t)(ho:∀ g,o=some g->w.cell? ⟨g,0,none⟩=some (.int .i64 (Sym.num 63))):nv (jV ts o) (allI w) :=
 nv.mono ⟨qWn hl A ho,λb e x=>by cases x⟩ (qS7 ts o)
def qRR{P:Program}{G:Nat->Option (List bL)}{T:FuncId->Option cg}{S:bD}(hm:P.follows .mixedOrders=true)(U:Cy P G T)(hS:gN P G S){f:FuncId}{args:List bt}{A:List bG}(h:r8 S (ca T S) f args []=some (.pv (.bool true),A)){w:World}(hG:nv G (allI w))
  {M:Array Value} (ha:cS (fq qm (allI w)) args M.toList):Calls P f M w λe w'=>e = .returned (.bool true)/\Below w.heap.size w w' :=
 qSb hm U hS h hG (λ_ _ _ e=>e) (λ_ _ _ e=>by cases e) ha
end
def Lw(sz:Nat)(v:Cell)(rows:List (List bL))(h:bm):Prop :=
 (rows=[]/\v = .p .bq)\/(rows≠[]/\∃ n,v = .cf (.im n) 0 rows.length none sz/\h.get (.im n)=some (.cells (bp rows.flatten) 0))
def Lw.nil(sz:Nat)(h:bm):Lw sz (.p .bq) [] h:=.inl ⟨rfl,rfl⟩
noncomputable section
inductive An where
 |n
 |s (a b:An)
 |k (a:An)
 |l (l:Nat) (live:List Nat) (a:An)
 |m (l:Nat) (live:List Nat) (a:An)
abbrev nJ(c:eo):MC:=eo.rec (motive:=λ_=>MC) .skip (λops ps=>.yd ops ps) (λ_ _ a b=>.seq a b) (λc _ _ a b=>.cond c a b) (λid _ b=>.block id b) (λ_ b=>.loop 0 [] b) (λid=>.exit id) (λ_ b=>.scope b) .ret .bad c
def qI1(c:eo):(nJ c).erase=c:=by
 induction c with
 |skip=>rfl
 |yd ops ps=>rfl
 |seq a b A hb=>show eo.seq (nJ a).erase (nJ b).erase=_; rw[A,hb]
 |cond c a b A hb=>show eo.cond c (nJ a).erase (nJ b).erase=_; rw[A,hb]
 |block id b hb=>show eo.block id (nJ b).erase=_; rw[hb]
 |loop b hb=>show eo.loop (nJ b).erase=_; rw[hb]
 |exit id=>rfl
 |scope b hb=>show eo.scope (nJ b).erase=_; rw[hb]
 |ret=>rfl
 |bad=>rfl
abbrev qn(U:An):eo->MC:=An.rec (motive:=λ_=>eo->MC) (λc=>nJ c)
 (λ_ _ A M c=>eo.casesOn (motive:=λ_=>MC) c (nJ .skip) (λo p=>.yd o p) (λa b=>.seq (A a) (M b)) (λx a b=>.cond x (A a) (M b)) (λid b=>.block id (nJ b)) (λb=>.loop 0 [] (nJ b)) (λid=>.exit id) (λb=>.scope (nJ b)) .ret .bad)
 (λ_ A c=>eo.casesOn (motive:=λ_=>MC) c (nJ .skip) (λo p=>.yd o p) (λa b=>.seq (nJ a) (nJ b)) (λx a b=>.cond x (nJ a) (nJ b)) (λid b=>.block id (A b)) (λb=>.loop 0 [] (nJ b)) (λid=>.exit id) (λb=>.scope (A b)) .ret .bad)
 (λl live _ A c=>eo.casesOn (motive:=λ_=>MC) c (nJ .skip) (λo p=>.yd o p) (λa b=>.seq (nJ a) (nJ b)) (λx a b=>.cond x (nJ a) (nJ b)) (λid b=>.block id (nJ b)) (λb=>.loop l live (A b)) (λid=>.exit id) (λb=>.scope (nJ b)) .ret .bad)
 (λl live _ A c=>.mark l live (A c)) U
def qMF(M:An):∀ c,(qn M c).erase=c:=by
 have e:∀ c,(nJ c).erase=c:=qI1
 induction M with
 |n=>exact qI1
 |s a b A hb =>
  intro c;cases c with
  |seq x y=>show eo.seq (qn a x).erase (qn b y).erase=_; rw[A,hb]
  |cond z x y=>show eo.cond z (qn a x).erase (qn b y).erase=_; rw[A,hb]
  |block id x=>show eo.block id (nJ x).erase=_; rw[e]
  |loop x=>show eo.loop (nJ x).erase=_; rw[e]
  |scope x=>show eo.scope (nJ x).erase=_; rw[e]
  |_=>rfl
 |k a A =>
  intro c;cases c with
  |seq x y=>show eo.seq (nJ x).erase (nJ y).erase=_; rw[e,e]
  |cond z x y=>show eo.cond z (nJ x).erase (nJ y).erase=_; rw[e,e]
  |block id x=>show eo.block id (qn a x).erase=_; rw[A]
  |loop x=>show eo.loop (nJ x).erase=_; rw[e]
  |scope x=>show eo.scope (qn a x).erase=_; rw[A]
  |_=>rfl
 |l i U a A =>
  intro c;cases c with
  |seq x y=>show eo.seq (nJ x).erase (nJ y).erase=_; rw[e,e]
  |cond z x y=>show eo.cond z (nJ x).erase (nJ y).erase=_; rw[e,e]
  |block id x=>show eo.block id (nJ x).erase=_; rw[e]
  |loop x=>show eo.loop (qn a x).erase=_; rw[A]
  |scope x=>show eo.scope (nJ x).erase=_; rw[e]
  |_=>rfl
 |m i U a A=>exact A
def Kb(o:Option nd)(A:An):cg:=Option.rec (motive:=λ_=>cg) ⟨0,[],false,.bad⟩ (λF=>⟨F.np,F.res,F.gU,qn A F.body⟩) o
def OG{o:Option nd}{A:An}(h:o.isSome=true):o=some (Kb o A).erase:=by
 cases o with
 |none=>cases h
 |some F =>
  show some F=some ⟨F.np,F.res,F.gU,(qn A F.body).erase⟩;rw[qMF]
end
end Go.AI
