/- Functions of the given program as the abstract interpreter has them (part 1),printed by a program of our own; each is shown to be what 'compF' makes of the given program's. No condition. -/
import Derived.Test.YtlkejchbcchecaaDoorTabM0
namespace Go.Proofs.YtlkejchbcchecaaDoor.Ab
open Go Go.AI
noncomputable section
set_option linter.all false
set_option linter.unusedVariables false
set_option maxRecDepth 100000
def c165:MFunc:=mkM (compF Tryd.prog (globs2 tabs opq) (fun _=>false) true Tryd.f165) (.s .n (.s .n (.s .n (.m 1 [0,4] (.s .n (.s .n (.s (.s .n (.k (.l 2 [0,4,5,6] .n))) (.m 3 [0,5] .n))))))))
def b165_0(O:Oracle)(R:Jump)(q:Nat)(x0:TVal)(h:Heap):Res1 :=
 vindex x0 (kI 0) h fun x9 h =>
 vbin .eql 0 x9 (.v (.c (.p (.int .u8 45)))) h fun x10 h =>
 vif x10 (
 vop O (.slice 0 true (.k x0) (some (.k (kI 1))) none none) h 12 fun x12 h =>
 R 1 [x0,x12] h)
 (R 1 [x0,x0] h)
theorem e165_0(O:Oracle)(R:Jump)(q:Nat)(x0:TVal)(h:Heap):b165_0 O R q x0 h=stepF c165 O R q 0 [x0] h:=by kernel_rfl
def b165_1(O:Oracle)(R:Jump)(q:Nat)(x0 x4:TVal)(h:Heap):Res1 :=
 vlen O 0 x4 h 14 fun x14 h =>
 vbin .gtr 0 x14 (kI 19) h fun x15 h =>
 vif x15 (
 tcomp (kI 0) fun c0=>tcomp (kI 4) fun c1=>vfin true q [c0,c1] h)
 (R 2 [x0,x4,(.v (.c (.p (.int .u64 0)))),(kI 0)] h)
theorem e165_1(O:Oracle)(R:Jump)(q:Nat)(x0 x4:TVal)(h:Heap):b165_1 O R q x0 x4 h=stepF c165 O R q 1 [x0,x4] h:=by kernel_rfl
def b165_2(O:Oracle)(R:Jump)(q:Nat)(x0 x4 x5 x6:TVal)(h:Heap):Res1 :=
 vlen O 0 x4 h 18 fun x18 h =>
 vbin .lss 0 x6 x18 h fun x19 h =>
 vif x19 (
 vbin .mul 0 x5 (.v (.c (.p (.int .u64 10)))) h fun x23 h =>
 vindex x4 x6 h fun x26 h =>
 vbin .sub 0 x26 (.v (.c (.p (.int .u8 48)))) h fun x27 h =>
 vtoInt .u64 x27 h fun x28 h =>
 vbin .add 0 x23 x28 h fun x29 h =>
 vbin .add 0 x6 (kI 1) h fun x21 h =>
 R 2 [x0,x4,x29,x21] h)
 (R 3 [x0,x5] h)
theorem e165_2(O:Oracle)(R:Jump)(q:Nat)(x0 x4 x5 x6:TVal)(h:Heap):b165_2 O R q x0 x4 x5 x6 h=stepF c165 O R q 2 [x0,x4,x5,x6] h:=by kernel_rfl
def b165_3(O:Oracle)(R:Jump)(q:Nat)(x0 x5:TVal)(h:Heap):Res1 :=
 vindex x0 (kI 0) h fun x31 h =>
 vbin .eql 0 x31 (.v (.c (.p (.int .u8 45)))) h fun x32 h =>
 vif x32 (
 vbin .gtr 0 x5 (.v (.c (.p (.int .u64 9223372036854775808)))) h fun x34 h =>
 vif x34 (
 tcomp (kI 0) fun c0=>tcomp (kI 11) fun c1=>vfin true q [c0,c1] h)
 (vop O (.un .neg (.k x5)) h 36 fun x36 h =>
 vtoInt .i64 x36 h fun x37 h =>
 tcomp x37 fun c0=>tcomp (kI 0) fun c1=>vfin true q [c0,c1] h))
 (vbin .gtr 0 x5 (.v (.c (.p (.int .u64 9223372036854775807)))) h fun x39 h =>
 vif x39 (
 tcomp (kI 0) fun c0=>tcomp (kI 11) fun c1=>vfin true q [c0,c1] h)
 (vtoInt .i64 x5 h fun x41 h =>
 tcomp x41 fun c0=>tcomp (kI 0) fun c1=>vfin true q [c0,c1] h))
theorem e165_3(O:Oracle)(R:Jump)(q:Nat)(x0 x5:TVal)(h:Heap):b165_3 O R q x0 x5 h=stepF c165 O R q 3 [x0,x5] h:=by kernel_rfl
def d165:BlkF:=fun O R Q=>[.s fun a => .z (b165_0 O R Q a),.s fun a => .s fun b => .z (b165_1 O R Q a b),.s fun a => .s fun b => .s fun c => .s fun d => .z (b165_2 O R Q a b c d),.s fun a => .s fun b => .z (b165_3 O R Q a b)]
theorem o165(O:Oracle)(R:Jump)(q:Nat):HoldsAll c165 O R q 0 (d165 O R q):=⟨e165_0 O R q,e165_1 O R q,e165_2 O R q,e165_3 O R q,trivial⟩
def c166:MFunc:=mkM (compF Tryd.prog (globs2 tabs opq) (fun _=>false) true Tryd.f166) (.s .n (.s .n (.s .n (.s (.k (.l 1 [0,1,6] (.s .n (.k (.s .n (.s .n (.s .n (.s (.s .n (.k (.s .n (.m 2 [0,1,6,46,47] .n)))) (.m 3 [0,1,6] .n))))))))) .n))))
def b166_0(O:Oracle)(R:Jump)(q:Nat)(x0 x1:TVal)(h:Heap):Res1 :=
 vbin .add 0 x1 (kI 1) h fun x9 h =>
 R 1 [x0,x9,(kS [])] h
theorem e166_0(O:Oracle)(R:Jump)(q:Nat)(x0 x1:TVal)(h:Heap):b166_0 O R q x0 x1 h=stepF c166 O R q 0 [x0,x1] h:=by kernel_rfl
def b166_1(O:Oracle)(R:Jump)(q:Nat)(x0 x1 x6:TVal)(h:Heap):Res1 :=
 vlen O 0 x0 h 12 fun x12 h =>
 vbin .lss 0 x1 x12 h fun x13 h =>
 vif x13 (
 vindex x0 x1 h fun x16 h =>
 vbin .eql 0 x16 (.v (.c (.p (.int .u8 34)))) h fun x19 h =>
 vif x19 (
 vbin .add 0 x1 (kI 1) h fun x22 h =>
 tcomp x6 fun c0=>tcomp x22 fun c1=>vfin true q [c0,c1] h)
 (vbin .lss 0 x16 (.v (.c (.p (.int .u8 32)))) h fun x25 h =>
 vif x25 (
 tcomp (kS []) fun c0=>tcomp (kI (-1)) fun c1=>vfin true q [c0,c1] h)
 (vbin .neq 0 x16 (.v (.c (.p (.int .u8 92)))) h fun x28 h =>
 vif x28 (
 vbin .add 0 x1 (kI 1) h fun x33 h =>
 vop O (.slice 0 true (.k x0) (some (.k x1)) (some (.k x33)) none) h 34 fun x34 h =>
 vbin .add 0 x6 x34 h fun x35 h =>
 vbin .add 0 x1 (kI 1) h fun x37 h =>
 R 1 [x0,x37,x35] h)
 (vbin .add 0 x1 (kI 1) h fun x39 h =>
 vlen O 0 x0 h 41 fun x41 h =>
 vbin .geq 0 x39 x41 h fun x42 h =>
 vif x42 (
 tcomp (kS []) fun c0=>tcomp (kI (-1)) fun c1=>vfin true q [c0,c1] h)
 (vbin .add 0 x1 (kI 1) h fun x45 h =>
 vindex x0 x45 h fun x46 h =>
 vbin .eql 0 x46 (.v (.c (.p (.int .u8 92)))) h fun x48 h =>
 vif x48 (
 R 2 [x0,x1,x6,x46,x48] h)
 (vbin .eql 0 x46 (.v (.c (.p (.int .u8 34)))) h fun x49 h =>
 R 2 [x0,x1,x6,x46,x49] h))))))
 (tcomp (kS []) fun c0=>tcomp (kI (-1)) fun c1=>vfin true q [c0,c1] h)
theorem e166_1(O:Oracle)(R:Jump)(q:Nat)(x0 x1 x6:TVal)(h:Heap):b166_1 O R q x0 x1 x6 h=stepF c166 O R q 1 [x0,x1,x6] h:=by kernel_rfl
def b166_2(O:Oracle)(R:Jump)(q:Nat)(x0 x1 x6 x46 x47:TVal)(h:Heap):Res1 :=
 vif x47 (
 vbin .add 0 x1 (kI 1) h fun x53 h =>
 vbin .add 0 x1 (kI 2) h fun x55 h =>
 vop O (.slice 0 true (.k x0) (some (.k x53)) (some (.k x55)) none) h 56 fun x56 h =>
 vbin .add 0 x6 x56 h fun x57 h =>
 R 3 [x0,x1,x57] h)
 (vbin .eql 0 x46 (.v (.c (.p (.int .u8 110)))) h fun x59 h =>
 vif x59 (
 vbin .add 0 x6 (kS [10]) h fun x61 h =>
 R 3 [x0,x1,x61] h)
 (vbin .eql 0 x46 (.v (.c (.p (.int .u8 116)))) h fun x63 h =>
 vif x63 (
 vbin .add 0 x6 (kS [9]) h fun x65 h =>
 R 3 [x0,x1,x65] h)
 (tcomp (kS []) fun c0=>tcomp (kI (-1)) fun c1=>vfin true q [c0,c1] h)))
theorem e166_2(O:Oracle)(R:Jump)(q:Nat)(x0 x1 x6 x46 x47:TVal)(h:Heap):b166_2 O R q x0 x1 x6 x46 x47 h=stepF c166 O R q 2 [x0,x1,x6,x46,x47] h:=by kernel_rfl
def b166_3(O:Oracle)(R:Jump)(q:Nat)(x0 x1 x6:TVal)(h:Heap):Res1 :=
 vbin .add 0 x1 (kI 2) h fun x67 h =>
 R 1 [x0,x67,x6] h
theorem e166_3(O:Oracle)(R:Jump)(q:Nat)(x0 x1 x6:TVal)(h:Heap):b166_3 O R q x0 x1 x6 h=stepF c166 O R q 3 [x0,x1,x6] h:=by kernel_rfl
def d166:BlkF:=fun O R Q=>[.s fun a => .s fun b => .z (b166_0 O R Q a b),.s fun a => .s fun b => .s fun c => .z (b166_1 O R Q a b c),.s fun a => .s fun b => .s fun c => .s fun d => .s fun e => .z (b166_2 O R Q a b c d e),.s fun a => .s fun b => .s fun c => .z (b166_3 O R Q a b c)]
theorem o166(O:Oracle)(R:Jump)(q:Nat):HoldsAll c166 O R q 0 (d166 O R q):=⟨e166_0 O R q,e166_1 O R q,e166_2 O R q,e166_3 O R q,trivial⟩
def c169:MFunc:=mkM (compF Tryd.prog (globs2 tabs opq) (fun _=>false) true Tryd.f169) .n
def b169_0(O:Oracle)(R:Jump)(q:Nat)(x0:TVal)(h:Heap):Res1 :=
 vbin .geq 0 x0 (kI 10) h fun x4 h =>
 vif x4 (
 vbin .quo 0 x0 (kI 10) h fun x6 h =>
 vcall O (.v (.c (.func 169 []))) [x6] h 7 fun x7 h =>
 vbin .rem 0 x0 (kI 10) h fun x9 h =>
 vcall O (.v (.c (.func 169 []))) [x9] h 10 fun x10 h =>
 vbin .add 0 x7 x10 h fun x11 h =>
 tcomp x11 fun c0=>vfin true q [c0] h)
 (vbin .add 0 (kI 48) x0 h fun x13 h =>
 vtoInt .u8 x13 h fun x14 h =>
 vop O (.bslice 1 1 [(.p (.int .u8 0))] [(0,(.k x14))] false) h 15 fun x15 h =>
 vop O (.toStr (.k x15)) h 16 fun x16 h =>
 tcomp x16 fun c0=>vfin true q [c0] h)
theorem e169_0(O:Oracle)(R:Jump)(q:Nat)(x0:TVal)(h:Heap):b169_0 O R q x0 h=stepF c169 O R q 0 [x0] h:=by kernel_rfl
def d169:BlkF:=fun O R Q=>[.s fun a => .z (b169_0 O R Q a)]
theorem o169(O:Oracle)(R:Jump)(q:Nat):HoldsAll c169 O R q 0 (d169 O R q):=⟨e169_0 O R q,trivial⟩
def c178:MFunc:=mkM (compF Tryd.prog (globs2 tabs opq) (fun _=>false) true Tryd.f178) (.s .n (.s (.s .n (.s (.s .n (.s .n (.s .n (.s .n (.m 1 [0,5,6] .n))))) .n)) .n))
def b178_0(O:Oracle)(R:Jump)(q:Nat)(x0 x1:TVal)(h:Heap):Res1 :=
 vbin .eql 0 x1 (kI 10) h fun x11 h =>
 vif x11 (
 vbin .leq 0 (kI 0) x0 h fun x13 h =>
 vguard x13 true (fun kk=>kk x0 h) h fun x15 h =>
 vguard x13 true (fun kk=>vbin .lss 0 x15 (kI 100) h kk) h fun x16 h =>
 vop O (.pick (.k x13) (.k x16) (.k (kB false))) h 17 fun x17 h =>
 vif x17 (
 vcall O (.v (.c (.func 184 []))) [x0] h 19 fun x19 h =>
 tcomp x19 fun c0=>vfin true q [c0] h)
 (vop O (.alloc [(.p (.int .u8 0)),(.p (.int .u8 0)),(.p (.int .u8 0)),(.p (.int .u8 0)),(.p (.int .u8 0)),(.p (.int .u8 0)),(.p (.int .u8 0)),(.p (.int .u8 0)),(.p (.int .u8 0)),(.p (.int .u8 0)),(.p (.int .u8 0)),(.p (.int .u8 0)),(.p (.int .u8 0)),(.p (.int .u8 0)),(.p (.int .u8 0)),(.p (.int .u8 0)),(.p (.int .u8 0)),(.p (.int .u8 0)),(.p (.int .u8 0)),(.p (.int .u8 0)),(.p (.int .u8 0)),(.p (.int .u8 0)),(.p (.int .u8 0)),(.p (.int .u8 0))] false) h 5 fun x5 h =>
 vtoInt .u64 x0 h fun x21 h =>
 vbin .lss 0 x0 (kI 0) h fun x23 h =>
 vif x23 (
 vop O (.un .neg (.k x21)) h 25 fun x25 h =>
 R 1 [x0,x5,x25] h)
 (R 1 [x0,x5,x21] h)))
 (vtoInt .u64 x0 h fun x46 h =>
 vbin .lss 0 x0 (kI 0) h fun x49 h =>
 vcall O (.v (.c (.func 187 []))) [(.v (.c (.p .nilslice))),x46,x1,x49,(kB false)] h 50 fun x50 h =>
 vext x50 0 h fun x51 h =>
 vext x50 1 h fun x52 h =>
 tcomp x52 fun c0=>vfin true q [c0] h)
theorem e178_0(O:Oracle)(R:Jump)(q:Nat)(x0 x1:TVal)(h:Heap):b178_0 O R q x0 x1 h=stepF c178 O R q 0 [x0,x1] h:=by kernel_rfl
def b178_1(O:Oracle)(R:Jump)(q:Nat)(x0 x5 x6:TVal)(h:Heap):Res1 :=
 vcall O (.v (.c (.func 185 []))) [x6] h 27 fun x27 h =>
 vbin .add 0 (kI 1) x27 h fun x29 h =>
 vop O (.sliceA 24 1 (.k x5) (some (.k (kI 1))) (some (.k x29))) h 30 fun x30 h =>
 vcall O (.v (.c (.func 186 []))) [x30,x6] h 32 fun x32 h =>
 vbin .lss 0 x0 (kI 0) h fun x34 h =>
 vif x34 (
 vop O (.iaddrA 24 1 (.k x5) (.k (kI 0))) h 35 fun x35 h =>
 vstore 1 x35 (.v (.c (.p (.int .u8 45)))) h fun _ h =>
 vbin .add 0 (kI 1) x27 h fun x37 h =>
 vop O (.sliceA 24 1 (.k x5) none (some (.k x37))) h 38 fun x38 h =>
 vop O (.toStr (.k x38)) h 39 fun x39 h =>
 tcomp x39 fun c0=>vfin true q [c0] h)
 (vbin .add 0 (kI 1) x27 h fun x41 h =>
 vop O (.sliceA 24 1 (.k x5) (some (.k (kI 1))) (some (.k x41))) h 42 fun x42 h =>
 vop O (.toStr (.k x42)) h 43 fun x43 h =>
 tcomp x43 fun c0=>vfin true q [c0] h)
theorem e178_1(O:Oracle)(R:Jump)(q:Nat)(x0 x5 x6:TVal)(h:Heap):b178_1 O R q x0 x5 x6 h=stepF c178 O R q 1 [x0,x5,x6] h:=by kernel_rfl
def d178:BlkF:=fun O R Q=>[.s fun a => .s fun b => .z (b178_0 O R Q a b),.s fun a => .s fun b => .s fun c => .z (b178_1 O R Q a b c)]
theorem o178(O:Oracle)(R:Jump)(q:Nat):HoldsAll c178 O R q 0 (d178 O R q):=⟨e178_0 O R q,e178_1 O R q,trivial⟩
def c184:MFunc:=mkM (compF Tryd.prog (globs2 tabs opq) (fun _=>false) true Tryd.f184) .n
def b184_0(O:Oracle)(R:Jump)(q:Nat)(x0:TVal)(h:Heap):Res1 :=
 vbin .lss 0 x0 (kI 10) h fun x4 h =>
 vif x4 (
 vbin .add 0 x0 (kI 1) h fun x7 h =>
 vop O (.slice 0 true (.k (kS [48,49,50,51,52,53,54,55,56,57,97,98,99,100,101,102,103,104,105,106,107,108,109,110,111,112,113,114,115,116,117,118,119,120,121,122])) (some (.k x0)) (some (.k x7)) none) h 8 fun x8 h =>
 tcomp x8 fun c0=>vfin true q [c0] h)
 (vbin .mul 0 x0 (kI 2) h fun x10 h =>
 vbin .mul 0 x0 (kI 2) h fun x12 h =>
 vbin .add 0 x12 (kI 2) h fun x13 h =>
 vop O (.slice 0 true (.k (kS z53fdd7c2)) (some (.k x10)) (some (.k x13)) none) h 14 fun x14 h =>
 tcomp x14 fun c0=>vfin true q [c0] h)
theorem e184_0(O:Oracle)(R:Jump)(q:Nat)(x0:TVal)(h:Heap):b184_0 O R q x0 h=stepF c184 O R q 0 [x0] h:=by kernel_rfl
def d184:BlkF:=fun O R Q=>[.s fun a => .z (b184_0 O R Q a)]
theorem o184(O:Oracle)(R:Jump)(q:Nat):HoldsAll c184 O R q 0 (d184 O R q):=⟨e184_0 O R q,trivial⟩
def c185:MFunc:=mkM (compF Tryd.prog (globs2 tabs opq) (fun _=>false) true Tryd.f185) .n
def b185_0(O:Oracle)(R:Jump)(q:Nat)(x0:TVal)(h:Heap):Res1 :=
 vcall O (.v (.c (.func 193 []))) [x0] h 5 fun x5 h =>
 vcall O (.v (.c (.func 192 []))) [x5] h 6 fun x6 h =>
 none
theorem e185_0(O:Oracle)(R:Jump)(q:Nat)(x0:TVal)(h:Heap):b185_0 O R q x0 h=stepF c185 O R q 0 [x0] h:=by kernel_rfl
def d185:BlkF:=fun O R Q=>[.s fun a => .z (b185_0 O R Q a)]
theorem o185(O:Oracle)(R:Jump)(q:Nat):HoldsAll c185 O R q 0 (d185 O R q):=⟨e185_0 O R q,trivial⟩
def c186:MFunc:=mkM (compF Tryd.prog (globs2 tabs opq) (fun _=>false) true Tryd.f186) (.s .n (.s (.k (.l 1 [0,1,4] .n)) (.m 2 [0,1,4] (.s .n (.s .n (.m 3 [0,4,12] (.s .n (.m 4 [0,4,12] .n))))))))
def b186_0(O:Oracle)(R:Jump)(q:Nat)(x0 x1:TVal)(h:Heap):Res1 :=
 vlen O 2 x0 h 18 fun x18 h =>
 R 1 [x0,x1,x18] h
theorem e186_0(O:Oracle)(R:Jump)(q:Nat)(x0 x1:TVal)(h:Heap):b186_0 O R q x0 x1 h=stepF c186 O R q 0 [x0,x1] h:=by kernel_rfl
def b186_1(O:Oracle)(R:Jump)(q:Nat)(x0 x1 x4:TVal)(h:Heap):Res1 :=
 vbin .geq 0 x4 (kI 8) h fun x20 h =>
 vif x20 (
 vbin .rem 0 x1 (.v (.c (.p (.int .u64 100000000)))) h fun x22 h =>
 vtoInt .u32 x22 h fun x23 h =>
 vbin .quo 0 x1 (.v (.c (.p (.int .u64 100000000)))) h fun x25 h =>
 vbin .quo 0 x23 (.v (.c (.p (.int .u32 10000)))) h fun x27 h =>
 vbin .rem 0 x23 (.v (.c (.p (.int .u32 10000)))) h fun x29 h =>
 vbin .quo 0 x29 (.v (.c (.p (.int .u32 100)))) h fun x31 h =>
 vbin .mul 0 x31 (.v (.c (.p (.int .u32 2)))) h fun x32 h =>
 vbin .rem 0 x29 (.v (.c (.p (.int .u32 100)))) h fun x34 h =>
 vbin .mul 0 x34 (.v (.c (.p (.int .u32 2)))) h fun x35 h =>
 vbin .quo 0 x27 (.v (.c (.p (.int .u32 100)))) h fun x37 h =>
 vbin .mul 0 x37 (.v (.c (.p (.int .u32 2)))) h fun x38 h =>
 vbin .rem 0 x27 (.v (.c (.p (.int .u32 100)))) h fun x40 h =>
 vbin .mul 0 x40 (.v (.c (.p (.int .u32 2)))) h fun x41 h =>
 vbin .sub 0 x4 (kI 1) h fun x44 h =>
 vbin .sub 0 x4 (kI 2) h fun x47 h =>
 vbin .add 0 x35 (.v (.c (.p (.int .u32 1)))) h fun x49 h =>
 vindex (kS z53fdd7c2) x49 h fun x50 h =>
 vindex (kS z53fdd7c2) x35 h fun x52 h =>
 viaddr 1 x0 x44 h fun x53 h =>
 vstore 1 x53 x50 h fun _ h =>
 viaddr 1 x0 x47 h fun x54 h =>
 vstore 1 x54 x52 h fun _ h =>
 vbin .sub 0 x4 (kI 3) h fun x57 h =>
 vbin .sub 0 x4 (kI 4) h fun x60 h =>
 vbin .add 0 x32 (.v (.c (.p (.int .u32 1)))) h fun x62 h =>
 vindex (kS z53fdd7c2) x62 h fun x63 h =>
 vindex (kS z53fdd7c2) x32 h fun x65 h =>
 viaddr 1 x0 x57 h fun x66 h =>
 vstore 1 x66 x63 h fun _ h =>
 viaddr 1 x0 x60 h fun x67 h =>
 vstore 1 x67 x65 h fun _ h =>
 vbin .sub 0 x4 (kI 5) h fun x70 h =>
 vbin .sub 0 x4 (kI 6) h fun x73 h =>
 vbin .add 0 x41 (.v (.c (.p (.int .u32 1)))) h fun x75 h =>
 vindex (kS z53fdd7c2) x75 h fun x76 h =>
 vindex (kS z53fdd7c2) x41 h fun x78 h =>
 viaddr 1 x0 x70 h fun x79 h =>
 vstore 1 x79 x76 h fun _ h =>
 viaddr 1 x0 x73 h fun x80 h =>
 vstore 1 x80 x78 h fun _ h =>
 vbin .sub 0 x4 (kI 7) h fun x83 h =>
 vbin .sub 0 x4 (kI 8) h fun x86 h =>
 vbin .add 0 x38 (.v (.c (.p (.int .u32 1)))) h fun x88 h =>
 vindex (kS z53fdd7c2) x88 h fun x89 h =>
 vindex (kS z53fdd7c2) x38 h fun x91 h =>
 viaddr 1 x0 x83 h fun x92 h =>
 vstore 1 x92 x89 h fun _ h =>
 viaddr 1 x0 x86 h fun x93 h =>
 vstore 1 x93 x91 h fun _ h =>
 vbin .sub 0 x4 (kI 8) h fun x95 h =>
 R 1 [x0,x25,x95] h)
 (R 2 [x0,x1,x4] h)
theorem e186_1(O:Oracle)(R:Jump)(q:Nat)(x0 x1 x4:TVal)(h:Heap):b186_1 O R q x0 x1 x4 h=stepF c186 O R q 1 [x0,x1,x4] h:=by kernel_rfl
def b186_2(O:Oracle)(R:Jump)(q:Nat)(x0 x1 x4:TVal)(h:Heap):Res1 :=
 vtoInt .u32 x1 h fun x97 h =>
 vbin .geq 0 x4 (kI 4) h fun x99 h =>
 vif x99 (
 vbin .rem 0 x97 (.v (.c (.p (.int .u32 10000)))) h fun x101 h =>
 vbin .quo 0 x97 (.v (.c (.p (.int .u32 10000)))) h fun x103 h =>
 vbin .quo 0 x101 (.v (.c (.p (.int .u32 100)))) h fun x105 h =>
 vbin .mul 0 x105 (.v (.c (.p (.int .u32 2)))) h fun x106 h =>
 vbin .rem 0 x101 (.v (.c (.p (.int .u32 100)))) h fun x108 h =>
 vbin .mul 0 x108 (.v (.c (.p (.int .u32 2)))) h fun x109 h =>
 vbin .sub 0 x4 (kI 1) h fun x112 h =>
 vbin .sub 0 x4 (kI 2) h fun x115 h =>
 vbin .add 0 x109 (.v (.c (.p (.int .u32 1)))) h fun x117 h =>
 vindex (kS z53fdd7c2) x117 h fun x118 h =>
 vindex (kS z53fdd7c2) x109 h fun x120 h =>
 viaddr 1 x0 x112 h fun x121 h =>
 vstore 1 x121 x118 h fun _ h =>
 viaddr 1 x0 x115 h fun x122 h =>
 vstore 1 x122 x120 h fun _ h =>
 vbin .sub 0 x4 (kI 3) h fun x125 h =>
 vbin .sub 0 x4 (kI 4) h fun x128 h =>
 vbin .add 0 x106 (.v (.c (.p (.int .u32 1)))) h fun x130 h =>
 vindex (kS z53fdd7c2) x130 h fun x131 h =>
 vindex (kS z53fdd7c2) x106 h fun x133 h =>
 viaddr 1 x0 x125 h fun x134 h =>
 vstore 1 x134 x131 h fun _ h =>
 viaddr 1 x0 x128 h fun x135 h =>
 vstore 1 x135 x133 h fun _ h =>
 vbin .sub 0 x4 (kI 4) h fun x137 h =>
 R 3 [x0,x137,x103] h)
 (R 3 [x0,x4,x97] h)
theorem e186_2(O:Oracle)(R:Jump)(q:Nat)(x0 x1 x4:TVal)(h:Heap):b186_2 O R q x0 x1 x4 h=stepF c186 O R q 2 [x0,x1,x4] h:=by kernel_rfl
def b186_3(O:Oracle)(R:Jump)(q:Nat)(x0 x4 x12:TVal)(h:Heap):Res1 :=
 vbin .geq 0 x4 (kI 2) h fun x139 h =>
 vif x139 (
 vbin .rem 0 x12 (.v (.c (.p (.int .u32 100)))) h fun x141 h =>
 vbin .mul 0 x141 (.v (.c (.p (.int .u32 2)))) h fun x142 h =>
 vbin .quo 0 x12 (.v (.c (.p (.int .u32 100)))) h fun x144 h =>
 vbin .sub 0 x4 (kI 1) h fun x147 h =>
 vbin .sub 0 x4 (kI 2) h fun x150 h =>
 vbin .add 0 x142 (.v (.c (.p (.int .u32 1)))) h fun x152 h =>
 vindex (kS z53fdd7c2) x152 h fun x153 h =>
 vindex (kS z53fdd7c2) x142 h fun x155 h =>
 viaddr 1 x0 x147 h fun x156 h =>
 vstore 1 x156 x153 h fun _ h =>
 viaddr 1 x0 x150 h fun x157 h =>
 vstore 1 x157 x155 h fun _ h =>
 vbin .sub 0 x4 (kI 2) h fun x159 h =>
 R 4 [x0,x159,x144] h)
 (R 4 [x0,x4,x12] h)
theorem e186_3(O:Oracle)(R:Jump)(q:Nat)(x0 x4 x12:TVal)(h:Heap):b186_3 O R q x0 x4 x12 h=stepF c186 O R q 3 [x0,x4,x12] h:=by kernel_rfl
def b186_4(O:Oracle)(R:Jump)(q:Nat)(x0 x4 x12:TVal)(h:Heap):Res1 :=
 vbin .gtr 0 x4 (kI 0) h fun x161 h =>
 vif x161 (
 vbin .add 0 (.v (.c (.p (.int .u32 48)))) x12 h fun x164 h =>
 vtoInt .u8 x164 h fun x165 h =>
 viaddr 1 x0 (kI 0) h fun x166 h =>
 vstore 1 x166 x165 h fun _ h =>
 vfin true q [] h)
 (vfin true q [] h)
theorem e186_4(O:Oracle)(R:Jump)(q:Nat)(x0 x4 x12:TVal)(h:Heap):b186_4 O R q x0 x4 x12 h=stepF c186 O R q 4 [x0,x4,x12] h:=by kernel_rfl
def d186:BlkF:=fun O R Q=>[.s fun a => .s fun b => .z (b186_0 O R Q a b),.s fun a => .s fun b => .s fun c => .z (b186_1 O R Q a b c),.s fun a => .s fun b => .s fun c => .z (b186_2 O R Q a b c),.s fun a => .s fun b => .s fun c => .z (b186_3 O R Q a b c),.s fun a => .s fun b => .s fun c => .z (b186_4 O R Q a b c)]
theorem o186(O:Oracle)(R:Jump)(q:Nat):HoldsAll c186 O R q 0 (d186 O R q):=⟨e186_0 O R q,e186_1 O R q,e186_2 O R q,e186_3 O R q,e186_4 O R q,trivial⟩
def c187:MFunc:=mkM (compF Tryd.prog (globs2 tabs opq) (fun _=>false) true Tryd.f187) (.s .n (.s .n (.m 1 [0,1,2,3,4,10,11] (.s .n (.s .n (.s .n (.m 2 [0,1,2,3,4,10,11,12,13] (.s (.s .n (.s (.s .n (.s .n (.s .n (.s (.k (.l 3 [0,1,3,4,10,11,12,13,14,15,16] .n)) (.m 4 [0,1,3,4,10,11,12,13] .n))))) (.s .n (.s (.k (.l 5 [0,1,3,4,10,11,12,13,17] .n)) (.m 6 [0,1,3,4,10,11,12,13] .n))))) (.m 7 [0,3,4,10,11,12,13] (.s .n (.m 8 [0,4,10,11,12,13] .n)))))))))))
def b187_0(O:Oracle)(R:Jump)(q:Nat)(x0 x1 x2 x3 x4:TVal)(h:Heap):Res1 :=
 vbin .lss 0 x2 (kI 2) h fun x20 h =>
 vguard x20 false (fun kk=>kk x2 h) h fun x22 h =>
 vguard x20 false (fun kk=>vbin .eql 0 x22 (kI 10) h kk) h fun x23 h =>
 vop O (.pick (.k x20) (.k (kB true)) (.k x23)) h 24 fun x24 h =>
 vguard x24 false (fun kk=>kk x2 h) h fun x26 h =>
 vguard x24 false (fun kk=>vbin .gtr 0 x26 (kI 36) h kk) h fun x27 h =>
 vop O (.pick (.k x24) (.k (kB true)) (.k x27)) h 28 fun x28 h =>
 vif x28 (
 none)
 (R 1 [x0,x1,x2,x3,x4,(.v (.c (.p .nilslice))),(kS [])] h)
theorem e187_0(O:Oracle)(R:Jump)(q:Nat)(x0 x1 x2 x3 x4:TVal)(h:Heap):b187_0 O R q x0 x1 x2 x3 x4 h=stepF c187 O R q 0 [x0,x1,x2,x3,x4] h:=by kernel_rfl
def b187_1(O:Oracle)(R:Jump)(q:Nat)(x0 x1 x2 x3 x4 x10 x11:TVal)(h:Heap):Res1 :=
 vop O (.alloc [(.p (.int .u8 0)),(.p (.int .u8 0)),(.p (.int .u8 0)),(.p (.int .u8 0)),(.p (.int .u8 0)),(.p (.int .u8 0)),(.p (.int .u8 0)),(.p (.int .u8 0)),(.p (.int .u8 0)),(.p (.int .u8 0)),(.p (.int .u8 0)),(.p (.int .u8 0)),(.p (.int .u8 0)),(.p (.int .u8 0)),(.p (.int .u8 0)),(.p (.int .u8 0)),(.p (.int .u8 0)),(.p (.int .u8 0)),(.p (.int .u8 0)),(.p (.int .u8 0)),(.p (.int .u8 0)),(.p (.int .u8 0)),(.p (.int .u8 0)),(.p (.int .u8 0)),(.p (.int .u8 0)),(.p (.int .u8 0)),(.p (.int .u8 0)),(.p (.int .u8 0)),(.p (.int .u8 0)),(.p (.int .u8 0)),(.p (.int .u8 0)),(.p (.int .u8 0)),(.p (.int .u8 0)),(.p (.int .u8 0)),(.p (.int .u8 0)),(.p (.int .u8 0)),(.p (.int .u8 0)),(.p (.int .u8 0)),(.p (.int .u8 0)),(.p (.int .u8 0)),(.p (.int .u8 0)),(.p (.int .u8 0)),(.p (.int .u8 0)),(.p (.int .u8 0)),(.p (.int .u8 0)),(.p (.int .u8 0)),(.p (.int .u8 0)),(.p (.int .u8 0)),(.p (.int .u8 0)),(.p (.int .u8 0)),(.p (.int .u8 0)),(.p (.int .u8 0)),(.p (.int .u8 0)),(.p (.int .u8 0)),(.p (.int .u8 0)),(.p (.int .u8 0)),(.p (.int .u8 0)),(.p (.int .u8 0)),(.p (.int .u8 0)),(.p (.int .u8 0)),(.p (.int .u8 0)),(.p (.int .u8 0)),(.p (.int .u8 0)),(.p (.int .u8 0)),(.p (.int .u8 0))] false) h 12 fun x12 h =>
 vif x3 (
 vop O (.un .neg (.k x1)) h 32 fun x32 h =>
 R 2 [x0,x32,x2,x3,x4,x10,x11,x12,(kI 65)] h)
 (R 2 [x0,x1,x2,x3,x4,x10,x11,x12,(kI 65)] h)
theorem e187_1(O:Oracle)(R:Jump)(q:Nat)(x0 x1 x2 x3 x4 x10 x11:TVal)(h:Heap):b187_1 O R q x0 x1 x2 x3 x4 x10 x11 h=stepF c187 O R q 1 [x0,x1,x2,x3,x4,x10,x11] h:=by kernel_rfl
def b187_2(O:Oracle)(R:Jump)(q:Nat)(x0 x1 x2 x3 x4 x10 x11 x12 x13:TVal)(h:Heap):Res1 :=
 vcall O (.v (.c (.func 195 []))) [x2] h 34 fun x34 h =>
 vif x34 (
 vtoInt .u64 x2 h fun x36 h =>
 vcall O (.v (.c (.func 196 []))) [x36] h 37 fun x37 h =>
 vtoInt .u64 x37 h fun x38 h =>
 vtoInt .u64 x2 h fun x40 h =>
 vtoInt .u64 x2 h fun x42 h =>
 vbin .sub 0 x42 (.v (.c (.p (.int .u64 1)))) h fun x43 h =>
 R 3 [x0,x1,x3,x4,x10,x11,x12,x13,x38,x40,x43] h)
 (vtoInt .u64 x2 h fun x65 h =>
 R 5 [x0,x1,x3,x4,x10,x11,x12,x13,x65] h)
theorem e187_2(O:Oracle)(R:Jump)(q:Nat)(x0 x1 x2 x3 x4 x10 x11 x12 x13:TVal)(h:Heap):b187_2 O R q x0 x1 x2 x3 x4 x10 x11 x12 x13 h=stepF c187 O R q 2 [x0,x1,x2,x3,x4,x10,x11,x12,x13] h:=by kernel_rfl
def b187_3(O:Oracle)(R:Jump)(q:Nat)(x0 x1 x3 x4 x10 x11 x12 x13 x14 x15 x16:TVal)(h:Heap):Res1 :=
 vbin .geq 0 x1 x15 h fun x46 h =>
 vif x46 (
 vbin .sub 0 x13 (kI 1) h fun x48 h =>
 vbin .and 0 x1 x16 h fun x52 h =>
 vindex (kS [48,49,50,51,52,53,54,55,56,57,97,98,99,100,101,102,103,104,105,106,107,108,109,110,111,112,113,114,115,116,117,118,119,120,121,122]) x52 h fun x53 h =>
 vop O (.iaddrA 65 1 (.k x12) (.k x48)) h 54 fun x54 h =>
 vstore 1 x54 x53 h fun _ h =>
 vbin .shr 0 x1 x14 h fun x57 h =>
 R 3 [x0,x57,x3,x4,x10,x11,x12,x48,x14,x15,x16] h)
 (R 4 [x0,x1,x3,x4,x10,x11,x12,x13] h)
theorem e187_3(O:Oracle)(R:Jump)(q:Nat)(x0 x1 x3 x4 x10 x11 x12 x13 x14 x15 x16:TVal)(h:Heap):b187_3 O R q x0 x1 x3 x4 x10 x11 x12 x13 x14 x15 x16 h=stepF c187 O R q 3 [x0,x1,x3,x4,x10,x11,x12,x13,x14,x15,x16] h:=by kernel_rfl
def b187_4(O:Oracle)(R:Jump)(q:Nat)(x0 x1 x3 x4 x10 x11 x12 x13:TVal)(h:Heap):Res1 :=
 vbin .sub 0 x13 (kI 1) h fun x59 h =>
 vindex (kS [48,49,50,51,52,53,54,55,56,57,97,98,99,100,101,102,103,104,105,106,107,108,109,110,111,112,113,114,115,116,117,118,119,120,121,122]) x1 h fun x62 h =>
 vop O (.iaddrA 65 1 (.k x12) (.k x59)) h 63 fun x63 h =>
 vstore 1 x63 x62 h fun _ h =>
 R 7 [x0,x3,x4,x10,x11,x12,x59] h
theorem e187_4(O:Oracle)(R:Jump)(q:Nat)(x0 x1 x3 x4 x10 x11 x12 x13:TVal)(h:Heap):b187_4 O R q x0 x1 x3 x4 x10 x11 x12 x13 h=stepF c187 O R q 4 [x0,x1,x3,x4,x10,x11,x12,x13] h:=by kernel_rfl
def b187_5(O:Oracle)(R:Jump)(q:Nat)(x0 x1 x3 x4 x10 x11 x12 x13 x17:TVal)(h:Heap):Res1 :=
 vbin .geq 0 x1 x17 h fun x68 h =>
 vif x68 (
 vbin .sub 0 x13 (kI 1) h fun x70 h =>
 vbin .quo 0 x1 x17 h fun x73 h =>
 vbin .mul 0 x73 x17 h fun x78 h =>
 vbin .sub 0 x1 x78 h fun x79 h =>
 vindex (kS [48,49,50,51,52,53,54,55,56,57,97,98,99,100,101,102,103,104,105,106,107,108,109,110,111,112,113,114,115,116,117,118,119,120,121,122]) x79 h fun x80 h =>
 vop O (.iaddrA 65 1 (.k x12) (.k x70)) h 81 fun x81 h =>
 vstore 1 x81 x80 h fun _ h =>
 R 5 [x0,x73,x3,x4,x10,x11,x12,x70,x17] h)
 (R 6 [x0,x1,x3,x4,x10,x11,x12,x13] h)
theorem e187_5(O:Oracle)(R:Jump)(q:Nat)(x0 x1 x3 x4 x10 x11 x12 x13 x17:TVal)(h:Heap):b187_5 O R q x0 x1 x3 x4 x10 x11 x12 x13 x17 h=stepF c187 O R q 5 [x0,x1,x3,x4,x10,x11,x12,x13,x17] h:=by kernel_rfl
def b187_6(O:Oracle)(R:Jump)(q:Nat)(x0 x1 x3 x4 x10 x11 x12 x13:TVal)(h:Heap):Res1 :=
 vbin .sub 0 x13 (kI 1) h fun x84 h =>
 vindex (kS [48,49,50,51,52,53,54,55,56,57,97,98,99,100,101,102,103,104,105,106,107,108,109,110,111,112,113,114,115,116,117,118,119,120,121,122]) x1 h fun x87 h =>
 vop O (.iaddrA 65 1 (.k x12) (.k x84)) h 88 fun x88 h =>
 vstore 1 x88 x87 h fun _ h =>
 R 7 [x0,x3,x4,x10,x11,x12,x84] h
theorem e187_6(O:Oracle)(R:Jump)(q:Nat)(x0 x1 x3 x4 x10 x11 x12 x13:TVal)(h:Heap):b187_6 O R q x0 x1 x3 x4 x10 x11 x12 x13 h=stepF c187 O R q 6 [x0,x1,x3,x4,x10,x11,x12,x13] h:=by kernel_rfl
def b187_7(O:Oracle)(R:Jump)(q:Nat)(x0 x3 x4 x10 x11 x12 x13:TVal)(h:Heap):Res1 :=
 vif x3 (
 vbin .sub 0 x13 (kI 1) h fun x91 h =>
 vop O (.iaddrA 65 1 (.k x12) (.k x91)) h 93 fun x93 h =>
 vstore 1 x93 (.v (.c (.p (.int .u8 45)))) h fun _ h =>
 R 8 [x0,x4,x10,x11,x12,x91] h)
 (R 8 [x0,x4,x10,x11,x12,x13] h)
theorem e187_7(O:Oracle)(R:Jump)(q:Nat)(x0 x3 x4 x10 x11 x12 x13:TVal)(h:Heap):b187_7 O R q x0 x3 x4 x10 x11 x12 x13 h=stepF c187 O R q 7 [x0,x3,x4,x10,x11,x12,x13] h:=by kernel_rfl
def b187_8(O:Oracle)(R:Jump)(q:Nat)(x0 x4 x10 x11 x12 x13:TVal)(h:Heap):Res1 :=
 vif x4 (
 vop O (.sliceA 65 1 (.k x12) (some (.k x13)) none) h 97 fun x97 h =>
 vop O (.append 1 1 false (.k x0) (.k x97)) h 98 fun x98 h =>
 tcomp x98 fun c0=>tcomp x11 fun c1=>vfin true q [c0,c1] h)
 (vop O (.sliceA 65 1 (.k x12) (some (.k x13)) none) h 100 fun x100 h =>
 vop O (.toStr (.k x100)) h 101 fun x101 h =>
 tcomp x10 fun c0=>tcomp x101 fun c1=>vfin true q [c0,c1] h)
theorem e187_8(O:Oracle)(R:Jump)(q:Nat)(x0 x4 x10 x11 x12 x13:TVal)(h:Heap):b187_8 O R q x0 x4 x10 x11 x12 x13 h=stepF c187 O R q 8 [x0,x4,x10,x11,x12,x13] h:=by kernel_rfl
def d187:BlkF:=fun O R Q=>[.s fun a => .s fun b => .s fun c => .s fun d => .s fun e => .z (b187_0 O R Q a b c d e),.s fun a => .s fun b => .s fun c => .s fun d => .s fun e => .s fun f => .s fun g => .z (b187_1 O R Q a b c d e f g),.s fun a => .s fun b => .s fun c => .s fun d => .s fun e => .s fun f => .s fun g => .s fun h => .s fun i => .z (b187_2 O R Q a b c d e f g h i),.s fun a => .s fun b => .s fun c => .s fun d => .s fun e => .s fun f => .s fun g => .s fun h => .s fun i => .s fun j => .s fun k => .z (b187_3 O R Q a b c d e f g h i j k),.s fun a => .s fun b => .s fun c => .s fun d => .s fun e => .s fun f => .s fun g => .s fun h => .z (b187_4 O R Q a b c d e f g h),.s fun a => .s fun b => .s fun c => .s fun d => .s fun e => .s fun f => .s fun g => .s fun h => .s fun i => .z (b187_5 O R Q a b c d e f g h i),.s fun a => .s fun b => .s fun c => .s fun d => .s fun e => .s fun f => .s fun g => .s fun h => .z (b187_6 O R Q a b c d e f g h),.s fun a => .s fun b => .s fun c => .s fun d => .s fun e => .s fun f => .s fun g => .z (b187_7 O R Q a b c d e f g),.s fun a => .s fun b => .s fun c => .s fun d => .s fun e => .s fun f => .z (b187_8 O R Q a b c d e f)]
theorem o187(O:Oracle)(R:Jump)(q:Nat):HoldsAll c187 O R q 0 (d187 O R q):=⟨e187_0 O R q,e187_1 O R q,e187_2 O R q,e187_3 O R q,e187_4 O R q,e187_5 O R q,e187_6 O R q,e187_7 O R q,e187_8 O R q,trivial⟩
def c192:MFunc:=mkM (compF Tryd.prog (globs2 tabs opq) (fun _=>false) true Tryd.f192) .n
def b192_0(O:Oracle)(R:Jump)(q:Nat)(x0:TVal)(h:Heap):Res1 :=
 vbin .mul 0 x0 (kI 78913) h fun x4 h =>
 vbin .shr 0 x4 (.v (.c (.p (.int .u64 18)))) h fun x5 h =>
 tcomp x5 fun c0=>vfin true q [c0] h
theorem e192_0(O:Oracle)(R:Jump)(q:Nat)(x0:TVal)(h:Heap):b192_0 O R q x0 h=stepF c192 O R q 0 [x0] h:=by kernel_rfl
def d192:BlkF:=fun O R Q=>[.s fun a => .z (b192_0 O R Q a)]
theorem o192(O:Oracle)(R:Jump)(q:Nat):HoldsAll c192 O R q 0 (d192 O R q):=⟨e192_0 O R q,trivial⟩
def c193:MFunc:=mkM (compF Tryd.prog (globs2 tabs opq) (fun _=>false) true Tryd.f193) (.s .n (.s .n (.m 1 [0,2] (.s .n (.m 2 [0,2] (.s .n (.m 3 [0,2] .n)))))))
def b193_0(O:Oracle)(R:Jump)(q:Nat)(x0:TVal)(h:Heap):Res1 :=
 vbin .geq 0 x0 (.v (.c (.p (.int .u64 4294967296)))) h fun x4 h =>
 vif x4 (
 vbin .shr 0 x0 (.v (.c (.p (.int .u64 32)))) h fun x6 h =>
 R 1 [x6,(kI 32)] h)
 (R 1 [x0,(kI 0)] h)
theorem e193_0(O:Oracle)(R:Jump)(q:Nat)(x0:TVal)(h:Heap):b193_0 O R q x0 h=stepF c193 O R q 0 [x0] h:=by kernel_rfl
def b193_1(O:Oracle)(R:Jump)(q:Nat)(x0 x2:TVal)(h:Heap):Res1 :=
 vbin .geq 0 x0 (.v (.c (.p (.int .u64 65536)))) h fun x8 h =>
 vif x8 (
 vbin .shr 0 x0 (.v (.c (.p (.int .u64 16)))) h fun x10 h =>
 vbin .add 0 x2 (kI 16) h fun x12 h =>
 R 2 [x10,x12] h)
 (R 2 [x0,x2] h)
theorem e193_1(O:Oracle)(R:Jump)(q:Nat)(x0 x2:TVal)(h:Heap):b193_1 O R q x0 x2 h=stepF c193 O R q 1 [x0,x2] h:=by kernel_rfl
def b193_2(O:Oracle)(R:Jump)(q:Nat)(x0 x2:TVal)(h:Heap):Res1 :=
 vbin .geq 0 x0 (.v (.c (.p (.int .u64 256)))) h fun x14 h =>
 vif x14 (
 vbin .shr 0 x0 (.v (.c (.p (.int .u64 8)))) h fun x16 h =>
 vbin .add 0 x2 (kI 8) h fun x18 h =>
 R 3 [x16,x18] h)
 (R 3 [x0,x2] h)
theorem e193_2(O:Oracle)(R:Jump)(q:Nat)(x0 x2:TVal)(h:Heap):b193_2 O R q x0 x2 h=stepF c193 O R q 2 [x0,x2] h:=by kernel_rfl
def b193_3(O:Oracle)(R:Jump)(q:Nat)(x0 x2:TVal)(h:Heap):Res1 :=
 vtoInt .u8 x0 h fun x21 h =>
 vindex (kS z0a4518d3) x21 h fun x22 h =>
 vtoInt .i64 x22 h fun x23 h =>
 vbin .add 0 x2 x23 h fun x24 h =>
 tcomp x24 fun c0=>vfin true q [c0] h
theorem e193_3(O:Oracle)(R:Jump)(q:Nat)(x0 x2:TVal)(h:Heap):b193_3 O R q x0 x2 h=stepF c193 O R q 3 [x0,x2] h:=by kernel_rfl
def d193:BlkF:=fun O R Q=>[.s fun a => .z (b193_0 O R Q a),.s fun a => .s fun b => .z (b193_1 O R Q a b),.s fun a => .s fun b => .z (b193_2 O R Q a b),.s fun a => .s fun b => .z (b193_3 O R Q a b)]
theorem o193(O:Oracle)(R:Jump)(q:Nat):HoldsAll c193 O R q 0 (d193 O R q):=⟨e193_0 O R q,e193_1 O R q,e193_2 O R q,e193_3 O R q,trivial⟩
def c194:MFunc:=mkM (compF Tryd.prog (globs2 tabs opq) (fun _=>false) true Tryd.f194) .n
def b194_0(O:Oracle)(R:Jump)(q:Nat)(x0:TVal)(h:Heap):Res1 :=
 vif x0 (
 tcomp (kI 1) fun c0=>vfin true q [c0] h)
 (tcomp (kI 0) fun c0=>vfin true q [c0] h)
theorem e194_0(O:Oracle)(R:Jump)(q:Nat)(x0:TVal)(h:Heap):b194_0 O R q x0 h=stepF c194 O R q 0 [x0] h:=by kernel_rfl
def d194:BlkF:=fun O R Q=>[.s fun a => .z (b194_0 O R Q a)]
theorem o194(O:Oracle)(R:Jump)(q:Nat):HoldsAll c194 O R q 0 (d194 O R q):=⟨e194_0 O R q,trivial⟩
def c195:MFunc:=mkM (compF Tryd.prog (globs2 tabs opq) (fun _=>false) true Tryd.f195) .n
def b195_0(O:Oracle)(R:Jump)(q:Nat)(x0:TVal)(h:Heap):Res1 :=
 vbin .sub 0 x0 (kI 1) h fun x5 h =>
 vbin .and 0 x0 x5 h fun x6 h =>
 vbin .eql 0 x6 (kI 0) h fun x7 h =>
 tcomp x7 fun c0=>vfin true q [c0] h
theorem e195_0(O:Oracle)(R:Jump)(q:Nat)(x0:TVal)(h:Heap):b195_0 O R q x0 h=stepF c195 O R q 0 [x0] h:=by kernel_rfl
def d195:BlkF:=fun O R Q=>[.s fun a => .z (b195_0 O R Q a)]
theorem o195(O:Oracle)(R:Jump)(q:Nat):HoldsAll c195 O R q 0 (d195 O R q):=⟨e195_0 O R q,trivial⟩
def c196:MFunc:=mkM (compF Tryd.prog (globs2 tabs opq) (fun _=>false) true Tryd.f196) .n
def b196_0(O:Oracle)(R:Jump)(q:Nat)(x0:TVal)(h:Heap):Res1 :=
 vif (kB false) (
 vtoInt .u32 x0 h fun x4 h =>
 vcall O (.v (.c (.func 199 []))) [x4] h 5 fun x5 h =>
 tcomp x5 fun c0=>vfin true q [c0] h)
 (vcall O (.v (.c (.func 200 []))) [x0] h 7 fun x7 h =>
 tcomp x7 fun c0=>vfin true q [c0] h)
theorem e196_0(O:Oracle)(R:Jump)(q:Nat)(x0:TVal)(h:Heap):b196_0 O R q x0 h=stepF c196 O R q 0 [x0] h:=by kernel_rfl
def d196:BlkF:=fun O R Q=>[.s fun a => .z (b196_0 O R Q a)]
theorem o196(O:Oracle)(R:Jump)(q:Nat):HoldsAll c196 O R q 0 (d196 O R q):=⟨e196_0 O R q,trivial⟩
def c199:MFunc:=mkM (compF Tryd.prog (globs2 tabs opq) (fun _=>false) true Tryd.f199) .n
def b199_0(O:Oracle)(R:Jump)(q:Nat)(x0:TVal)(h:Heap):Res1 :=
 vbin .eql 0 x0 (.v (.c (.p (.int .u32 0)))) h fun x4 h =>
 vif x4 (
 tcomp (kI 32) fun c0=>vfin true q [c0] h)
 (vop O (.un .neg (.k x0)) h 7 fun x7 h =>
 vbin .and 0 x0 x7 h fun x8 h =>
 vbin .mul 0 x8 (.v (.c (.p (.int .u32 125613361)))) h fun x9 h =>
 vbin .shr 0 x9 (.v (.c (.p (.int .u64 27)))) h fun x10 h =>
 none)
theorem e199_0(O:Oracle)(R:Jump)(q:Nat)(x0:TVal)(h:Heap):b199_0 O R q x0 h=stepF c199 O R q 0 [x0] h:=by kernel_rfl
def d199:BlkF:=fun O R Q=>[.s fun a => .z (b199_0 O R Q a)]
theorem o199(O:Oracle)(R:Jump)(q:Nat):HoldsAll c199 O R q 0 (d199 O R q):=⟨e199_0 O R q,trivial⟩
def c200:MFunc:=mkM (compF Tryd.prog (globs2 tabs opq) (fun _=>false) true Tryd.f200) .n
def b200_0(O:Oracle)(R:Jump)(q:Nat)(x0:TVal)(h:Heap):Res1 :=
 vbin .eql 0 x0 (.v (.c (.p (.int .u64 0)))) h fun x4 h =>
 vif x4 (
 tcomp (kI 64) fun c0=>vfin true q [c0] h)
 (vop O (.un .neg (.k x0)) h 7 fun x7 h =>
 vbin .and 0 x0 x7 h fun x8 h =>
 vbin .mul 0 x8 (.v (.c (.p (.int .u64 285870213051353865)))) h fun x9 h =>
 vbin .shr 0 x9 (.v (.c (.p (.int .u64 58)))) h fun x10 h =>
 none)
theorem e200_0(O:Oracle)(R:Jump)(q:Nat)(x0:TVal)(h:Heap):b200_0 O R q x0 h=stepF c200 O R q 0 [x0] h:=by kernel_rfl
def d200:BlkF:=fun O R Q=>[.s fun a => .z (b200_0 O R Q a)]
theorem o200(O:Oracle)(R:Jump)(q:Nat):HoldsAll c200 O R q 0 (d200 O R q):=⟨e200_0 O R q,trivial⟩
end
end Go.Proofs.YtlkejchbcchecaaDoor.Ab
