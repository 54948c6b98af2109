/- Functions of the given program as the abstract interpreter has them (part 1),printed by a program of our own; each is shown to be what 'compF' makes of the given program's. No condition. -/
import Derived.Test.YtnlmlcfipbnpgaaDoorTabO0
namespace Go.Proofs.YtnlmlcfipbnpgaaDoor.Ab
open Go Go.AI
noncomputable section
set_option linter.all false
set_option linter.unusedVariables false
set_option maxRecDepth 100000
def c149:MFunc:=mkM (compF Tryd.prog (globs2 tabs opq) (λ_=>false) true Tryd.f149) (.s (.s .n (.s (.s .n (.s .n (.s (.k (.l 1 [0,1,4,10,11] .n)) (.m 2 [0,1,10] (.s (.s .n (.k (.l 3 [0,10,13] .n))) (.m 4 [] .n)))))) .n)) (.m 5 [0,1,2,3,4] (.s (.s .n (.s (.s .n (.s .n (.s (.k (.l 6 [0,2,4,14,15] .n)) (.m 7 [0,2,14] (.s (.s .n (.k (.l 8 [0,14,17] .n))) (.m 9 [] .n)))))) .n)) (.m 10 [0,1,2,3,4] (.s .n (.s .n (.s .n (.s .n (.m 11 [0,1,2,3,4,18,19,20,21] (.s .n (.s (.k (.l 12 [0,1,2,3,4,18,19,20,21,22] .n)) (.m 13 [0,1,2,3,4,18,19,20] (.s .n (.s .n (.m 14 [0,1,3,4,18,20,24] (.s .n (.m 15 [0,3,4,18,24] .n)))))))))))))))))
theorem e149_0(O R q x0 x1 x2 x3 x4 h):gM_0 5 148 149 164 170 123 O R q x0 x1 x2 x3 x4 h=stepF c149 O R q 0 [x0,x1,x2,x3,x4] h:=by kernel_rfl
theorem e149_1(O R q x0 x1 x4 x10 x11 h):gM_1 5 148 149 164 170 123 O R q x0 x1 x4 x10 x11 h=stepF c149 O R q 1 [x0,x1,x4,x10,x11] h:=by kernel_rfl
theorem e149_2(O R q x0 x1 x10 h):gM_2 5 148 149 164 170 123 O R q x0 x1 x10 h=stepF c149 O R q 2 [x0,x1,x10] h:=by kernel_rfl
theorem e149_3(O R q x0 x10 x13 h):gM_3 5 148 149 164 170 123 O R q x0 x10 x13 h=stepF c149 O R q 3 [x0,x10,x13] h:=by kernel_rfl
theorem e149_4(O R q h):gM_4 5 148 149 164 170 123 O R q  h=stepF c149 O R q 4 [] h:=by kernel_rfl
theorem e149_5(O R q x0 x1 x2 x3 x4 h):gM_5 5 148 149 164 170 123 O R q x0 x1 x2 x3 x4 h=stepF c149 O R q 5 [x0,x1,x2,x3,x4] h:=by kernel_rfl
theorem e149_6(O R q x0 x2 x4 x14 x15 h):gM_6 5 148 149 164 170 123 O R q x0 x2 x4 x14 x15 h=stepF c149 O R q 6 [x0,x2,x4,x14,x15] h:=by kernel_rfl
theorem e149_7(O R q x0 x2 x14 h):gM_7 5 148 149 164 170 123 O R q x0 x2 x14 h=stepF c149 O R q 7 [x0,x2,x14] h:=by kernel_rfl
theorem e149_8(O R q x0 x14 x17 h):gM_8 5 148 149 164 170 123 O R q x0 x14 x17 h=stepF c149 O R q 8 [x0,x14,x17] h:=by kernel_rfl
theorem e149_9(O R q h):gM_9 5 148 149 164 170 123 O R q  h=stepF c149 O R q 9 [] h:=by kernel_rfl
theorem e149_10(O R q x0 x1 x2 x3 x4 h):gM_10 5 148 149 164 170 123 O R q x0 x1 x2 x3 x4 h=stepF c149 O R q 10 [x0,x1,x2,x3,x4] h:=by kernel_rfl
theorem e149_11(O R q x0 x1 x2 x3 x4 x18 x19 x20 x21 h):gM_11 5 148 149 164 170 123 O R q x0 x1 x2 x3 x4 x18 x19 x20 x21 h=stepF c149 O R q 11 [x0,x1,x2,x3,x4,x18,x19,x20,x21] h:=by kernel_rfl
theorem e149_12(O R q x0 x1 x2 x3 x4 x18 x19 x20 x21 x22 h):gM_12 5 148 149 164 170 123 O R q x0 x1 x2 x3 x4 x18 x19 x20 x21 x22 h=stepF c149 O R q 12 [x0,x1,x2,x3,x4,x18,x19,x20,x21,x22] h:=by kernel_rfl
theorem e149_13(O R q x0 x1 x2 x3 x4 x18 x19 x20 h):gM_13 5 148 149 164 170 123 O R q x0 x1 x2 x3 x4 x18 x19 x20 h=stepF c149 O R q 13 [x0,x1,x2,x3,x4,x18,x19,x20] h:=by kernel_rfl
theorem e149_14(O R q x0 x1 x3 x4 x18 x20 x24 h):gM_14 5 148 149 164 170 123 O R q x0 x1 x3 x4 x18 x20 x24 h=stepF c149 O R q 14 [x0,x1,x3,x4,x18,x20,x24] h:=by kernel_rfl
theorem e149_15(O R q x0 x3 x4 x18 x24 h):gM_15 5 148 149 164 170 123 O R q x0 x3 x4 x18 x24 h=stepF c149 O R q 15 [x0,x3,x4,x18,x24] h:=by kernel_rfl
def d149:BlkF:=λO R Q=>[.s λa => .s λb => .s λc => .s λd => .s λe => .z (gM_0 5 148 149 164 170 123 O R Q a b c d e),.s λa => .s λb => .s λc => .s λd => .s λe => .z (gM_1 5 148 149 164 170 123 O R Q a b c d e),.s λa => .s λb => .s λc => .z (gM_2 5 148 149 164 170 123 O R Q a b c),.s λa => .s λb => .s λc => .z (gM_3 5 148 149 164 170 123 O R Q a b c),.z (gM_4 5 148 149 164 170 123 O R Q ),.s λa => .s λb => .s λc => .s λd => .s λe => .z (gM_5 5 148 149 164 170 123 O R Q a b c d e),.s λa => .s λb => .s λc => .s λd => .s λe => .z (gM_6 5 148 149 164 170 123 O R Q a b c d e),.s λa => .s λb => .s λc => .z (gM_7 5 148 149 164 170 123 O R Q a b c),.s λa => .s λb => .s λc => .z (gM_8 5 148 149 164 170 123 O R Q a b c),.z (gM_9 5 148 149 164 170 123 O R Q ),.s λa => .s λb => .s λc => .s λd => .s λe => .z (gM_10 5 148 149 164 170 123 O R Q a b c d e),.s λa => .s λb => .s λc => .s λd => .s λe => .s λf => .s λg => .s λh => .s λi => .z (gM_11 5 148 149 164 170 123 O R Q a b c d e f g h i),.s λa => .s λb => .s λc => .s λd => .s λe => .s λf => .s λg => .s λh => .s λi => .s λj => .z (gM_12 5 148 149 164 170 123 O R Q a b c d e f g h i j),.s λa => .s λb => .s λc => .s λd => .s λe => .s λf => .s λg => .s λh => .z (gM_13 5 148 149 164 170 123 O R Q a b c d e f g h),.s λa => .s λb => .s λc => .s λd => .s λe => .s λf => .s λg => .z (gM_14 5 148 149 164 170 123 O R Q a b c d e f g),.s λa => .s λb => .s λc => .s λd => .s λe => .z (gM_15 5 148 149 164 170 123 O R Q a b c d e)]
theorem o149(O:Oracle)(R:Jump)(q:Nat):HoldsAll c149 O R q 0 (d149 O R q):=⟨e149_0 O R q,e149_1 O R q,e149_2 O R q,e149_3 O R q,e149_4 O R q,e149_5 O R q,e149_6 O R q,e149_7 O R q,e149_8 O R q,e149_9 O R q,e149_10 O R q,e149_11 O R q,e149_12 O R q,e149_13 O R q,e149_14 O R q,e149_15 O R q,trivial⟩
def c150:MFunc:=mkM (compF Tryd.prog (globs2 tabs opq) (λ_=>false) true Tryd.f150) (.s .n (.k (.l 1 [0,1,2,3,10] .n)))
theorem e150_0(O R q x0 x1 x2 x3 x4 h):gS_0 5 94 95 124 150 68 O R q x0 x1 x2 x3 x4 h=stepF c150 O R q 0 [x0,x1,x2,x3,x4] h:=by kernel_rfl
theorem e150_1(O R q x0 x1 x2 x3 x10 h):gS_1 5 94 95 124 150 68 O R q x0 x1 x2 x3 x10 h=stepF c150 O R q 1 [x0,x1,x2,x3,x10] h:=by kernel_rfl
def d150:BlkF:=λO R Q=>[.s λa => .s λb => .s λc => .s λd => .s λe => .z (gS_0 5 94 95 124 150 68 O R Q a b c d e),.s λa => .s λb => .s λc => .s λd => .s λe => .z (gS_1 5 94 95 124 150 68 O R Q a b c d e)]
theorem o150(O:Oracle)(R:Jump)(q:Nat):HoldsAll c150 O R q 0 (d150 O R q):=⟨e150_0 O R q,e150_1 O R q,trivial⟩
def c151:MFunc:=mkM (compF Tryd.prog (globs2 tabs opq) (λ_=>false) true Tryd.f151) (.s .n (.k (.l 1 [0,1,2,3,10] .n)))
theorem e151_0(O R q x0 x1 x2 x3 x4 h):gS_0 6 96 97 125 151 70 O R q x0 x1 x2 x3 x4 h=stepF c151 O R q 0 [x0,x1,x2,x3,x4] h:=by kernel_rfl
theorem e151_1(O R q x0 x1 x2 x3 x10 h):gS_1 6 96 97 125 151 70 O R q x0 x1 x2 x3 x10 h=stepF c151 O R q 1 [x0,x1,x2,x3,x10] h:=by kernel_rfl
def d151:BlkF:=λO R Q=>[.s λa => .s λb => .s λc => .s λd => .s λe => .z (gS_0 6 96 97 125 151 70 O R Q a b c d e),.s λa => .s λb => .s λc => .s λd => .s λe => .z (gS_1 6 96 97 125 151 70 O R Q a b c d e)]
theorem o151(O:Oracle)(R:Jump)(q:Nat):HoldsAll c151 O R q 0 (d151 O R q):=⟨e151_0 O R q,e151_1 O R q,trivial⟩
def c161:MFunc:=mkM (compF Tryd.prog (globs2 tabs opq) (λ_=>false) true Tryd.f161) .n
def b161_0(O:Oracle)(R:Jump)(q:Nat)(x0 x1:TVal)(h:Heap):Res1 :=
 vcall O (.v (.c (.func 130 []))) [x0,x1] h 7 λx7 h =>
 vif x7 (
 vlen O 0 x1 h 10 λx10 h =>
 vop O (.slice 0 true (.k x0) (some (.k x10)) none none) h 11 λx11 h =>
 tcomp x11 λc0=>vfin true q [c0] h)
 (tcomp x0 λc0=>vfin true q [c0] h)
theorem e161_0(O R q x0 x1 h):b161_0 O R q x0 x1 h=stepF c161 O R q 0 [x0,x1] h:=by kernel_rfl
def d161:BlkF:=λO R Q=>[.s λa => .s λb => .z (b161_0 O R Q a b)]
theorem o161(O:Oracle)(R:Jump)(q:Nat):HoldsAll c161 O R q 0 (d161 O R q):=⟨e161_0 O R q,trivial⟩
def c164:MFunc:=mkM (compF Tryd.prog (globs2 tabs opq) (λ_=>false) true Tryd.f164) (.s .n (.s .n (.s (.k (.l 1 [0,2,4,10,11] .n)) (.m 2 [0,2,4,10] .n))))
theorem e164_0(O R q x0 x1 x2 x3 x4 h):gR_0 5 148 149 164 170 123 O R q x0 x1 x2 x3 x4 h=stepF c164 O R q 0 [x0,x1,x2,x3,x4] h:=by kernel_rfl
theorem e164_1(O R q x0 x2 x4 x10 x11 h):gR_1 5 148 149 164 170 123 O R q x0 x2 x4 x10 x11 h=stepF c164 O R q 1 [x0,x2,x4,x10,x11] h:=by kernel_rfl
theorem e164_2(O R q x0 x2 x4 x10 h):gR_2 5 148 149 164 170 123 O R q x0 x2 x4 x10 h=stepF c164 O R q 2 [x0,x2,x4,x10] h:=by kernel_rfl
def d164:BlkF:=λO R Q=>[.s λa => .s λb => .s λc => .s λd => .s λe => .z (gR_0 5 148 149 164 170 123 O R Q a b c d e),.s λa => .s λb => .s λc => .s λd => .s λe => .z (gR_1 5 148 149 164 170 123 O R Q a b c d e),.s λa => .s λb => .s λc => .s λd => .z (gR_2 5 148 149 164 170 123 O R Q a b c d)]
theorem o164(O:Oracle)(R:Jump)(q:Nat):HoldsAll c164 O R q 0 (d164 O R q):=⟨e164_0 O R q,e164_1 O R q,e164_2 O R q,trivial⟩
def c170:MFunc:=mkM (compF Tryd.prog (globs2 tabs opq) (λ_=>false) true Tryd.f170) (.s .n (.k (.l 1 [0,1,2,3,10] .n)))
theorem e170_0(O R q x0 x1 x2 x3 x4 h):gS_0 5 148 149 164 170 123 O R q x0 x1 x2 x3 x4 h=stepF c170 O R q 0 [x0,x1,x2,x3,x4] h:=by kernel_rfl
theorem e170_1(O R q x0 x1 x2 x3 x10 h):gS_1 5 148 149 164 170 123 O R q x0 x1 x2 x3 x10 h=stepF c170 O R q 1 [x0,x1,x2,x3,x10] h:=by kernel_rfl
def d170:BlkF:=λO R Q=>[.s λa => .s λb => .s λc => .s λd => .s λe => .z (gS_0 5 148 149 164 170 123 O R Q a b c d e),.s λa => .s λb => .s λc => .s λd => .s λe => .z (gS_1 5 148 149 164 170 123 O R Q a b c d e)]
theorem o170(O:Oracle)(R:Jump)(q:Nat):HoldsAll c170 O R q 0 (d170 O R q):=⟨e170_0 O R q,e170_1 O R q,trivial⟩
end
end Go.Proofs.YtnlmlcfipbnpgaaDoor.Ab
