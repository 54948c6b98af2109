/- Own work. Condition: what each theorem names. -/
import Derived.Test.YtnlmlcfipbnpgaaDoorTabT0
namespace Go.Proofs.YtnlmlcfipbnpgaaDoor.Ab
open Go Go.AI
noncomputable section
set_option linter.all false
set_option maxRecDepth 100000
def c148:MFunc:=cF Tryd.f148 (.s .n (.k (.l 1 [0,1,2,3,8] (.s .n (.s (.k (.s .n (.k (.l 2 [0,1,2,3,8,9] .n)))) (.m 3 [0,1,2,3,8] .n))))))
def e148_0(O R q x0 x1 x2 x3 h):gI_0 5 148 149 164 170 123 O R q x0 x1 x2 x3 h=stepF c148 O R q 0 [x0,x1,x2,x3] h:=by kernel_rfl
def e148_1(O R q x0 x1 x2 x3 x8 h):gI_1 5 148 149 164 170 123 O R q x0 x1 x2 x3 x8 h=stepF c148 O R q 1 [x0,x1,x2,x3,x8] h:=by kernel_rfl
def e148_2(O R q x0 x1 x2 x3 x8 x9 h):gI_2 5 148 149 164 170 123 O R q x0 x1 x2 x3 x8 x9 h=stepF c148 O R q 2 [x0,x1,x2,x3,x8,x9] h:=by kernel_rfl
def e148_3(O R q x0 x1 x2 x3 x8 h):gI_3 5 148 149 164 170 123 O R q x0 x1 x2 x3 x8 h=stepF c148 O R q 3 [x0,x1,x2,x3,x8] h:=by kernel_rfl
def d148:BlkF:=λO R Q=>[.s λa=>.s λb=>.s λc=>.s λd=>.z (gI_0 5 148 149 164 170 123 O R Q a b c d),.s λa=>.s λb=>.s λc=>.s λd=>.s λe=>.z (gI_1 5 148 149 164 170 123 O R Q a b c d e),.s λa=>.s λb=>.s λc=>.s λd=>.s λe=>.s λf=>.z (gI_2 5 148 149 164 170 123 O R Q a b c d e f),.s λa=>.s λb=>.s λc=>.s λd=>.s λe=>.z (gI_3 5 148 149 164 170 123 O R Q a b c d e)]
def o148(O R q):HoldsAll c148 O R q 0 (d148 O R q):=⟨e148_0 O R q,e148_1 O R q,e148_2 O R q,e148_3 O R q,trivial⟩
def c149:MFunc:=cF Tryd.f149 (.s (.s .n (.s (.s .n (.s .n (.s (.k (.l 1 [0,1,4,10,11] .n)) (.m 2 [0,1,10] (.s (.s .n (.k (.l 3 [0,10,13] .n))) (.m 4 [] .n)))))) .n)) (.m 5 [0,1,2,3,4] (.s (.s .n (.s (.s .n (.s .n (.s (.k (.l 6 [0,2,4,14,15] .n)) (.m 7 [0,2,14] (.s (.s .n (.k (.l 8 [0,14,17] .n))) (.m 9 [] .n)))))) .n)) (.m 10 [0,1,2,3,4] (.s .n (.s .n (.s .n (.s .n (.m 11 [0,1,2,3,4,18,19,20,21] (.s .n (.s (.k (.l 12 [0,1,2,3,4,18,19,20,21,22] .n)) (.m 13 [0,1,2,3,4,18,19,20] (.s .n (.s .n (.m 14 [0,1,3,4,18,20,24] (.s .n (.m 15 [0,3,4,18,24] .n)))))))))))))))))
def e149_0(O R q x0 x1 x2 x3 x4 h):gM_0 5 148 149 164 170 123 O R q x0 x1 x2 x3 x4 h=stepF c149 O R q 0 [x0,x1,x2,x3,x4] h:=by kernel_rfl
def e149_1(O R q x0 x1 x4 x10 x11 h):gM_1 5 148 149 164 170 123 O R q x0 x1 x4 x10 x11 h=stepF c149 O R q 1 [x0,x1,x4,x10,x11] h:=by kernel_rfl
def e149_2(O R q x0 x1 x10 h):gM_2 5 148 149 164 170 123 O R q x0 x1 x10 h=stepF c149 O R q 2 [x0,x1,x10] h:=by kernel_rfl
def e149_3(O R q x0 x10 x13 h):gM_3 5 148 149 164 170 123 O R q x0 x10 x13 h=stepF c149 O R q 3 [x0,x10,x13] h:=by kernel_rfl
def e149_4(O R q h):gM_4 5 148 149 164 170 123 O R q  h=stepF c149 O R q 4 [] h:=by kernel_rfl
def e149_5(O R q x0 x1 x2 x3 x4 h):gM_5 5 148 149 164 170 123 O R q x0 x1 x2 x3 x4 h=stepF c149 O R q 5 [x0,x1,x2,x3,x4] h:=by kernel_rfl
def e149_6(O R q x0 x2 x4 x14 x15 h):gM_6 5 148 149 164 170 123 O R q x0 x2 x4 x14 x15 h=stepF c149 O R q 6 [x0,x2,x4,x14,x15] h:=by kernel_rfl
def e149_7(O R q x0 x2 x14 h):gM_7 5 148 149 164 170 123 O R q x0 x2 x14 h=stepF c149 O R q 7 [x0,x2,x14] h:=by kernel_rfl
def e149_8(O R q x0 x14 x17 h):gM_8 5 148 149 164 170 123 O R q x0 x14 x17 h=stepF c149 O R q 8 [x0,x14,x17] h:=by kernel_rfl
def e149_9(O R q h):gM_9 5 148 149 164 170 123 O R q  h=stepF c149 O R q 9 [] h:=by kernel_rfl
def e149_10(O R q x0 x1 x2 x3 x4 h):gM_10 5 148 149 164 170 123 O R q x0 x1 x2 x3 x4 h=stepF c149 O R q 10 [x0,x1,x2,x3,x4] h:=by kernel_rfl
def e149_11(O R q x0 x1 x2 x3 x4 x18 x19 x20 x21 h):gM_11 5 148 149 164 170 123 O R q x0 x1 x2 x3 x4 x18 x19 x20 x21 h=stepF c149 O R q 11 [x0,x1,x2,x3,x4,x18,x19,x20,x21] h:=by kernel_rfl
def e149_12(O R q x0 x1 x2 x3 x4 x18 x19 x20 x21 x22 h):gM_12 5 148 149 164 170 123 O R q x0 x1 x2 x3 x4 x18 x19 x20 x21 x22 h=stepF c149 O R q 12 [x0,x1,x2,x3,x4,x18,x19,x20,x21,x22] h:=by kernel_rfl
def e149_13(O R q x0 x1 x2 x3 x4 x18 x19 x20 h):gM_13 5 148 149 164 170 123 O R q x0 x1 x2 x3 x4 x18 x19 x20 h=stepF c149 O R q 13 [x0,x1,x2,x3,x4,x18,x19,x20] h:=by kernel_rfl
def e149_14(O R q x0 x1 x3 x4 x18 x20 x24 h):gM_14 5 148 149 164 170 123 O R q x0 x1 x3 x4 x18 x20 x24 h=stepF c149 O R q 14 [x0,x1,x3,x4,x18,x20,x24] h:=by kernel_rfl
def e149_15(O R q x0 x3 x4 x18 x24 h):gM_15 5 148 149 164 170 123 O R q x0 x3 x4 x18 x24 h=stepF c149 O R q 15 [x0,x3,x4,x18,x24] h:=by kernel_rfl
def d149:BlkF:=λO R Q=>[.s λa=>.s λb=>.s λc=>.s λd=>.s λe=>.z (gM_0 5 148 149 164 170 123 O R Q a b c d e),.s λa=>.s λb=>.s λc=>.s λd=>.s λe=>.z (gM_1 5 148 149 164 170 123 O R Q a b c d e),.s λa=>.s λb=>.s λc=>.z (gM_2 5 148 149 164 170 123 O R Q a b c),.s λa=>.s λb=>.s λc=>.z (gM_3 5 148 149 164 170 123 O R Q a b c),.z (gM_4 5 148 149 164 170 123 O R Q ),.s λa=>.s λb=>.s λc=>.s λd=>.s λe=>.z (gM_5 5 148 149 164 170 123 O R Q a b c d e),.s λa=>.s λb=>.s λc=>.s λd=>.s λe=>.z (gM_6 5 148 149 164 170 123 O R Q a b c d e),.s λa=>.s λb=>.s λc=>.z (gM_7 5 148 149 164 170 123 O R Q a b c),.s λa=>.s λb=>.s λc=>.z (gM_8 5 148 149 164 170 123 O R Q a b c),.z (gM_9 5 148 149 164 170 123 O R Q ),.s λa=>.s λb=>.s λc=>.s λd=>.s λe=>.z (gM_10 5 148 149 164 170 123 O R Q a b c d e),.s λa=>.s λb=>.s λc=>.s λd=>.s λe=>.s λf=>.s λg=>.s λh=>.s λi=>.z (gM_11 5 148 149 164 170 123 O R Q a b c d e f g h i),.s λa=>.s λb=>.s λc=>.s λd=>.s λe=>.s λf=>.s λg=>.s λh=>.s λi=>.s λj=>.z (gM_12 5 148 149 164 170 123 O R Q a b c d e f g h i j),.s λa=>.s λb=>.s λc=>.s λd=>.s λe=>.s λf=>.s λg=>.s λh=>.z (gM_13 5 148 149 164 170 123 O R Q a b c d e f g h),.s λa=>.s λb=>.s λc=>.s λd=>.s λe=>.s λf=>.s λg=>.z (gM_14 5 148 149 164 170 123 O R Q a b c d e f g),.s λa=>.s λb=>.s λc=>.s λd=>.s λe=>.z (gM_15 5 148 149 164 170 123 O R Q a b c d e)]
def o149(O R q):HoldsAll c149 O R q 0 (d149 O R q):=⟨e149_0 O R q,e149_1 O R q,e149_2 O R q,e149_3 O R q,e149_4 O R q,e149_5 O R q,e149_6 O R q,e149_7 O R q,e149_8 O R q,e149_9 O R q,e149_10 O R q,e149_11 O R q,e149_12 O R q,e149_13 O R q,e149_14 O R q,e149_15 O R q,trivial⟩
def c161:MFunc:=cF Tryd.f161 .n
def b161_0:B_2:=λO R q x0 x1 h=>vcall O (F_ 130) [x0,x1] h 7 λx7 h=>vif x7 (vlen O 0 x1 h 10 λx10 h=>vop O (.slice 0 true (.k x0) (some (.k x10)) none none) h 11 λx11 h=>tcomp x11 λc0=>vfin true q [c0] h) (tcomp x0 λc0=>vfin true q [c0] h)
def e161_0(O R q x0 x1 h):b161_0 O R q x0 x1 h=stepF c161 O R q 0 [x0,x1] h:=by kernel_rfl
def d161:BlkF:=λO R Q=>[S2 (b161_0 O R Q)]
def o161(O R q):HoldsAll c161 O R q 0 (d161 O R q):=⟨e161_0 O R q,trivial⟩
def c164:MFunc:=cF Tryd.f164 (.s .n (.s .n (.s (.k (.l 1 [0,2,4,10,11] .n)) (.m 2 [0,2,4,10] .n))))
def e164_0(O R q x0 x1 x2 x3 x4 h):gR_0 5 148 149 164 170 123 O R q x0 x1 x2 x3 x4 h=stepF c164 O R q 0 [x0,x1,x2,x3,x4] h:=by kernel_rfl
def e164_1(O R q x0 x2 x4 x10 x11 h):gR_1 5 148 149 164 170 123 O R q x0 x2 x4 x10 x11 h=stepF c164 O R q 1 [x0,x2,x4,x10,x11] h:=by kernel_rfl
def e164_2(O R q x0 x2 x4 x10 h):gR_2 5 148 149 164 170 123 O R q x0 x2 x4 x10 h=stepF c164 O R q 2 [x0,x2,x4,x10] h:=by kernel_rfl
def d164:BlkF:=λO R Q=>[.s λa=>.s λb=>.s λc=>.s λd=>.s λe=>.z (gR_0 5 148 149 164 170 123 O R Q a b c d e),.s λa=>.s λb=>.s λc=>.s λd=>.s λe=>.z (gR_1 5 148 149 164 170 123 O R Q a b c d e),.s λa=>.s λb=>.s λc=>.s λd=>.z (gR_2 5 148 149 164 170 123 O R Q a b c d)]
def o164(O R q):HoldsAll c164 O R q 0 (d164 O R q):=⟨e164_0 O R q,e164_1 O R q,e164_2 O R q,trivial⟩
def c170:MFunc:=cF Tryd.f170 (.s .n (.k (.l 1 [0,1,2,3,10] .n)))
def e170_0(O R q x0 x1 x2 x3 x4 h):gS_0 5 148 149 164 170 123 O R q x0 x1 x2 x3 x4 h=stepF c170 O R q 0 [x0,x1,x2,x3,x4] h:=by kernel_rfl
def e170_1(O R q x0 x1 x2 x3 x10 h):gS_1 5 148 149 164 170 123 O R q x0 x1 x2 x3 x10 h=stepF c170 O R q 1 [x0,x1,x2,x3,x10] h:=by kernel_rfl
def d170:BlkF:=λO R Q=>[.s λa=>.s λb=>.s λc=>.s λd=>.s λe=>.z (gS_0 5 148 149 164 170 123 O R Q a b c d e),.s λa=>.s λb=>.s λc=>.s λd=>.s λe=>.z (gS_1 5 148 149 164 170 123 O R Q a b c d e)]
def o170(O R q):HoldsAll c170 O R q 0 (d170 O R q):=⟨e170_0 O R q,e170_1 O R q,trivial⟩
end
end Go.Proofs.YtnlmlcfipbnpgaaDoor.Ab
