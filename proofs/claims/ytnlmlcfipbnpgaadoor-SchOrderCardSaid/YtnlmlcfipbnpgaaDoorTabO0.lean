/- Functions of the given program as the abstract interpreter has them (part 0),printed by a program of our own; each is shown to be what 'compF' makes of the given program's. No condition. -/
import Derived.Test.YtnlmlcfipbnpgaaDoorChecked
import Derived.Test.YtnlmlcfipbnpgaaDoorAd
namespace Go.Proofs.YtnlmlcfipbnpgaaDoor.Ab
open Go Go.AI
noncomputable section
set_option linter.all false
set_option linter.unusedVariables false
set_option maxRecDepth 100000
def vals0:List Int:=[0,0,0,0,0,0,0,0,0,1,1,1,1,1,0,0,0,0,0,0,0,0,0,0,0,0,0,0,0,0,0,0,1,0,0,0,0,0,0,0,0,0,0,0,0,0,0,0,0,0,0,0,0,0,0,0,0,0,0,0,0,0,0,0,0,0,0,0,0,0,0,0,0,0,0,0,0,0,0,0,0,0,0,0,0,0,0,0,0,0,0,0,0,0,0,0,0,0,0,0,0,0,0,0,0,0,0,0,0,0,0,0,0,0,0,0,0,0,0,0,0,0,0,0,0,0,0,0,0,0,0,0,0,0,0,0,0,0,0,0,0,0,0,0,0,0,0,0,0,0,0,0,0,0,0,0,0,0,0,0,0,0,0,0,0,0,0,0,0,0,0,0,0,0,0,0,0,0,0,0,0,0,0,0,0,0,0,0,0,0,0,0,0,0,0,0,0,0,0,0,0,0,0,0,0,0,0,0,0,0,0,0,0,0,0,0,0,0,0,0,0,0,0,0,0,0,0,0,0,0,0,0,0,0,0,0,0,0,0,0,0,0,0,0,0,0,0,0,0,0,0,0,0,0,0,0]
def tabs:List Tabl:=[Tabl.mk "strings.asciiSpace" 1 .u8 [0,0,0,0,0,0,0,0,0,1,1,1,1,1,0,0,0,0,0,0,0,0,0,0,0,0,0,0,0,0,0,0,1,0,0,0,0,0,0,0,0,0,0,0,0,0,0,0,0,0,0,0,0,0,0,0,0,0,0,0,0,0,0,0,0,0,0,0,0,0,0,0,0,0,0,0,0,0,0,0,0,0,0,0,0,0,0,0,0,0,0,0,0,0,0,0,0,0,0,0,0,0,0,0,0,0,0,0,0,0,0,0,0,0,0,0,0,0,0,0,0,0,0,0,0,0,0,0,0,0,0,0,0,0,0,0,0,0,0,0,0,0,0,0,0,0,0,0,0,0,0,0,0,0,0,0,0,0,0,0,0,0,0,0,0,0,0,0,0,0,0,0,0,0,0,0,0,0,0,0,0,0,0,0,0,0,0,0,0,0,0,0,0,0,0,0,0,0,0,0,0,0,0,0,0,0,0,0,0,0,0,0,0,0,0,0,0,0,0,0,0,0,0,0,0,0,0,0,0,0,0,0,0,0,0,0,0,0,0,0,0,0,0,0,0,0,0,0,0,0,0,0,0,0,0,0]]
def opq:Option Nat:=some 0
def gE_0(z fI fM fR fS fT:Nat)(O:Oracle)(R:Jump)(q:Nat)(x0 x1:TVal)(h:Heap):Res1 :=
 vlen O 2 x0 h 6 λx6 h =>
 vcall O (.v (.c (.func fT []))) [x0,x6,x1] h 8 λx8 h =>
 vfin true q [] h
def gI_0(z fI fM fR fS fT:Nat)(O:Oracle)(R:Jump)(q:Nat)(x0 x1 x2 x3:TVal)(h:Heap):Res1 :=
 vbin .add 0 x1 (kI 1) h λx11 h =>
 R 1 [x0,x1,x2,x3,x11] h
def gI_1(z fI fM fR fS fT:Nat)(O:Oracle)(R:Jump)(q:Nat)(x0 x1 x2 x3 x8:TVal)(h:Heap):Res1 :=
 vbin .lss 0 x8 x2 h λx14 h =>
 vif x14 (
 R 2 [x0,x1,x2,x3,x8,x8] h)
 (vfin true q [] h)
def gI_2(z fI fM fR fS fT:Nat)(O:Oracle)(R:Jump)(q:Nat)(x0 x1 x2 x3 x8 x9:TVal)(h:Heap):Res1 :=
 vbin .gtr 0 x9 x1 h λx20 h =>
 vguard x20 true (λkk=>kk x3 h) h λx22 h =>
 vguard x20 true (λkk=>kk x0 h) h λx23 h =>
 vguard x20 true (λkk=>kk x9 h) h λx24 h =>
 vguard x20 true (λkk=>viaddr z x23 x24 h kk) h λx25 h =>
 vguard x20 true (λkk=>vload true z x25 h kk) h λx26 h =>
 vguard x20 true (λkk=>kk x0 h) h λx27 h =>
 vguard x20 true (λkk=>kk x9 h) h λx28 h =>
 vguard x20 true (λkk=>vbin .sub 0 x28 (kI 1) h kk) h λx29 h =>
 vguard x20 true (λkk=>viaddr z x27 x29 h kk) h λx30 h =>
 vguard x20 true (λkk=>vload true z x30 h kk) h λx31 h =>
 vguard x20 true (λkk=>vcall O x22 [x26,x31] h 32 kk) h λx32 h =>
 vguard x20 true (λkk=>vbin .lss 0 x32 (kI 0) h kk) h λx33 h =>
 vop O (.pick (.k x20) (.k x33) (.k (kB false))) h 34 λx34 h =>
 vif x34 (
 vbin .sub 0 x9 (kI 1) h λx41 h =>
 vbin .sub 0 x9 (kI 1) h λx44 h =>
 viaddr z x0 x44 h λx45 h =>
 vload true z x45 h λx46 h =>
 viaddr z x0 x9 h λx49 h =>
 vload true z x49 h λx50 h =>
 viaddr z x0 x9 h λx51 h =>
 vstore z x51 x46 h λ_ h =>
 viaddr z x0 x41 h λx52 h =>
 vstore z x52 x50 h λ_ h =>
 vbin .sub 0 x9 (kI 1) h λx36 h =>
 R 2 [x0,x1,x2,x3,x8,x36] h)
 (R 3 [x0,x1,x2,x3,x8] h)
def gI_3(z fI fM fR fS fT:Nat)(O:Oracle)(R:Jump)(q:Nat)(x0 x1 x2 x3 x8:TVal)(h:Heap):Res1 :=
 vbin .add 0 x8 (kI 1) h λx16 h =>
 R 1 [x0,x1,x2,x3,x16] h
def gM_0(z fI fM fR fS fT:Nat)(O:Oracle)(R:Jump)(q:Nat)(x0 x1 x2 x3 x4:TVal)(h:Heap):Res1 :=
 vbin .sub 0 x2 x1 h λx27 h =>
 vbin .eql 0 x27 (kI 1) h λx28 h =>
 vif x28 (
 R 1 [x0,x1,x4,x2,x3] h)
 (R 5 [x0,x1,x2,x3,x4] h)
def gM_1(z fI fM fR fS fT:Nat)(O:Oracle)(R:Jump)(q:Nat)(x0 x1 x4 x10 x11:TVal)(h:Heap):Res1 :=
 vbin .lss 0 x10 x11 h λx33 h =>
 vif x33 (
 vbin .add 0 x10 x11 h λx36 h =>
 vtoInt .u64 x36 h λx37 h =>
 vbin .shr 0 x37 (.v (.c (.p (.int .u64 1)))) h λx38 h =>
 vtoInt .i64 x38 h λx39 h =>
 viaddr z x0 x39 h λx43 h =>
 vload true z x43 h λx44 h =>
 viaddr z x0 x1 h λx47 h =>
 vload true z x47 h λx48 h =>
 vcall O x4 [x44,x48] h 49 λx49 h =>
 vbin .lss 0 x49 (kI 0) h λx50 h =>
 vif x50 (
 vbin .add 0 x39 (kI 1) h λx52 h =>
 R 1 [x0,x1,x4,x52,x11] h)
 (R 1 [x0,x1,x4,x10,x39] h))
 (R 2 [x0,x1,x10] h)
def gM_2(z fI fM fR fS fT:Nat)(O:Oracle)(R:Jump)(q:Nat)(x0 x1 x10:TVal)(h:Heap):Res1 :=
 R 3 [x0,x10,x1] h
def gM_3(z fI fM fR fS fT:Nat)(O:Oracle)(R:Jump)(q:Nat)(x0 x10 x13:TVal)(h:Heap):Res1 :=
 vbin .sub 0 x10 (kI 1) h λx57 h =>
 vbin .lss 0 x13 x57 h λx58 h =>
 vif x58 (
 vbin .add 0 x13 (kI 1) h λx65 h =>
 vbin .add 0 x13 (kI 1) h λx68 h =>
 viaddr z x0 x68 h λx69 h =>
 vload true z x69 h λx70 h =>
 viaddr z x0 x13 h λx73 h =>
 vload true z x73 h λx74 h =>
 viaddr z x0 x13 h λx75 h =>
 vstore z x75 x70 h λ_ h =>
 viaddr z x0 x65 h λx76 h =>
 vstore z x76 x74 h λ_ h =>
 vbin .add 0 x13 (kI 1) h λx60 h =>
 R 3 [x0,x10,x60] h)
 (R 4 [] h)
def gM_4(z fI fM fR fS fT:Nat)(O:Oracle)(R:Jump)(q:Nat)(h:Heap):Res1 :=
 vfin true q [] h
def gM_5(z fI fM fR fS fT:Nat)(O:Oracle)(R:Jump)(q:Nat)(x0 x1 x2 x3 x4:TVal)(h:Heap):Res1 :=
 vbin .sub 0 x3 x2 h λx79 h =>
 vbin .eql 0 x79 (kI 1) h λx80 h =>
 vif x80 (
 R 6 [x0,x2,x4,x1,x2] h)
 (R 10 [x0,x1,x2,x3,x4] h)
def gM_6(z fI fM fR fS fT:Nat)(O:Oracle)(R:Jump)(q:Nat)(x0 x2 x4 x14 x15:TVal)(h:Heap):Res1 :=
 vbin .lss 0 x14 x15 h λx85 h =>
 vif x85 (
 vbin .add 0 x14 x15 h λx88 h =>
 vtoInt .u64 x88 h λx89 h =>
 vbin .shr 0 x89 (.v (.c (.p (.int .u64 1)))) h λx90 h =>
 vtoInt .i64 x90 h λx91 h =>
 viaddr z x0 x2 h λx95 h =>
 vload true z x95 h λx96 h =>
 viaddr z x0 x91 h λx99 h =>
 vload true z x99 h λx100 h =>
 vcall O x4 [x96,x100] h 101 λx101 h =>
 vbin .lss 0 x101 (kI 0) h λx102 h =>
 vop O (.un .not (.k x102)) h 103 λx103 h =>
 vif x103 (
 vbin .add 0 x91 (kI 1) h λx105 h =>
 R 6 [x0,x2,x4,x105,x15] h)
 (R 6 [x0,x2,x4,x14,x91] h))
 (R 7 [x0,x2,x14] h)
def gM_7(z fI fM fR fS fT:Nat)(O:Oracle)(R:Jump)(q:Nat)(x0 x2 x14:TVal)(h:Heap):Res1 :=
 R 8 [x0,x14,x2] h
def gM_8(z fI fM fR fS fT:Nat)(O:Oracle)(R:Jump)(q:Nat)(x0 x14 x17:TVal)(h:Heap):Res1 :=
 vbin .gtr 0 x17 x14 h λx110 h =>
 vif x110 (
 vbin .sub 0 x17 (kI 1) h λx117 h =>
 vbin .sub 0 x17 (kI 1) h λx120 h =>
 viaddr z x0 x120 h λx121 h =>
 vload true z x121 h λx122 h =>
 viaddr z x0 x17 h λx125 h =>
 vload true z x125 h λx126 h =>
 viaddr z x0 x17 h λx127 h =>
 vstore z x127 x122 h λ_ h =>
 viaddr z x0 x117 h λx128 h =>
 vstore z x128 x126 h λ_ h =>
 vbin .sub 0 x17 (kI 1) h λx112 h =>
 R 8 [x0,x14,x112] h)
 (R 9 [] h)
def gM_9(z fI fM fR fS fT:Nat)(O:Oracle)(R:Jump)(q:Nat)(h:Heap):Res1 :=
 vfin true q [] h
def gM_10(z fI fM fR fS fT:Nat)(O:Oracle)(R:Jump)(q:Nat)(x0 x1 x2 x3 x4:TVal)(h:Heap):Res1 :=
 vbin .add 0 x1 x3 h λx131 h =>
 vtoInt .u64 x131 h λx132 h =>
 vbin .shr 0 x132 (.v (.c (.p (.int .u64 1)))) h λx133 h =>
 vtoInt .i64 x133 h λx134 h =>
 vbin .add 0 x134 x2 h λx137 h =>
 vbin .gtr 0 x2 x134 h λx140 h =>
 vif x140 (
 vbin .sub 0 x137 x3 h λx143 h =>
 R 11 [x0,x1,x2,x3,x4,x134,x137,x143,x134] h)
 (R 11 [x0,x1,x2,x3,x4,x134,x137,x1,x2] h)
def gM_11(z fI fM fR fS fT:Nat)(O:Oracle)(R:Jump)(q:Nat)(x0 x1 x2 x3 x4 x18 x19 x20 x21:TVal)(h:Heap):Res1 :=
 vbin .sub 0 x19 (kI 1) h λx148 h =>
 R 12 [x0,x1,x2,x3,x4,x18,x19,x20,x21,x148] h
def gM_12(z fI fM fR fS fT:Nat)(O:Oracle)(R:Jump)(q:Nat)(x0 x1 x2 x3 x4 x18 x19 x20 x21 x22:TVal)(h:Heap):Res1 :=
 vbin .lss 0 x20 x21 h λx151 h =>
 vif x151 (
 vbin .add 0 x20 x21 h λx154 h =>
 vtoInt .u64 x154 h λx155 h =>
 vbin .shr 0 x155 (.v (.c (.p (.int .u64 1)))) h λx156 h =>
 vtoInt .i64 x156 h λx157 h =>
 vbin .sub 0 x22 x157 h λx162 h =>
 viaddr z x0 x162 h λx163 h =>
 vload true z x163 h λx164 h =>
 viaddr z x0 x157 h λx167 h =>
 vload true z x167 h λx168 h =>
 vcall O x4 [x164,x168] h 169 λx169 h =>
 vbin .lss 0 x169 (kI 0) h λx170 h =>
 vop O (.un .not (.k x170)) h 171 λx171 h =>
 vif x171 (
 vbin .add 0 x157 (kI 1) h λx173 h =>
 R 12 [x0,x1,x2,x3,x4,x18,x19,x173,x21,x22] h)
 (R 12 [x0,x1,x2,x3,x4,x18,x19,x20,x157,x22] h))
 (R 13 [x0,x1,x2,x3,x4,x18,x19,x20] h)
def gM_13(z fI fM fR fS fT:Nat)(O:Oracle)(R:Jump)(q:Nat)(x0 x1 x2 x3 x4 x18 x19 x20:TVal)(h:Heap):Res1 :=
 vbin .sub 0 x19 x20 h λx177 h =>
 vbin .lss 0 x20 x2 h λx180 h =>
 vguard x180 true (λkk=>kk x2 h) h λx182 h =>
 vguard x180 true (λkk=>kk x177 h) h λx183 h =>
 vguard x180 true (λkk=>vbin .lss 0 x182 x183 h kk) h λx184 h =>
 vop O (.pick (.k x180) (.k x184) (.k (kB false))) h 185 λx185 h =>
 vif x185 (
 vcall O (.v (.c (.func fR []))) [x0,x20,x2,x177,x4] h 191 λx191 h =>
 R 14 [x0,x1,x3,x4,x18,x20,x177] h)
 (R 14 [x0,x1,x3,x4,x18,x20,x177] h)
def gM_14(z fI fM fR fS fT:Nat)(O:Oracle)(R:Jump)(q:Nat)(x0 x1 x3 x4 x18 x20 x24:TVal)(h:Heap):Res1 :=
 vbin .lss 0 x1 x20 h λx194 h =>
 vguard x194 true (λkk=>kk x20 h) h λx196 h =>
 vguard x194 true (λkk=>kk x18 h) h λx197 h =>
 vguard x194 true (λkk=>vbin .lss 0 x196 x197 h kk) h λx198 h =>
 vop O (.pick (.k x194) (.k x198) (.k (kB false))) h 199 λx199 h =>
 vif x199 (
 vcall O (.v (.c (.func fM []))) [x0,x1,x20,x18,x4] h 205 λx205 h =>
 R 15 [x0,x3,x4,x18,x24] h)
 (R 15 [x0,x3,x4,x18,x24] h)
def gM_15(z fI fM fR fS fT:Nat)(O:Oracle)(R:Jump)(q:Nat)(x0 x3 x4 x18 x24:TVal)(h:Heap):Res1 :=
 vbin .lss 0 x18 x24 h λx208 h =>
 vguard x208 true (λkk=>kk x24 h) h λx210 h =>
 vguard x208 true (λkk=>kk x3 h) h λx211 h =>
 vguard x208 true (λkk=>vbin .lss 0 x210 x211 h kk) h λx212 h =>
 vop O (.pick (.k x208) (.k x212) (.k (kB false))) h 213 λx213 h =>
 vif x213 (
 vcall O (.v (.c (.func fM []))) [x0,x18,x24,x3,x4] h 219 λx219 h =>
 vfin true q [] h)
 (vfin true q [] h)
def gR_0(z fI fM fR fS fT:Nat)(O:Oracle)(R:Jump)(q:Nat)(x0 x1 x2 x3 x4:TVal)(h:Heap):Res1 :=
 vbin .sub 0 x2 x1 h λx14 h =>
 vbin .sub 0 x3 x2 h λx17 h =>
 R 1 [x0,x2,x4,x14,x17] h
def gR_1(z fI fM fR fS fT:Nat)(O:Oracle)(R:Jump)(q:Nat)(x0 x2 x4 x10 x11:TVal)(h:Heap):Res1 :=
 vbin .neq 0 x10 x11 h λx20 h =>
 vif x20 (
 vbin .gtr 0 x10 x11 h λx23 h =>
 vif x23 (
 vbin .sub 0 x2 x10 h λx27 h =>
 vcall O (.v (.c (.func fS []))) [x0,x27,x2,x11,x4] h 31 λx31 h =>
 vbin .sub 0 x10 x11 h λx34 h =>
 R 1 [x0,x2,x4,x34,x11] h)
 (vbin .sub 0 x2 x10 h λx38 h =>
 vbin .add 0 x2 x11 h λx41 h =>
 vbin .sub 0 x41 x10 h λx43 h =>
 vcall O (.v (.c (.func fS []))) [x0,x38,x43,x10,x4] h 46 λx46 h =>
 vbin .sub 0 x11 x10 h λx49 h =>
 R 1 [x0,x2,x4,x10,x49] h))
 (R 2 [x0,x2,x4,x10] h)
def gR_2(z fI fM fR fS fT:Nat)(O:Oracle)(R:Jump)(q:Nat)(x0 x2 x4 x10:TVal)(h:Heap):Res1 :=
 vbin .sub 0 x2 x10 h λx53 h =>
 vcall O (.v (.c (.func fS []))) [x0,x53,x2,x10,x4] h 57 λx57 h =>
 vfin true q [] h
def gS_0(z fI fM fR fS fT:Nat)(O:Oracle)(R:Jump)(q:Nat)(x0 x1 x2 x3 x4:TVal)(h:Heap):Res1 :=
 R 1 [x0,x1,x2,x3,(kI 0)] h
def gS_1(z fI fM fR fS fT:Nat)(O:Oracle)(R:Jump)(q:Nat)(x0 x1 x2 x3 x10:TVal)(h:Heap):Res1 :=
 vbin .lss 0 x10 x3 h λx13 h =>
 vif x13 (
 vbin .add 0 x1 x10 h λx19 h =>
 vbin .add 0 x2 x10 h λx23 h =>
 vbin .add 0 x2 x10 h λx27 h =>
 viaddr z x0 x27 h λx28 h =>
 vload true z x28 h λx29 h =>
 vbin .add 0 x1 x10 h λx33 h =>
 viaddr z x0 x33 h λx34 h =>
 vload true z x34 h λx35 h =>
 viaddr z x0 x19 h λx36 h =>
 vstore z x36 x29 h λ_ h =>
 viaddr z x0 x23 h λx37 h =>
 vstore z x37 x35 h λ_ h =>
 vbin .add 0 x10 (kI 1) h λx15 h =>
 R 1 [x0,x1,x2,x3,x15] h)
 (vfin true q [] h)
def gT_0(z fI fM fR fS fT:Nat)(O:Oracle)(R:Jump)(q:Nat)(x0 x1 x2:TVal)(h:Heap):Res1 :=
 R 1 [x0,x1,x2,(kI 20),(kI 0),(kI 20)] h
def gT_1(z fI fM fR fS fT:Nat)(O:Oracle)(R:Jump)(q:Nat)(x0 x1 x2 x6 x7 x8:TVal)(h:Heap):Res1 :=
 vbin .leq 0 x8 x1 h λx13 h =>
 vif x13 (
 vcall O (.v (.c (.func fI []))) [x0,x7,x8,x2] h 18 λx18 h =>
 vbin .add 0 x8 x6 h λx22 h =>
 R 1 [x0,x1,x2,x6,x8,x22] h)
 (R 2 [x0,x1,x2,x6,x7] h)
def gT_2(z fI fM fR fS fT:Nat)(O:Oracle)(R:Jump)(q:Nat)(x0 x1 x2 x6 x7:TVal)(h:Heap):Res1 :=
 vcall O (.v (.c (.func fI []))) [x0,x7,x1,x2] h 27 λx27 h =>
 R 3 [x0,x1,x2,x6] h
def gT_3(z fI fM fR fS fT:Nat)(O:Oracle)(R:Jump)(q:Nat)(x0 x1 x2 x6:TVal)(h:Heap):Res1 :=
 vbin .lss 0 x6 x1 h λx30 h =>
 vif x30 (
 vbin .mul 0 (kI 2) x6 h λx32 h =>
 R 4 [x0,x1,x2,x6,(kI 0),x32] h)
 (vfin true q [] h)
def gT_4(z fI fM fR fS fT:Nat)(O:Oracle)(R:Jump)(q:Nat)(x0 x1 x2 x6 x7 x8:TVal)(h:Heap):Res1 :=
 vbin .leq 0 x8 x1 h λx35 h =>
 vif x35 (
 vbin .add 0 x7 x6 h λx40 h =>
 vcall O (.v (.c (.func fM []))) [x0,x7,x40,x8,x2] h 43 λx43 h =>
 vbin .mul 0 (kI 2) x6 h λx47 h =>
 vbin .add 0 x8 x47 h λx48 h =>
 R 4 [x0,x1,x2,x6,x8,x48] h)
 (R 5 [x0,x1,x2,x6,x7] h)
def gT_5(z fI fM fR fS fT:Nat)(O:Oracle)(R:Jump)(q:Nat)(x0 x1 x2 x6 x7:TVal)(h:Heap):Res1 :=
 vbin .add 0 x7 x6 h λx51 h =>
 vbin .lss 0 x51 x1 h λx54 h =>
 vif x54 (
 vcall O (.v (.c (.func fM []))) [x0,x7,x51,x1,x2] h 60 λx60 h =>
 R 6 [x0,x1,x2,x6] h)
 (R 6 [x0,x1,x2,x6] h)
def gT_6(z fI fM fR fS fT:Nat)(O:Oracle)(R:Jump)(q:Nat)(x0 x1 x2 x6:TVal)(h:Heap):Res1 :=
 vbin .mul 0 x6 (kI 2) h λx62 h =>
 R 3 [x0,x1,x2,x62] h
def c6:MFunc:=mkM (compF Tryd.prog (globs2 tabs opq) (λ_=>false) true Tryd.f6) (.s .n (.s .n (.s .n (.s (.s .n (.k (.l 1 [0,1,2,7,8] (.s .n (.s (.k (.s .n (.s (.s .n (.k (.l 2 [0,1,2,7,8,9,10] .n))) (.m 3 [0,1,2,7,8,9] .n)))) (.m 4 [0,1,2,7,8] .n)))))) (.m 5 [1,2,7] (.s .n (.s .n (.s .n (.s (.s .n (.k (.l 6 [2,7,11,12,13,14,15,16] (.s .n (.s (.k (.s .n (.s .n (.s .n (.m 7 [2,7,11,12,13,14,15,16,17,18,19] .n))))) .n))))) (.m 8 [2,7,11,12,13,14] (.s .n (.m 9 [2,11,12,13,14] .n))))))))))))
def b6_0(O:Oracle)(R:Jump)(q:Nat)(x0 x1 x2:TVal)(h:Heap):Res1 :=
 vcall O (.v (.c (.func 10 []))) [] h 28 λx28 h =>
 vop O (.un .not (.k x28)) h 29 λx29 h =>
 vif x29 (
 tcomp (kB false) λc0=>vfin true q [c0] h)
 (R 1 [x0,x1,x2,(.v (.c (.p .nilslice))),(kI 0)] h)
theorem e6_0(O R q x0 x1 x2 h):b6_0 O R q x0 x1 x2 h=stepF c6 O R q 0 [x0,x1,x2] h:=by kernel_rfl
def b6_1(O:Oracle)(R:Jump)(q:Nat)(x0 x1 x2 x7 x8:TVal)(h:Heap):Res1 :=
 vlen O 2 x0 h 32 λx32 h =>
 vbin .lss 0 x8 x32 h λx33 h =>
 vguard x33 true (λkk=>kk x8 h) h λx35 h =>
 vguard x33 true (λkk=>vbin .lss 0 x35 (kI 8) h kk) h λx36 h =>
 vop O (.pick (.k x33) (.k x36) (.k (kB false))) h 37 λx37 h =>
 vif x37 (
 R 2 [x0,x1,x2,x7,x8,(kB false),(kI 0)] h)
 (R 5 [x1,x2,x7] h)
theorem e6_1(O R q x0 x1 x2 x7 x8 h):b6_1 O R q x0 x1 x2 x7 x8 h=stepF c6 O R q 1 [x0,x1,x2,x7,x8] h:=by kernel_rfl
def b6_2(O:Oracle)(R:Jump)(q:Nat)(x0 x1 x2 x7 x8 x9 x10:TVal)(h:Heap):Res1 :=
 vlen O 2 x7 h 42 λx42 h =>
 vbin .lss 0 x10 x42 h λx43 h =>
 vif x43 (
 vtouch O (.mv (.k x9)) h 46 λx46 h t0 =>
 vtouch O (.mv (.k x46)) h 47 λx47 h t1 =>
 vguardT x47 false (λkk=>vtouch O (.mv (.k x7)) h 48 kk) h λx48 h t2 =>
 vguardT x47 false (λkk=>vtouch O (.mv (.k x10)) h 49 kk) h λx49 h t3 =>
 vguardT x47 false (λkk=>vtouch O (.iaddr 1 (.k x48) (.k x49)) h 50 kk) h λx50 h t4 =>
 vguardT x47 false (λkk=>vtouch O (.load false 1 (.k x50)) h 51 kk) h λx51 h t5 =>
 vguardT x47 false (λkk=>vtouch O (.mv (.k x0)) h 52 kk) h λx52 h t6 =>
 vguardT x47 false (λkk=>vtouch O (.mv (.k x8)) h 53 kk) h λx53 h t7 =>
 vguardT x47 false (λkk=>vtouch O (.iaddr 1 (.k x52) (.k x53)) h 54 kk) h λx54 h t8 =>
 vguardT x47 false (λkk=>vtouch O (.load false 1 (.k x54)) h 55 kk) h λx55 h t9 =>
 vguardT x47 false (λkk=>vtouch O (.call (.k (.v (.c (.func 21 [])))) [(.k x55)]) h 56 kk) h λx56 h t10 =>
 vguardT x47 false (λkk=>vtouch O (.bin .eql 0 (.k x51) (.k x56)) h 57 kk) h λx57 h t11 =>
 vtouch O (.pick (.k x47) (.k (kB true)) (.k x57)) h 58 λx58 h t12 =>
 vtouch O (.mv (.k x58)) h 9 λx9_1 h t13 =>
 bif apartAll [t0,t1,t2,t3,t4,t5,t6,t7,t8,t9,t10,t11,t12,t13] [(5,10)] then
 vbin .add 0 x10 (kI 1) h λx45 h =>
 R 2 [x0,x1,x2,x7,x8,x9_1,x45] h
 else none)
 (R 3 [x0,x1,x2,x7,x8,x9] h)
theorem e6_2(O R q x0 x1 x2 x7 x8 x9 x10 h):b6_2 O R q x0 x1 x2 x7 x8 x9 x10 h=stepF c6 O R q 2 [x0,x1,x2,x7,x8,x9,x10] h:=by kernel_rfl
def b6_3(O:Oracle)(R:Jump)(q:Nat)(x0 x1 x2 x7 x8 x9:TVal)(h:Heap):Res1 :=
 vop O (.un .not (.k x9)) h 60 λx60 h =>
 vif x60 (
 viaddr 1 x0 x8 h λx64 h =>
 vload false 1 x64 h λx65 h =>
 vcall O (.v (.c (.func 21 []))) [x65] h 66 λx66 h =>
 vop O (.bslice 1 1 [(.p (.str []))] [(0,(.k x66))] false) h 67 λx67 h =>
 vop O (.append 1 16 false (.k x7) (.k x67)) h 68 λx68 h =>
 R 4 [x0,x1,x2,x68,x8] h)
 (R 4 [x0,x1,x2,x7,x8] h)
theorem e6_3(O R q x0 x1 x2 x7 x8 x9 h):b6_3 O R q x0 x1 x2 x7 x8 x9 h=stepF c6 O R q 3 [x0,x1,x2,x7,x8,x9] h:=by kernel_rfl
def b6_4(O:Oracle)(R:Jump)(q:Nat)(x0 x1 x2 x7 x8:TVal)(h:Heap):Res1 :=
 vbin .add 0 x8 (kI 1) h λx39 h =>
 R 1 [x0,x1,x2,x7,x39] h
theorem e6_4(O R q x0 x1 x2 x7 x8 h):b6_4 O R q x0 x1 x2 x7 x8 h=stepF c6 O R q 4 [x0,x1,x2,x7,x8] h:=by kernel_rfl
def b6_5(O:Oracle)(R:Jump)(q:Nat)(x1 x2 x7:TVal)(h:Heap):Res1 :=
 vlen O 2 x7 h 70 λx70 h =>
 vbin .eql 0 x70 (kI 0) h λx71 h =>
 vif x71 (
 tcomp (kB true) λc0=>vfin true q [c0] h)
 (vlen O 2 x7 h 74 λx74 h =>
 vcall O (.v (.c (.func 19 []))) [x1,x74] h 75 λx75 h =>
 R 6 [x2,x7,(kS []),(kS []),(kS [100,97,116,97,32,73,110,116,59]),(kS [100,97,116,97,32,73,110,116,59]),x75,(kI 0)] h)
theorem e6_5(O R q x1 x2 x7 h):b6_5 O R q x1 x2 x7 h=stepF c6 O R q 5 [x1,x2,x7] h:=by kernel_rfl
def b6_6(O:Oracle)(R:Jump)(q:Nat)(x2 x7 x11 x12 x13 x14 x15 x16:TVal)(h:Heap):Res1 :=
 vlen O 2 x7 h 78 λx78 h =>
 vbin .lss 0 x16 x78 h λx79 h =>
 vif x79 (
 viaddr 1 x7 x16 h λx84 h =>
 vload false 1 x84 h λx85 h =>
 vbin .add 0 x16 x15 h λx89 h =>
 vlen O 2 x7 h 91 λx91 h =>
 vbin .rem 0 x89 x91 h λx92 h =>
 viaddr 1 x7 x92 h λx93 h =>
 vload false 1 x93 h λx94 h =>
 vbin .gtr 0 x16 (kI 0) h λx96 h =>
 vif x96 (
 R 7 [x2,x7,x11,x12,x13,x14,x15,x16,x85,x94,(kS [44])] h)
 (R 7 [x2,x7,x11,x12,x13,x14,x15,x16,x85,x94,(kS [])] h))
 (R 8 [x2,x7,x11,x12,x13,x14] h)
theorem e6_6(O R q x2 x7 x11 x12 x13 x14 x15 x16 h):b6_6 O R q x2 x7 x11 x12 x13 x14 x15 x16 h=stepF c6 O R q 6 [x2,x7,x11,x12,x13,x14,x15,x16] h:=by kernel_rfl
def b6_7(O:Oracle)(R:Jump)(q:Nat)(x2 x7 x11 x12 x13 x14 x15 x16 x17 x18 x19:TVal)(h:Heap):Res1 :=
 vbin .add 0 x11 x19 h λx99 h =>
 vbin .add 0 x99 x17 h λx101 h =>
 vbin .add 0 x101 (kS [58,73,110,116]) h λx102 h =>
 vbin .add 0 x12 x19 h λx105 h =>
 vbin .add 0 x105 x18 h λx107 h =>
 vbin .add 0 x107 (kS [58,73,110,116]) h λx108 h =>
 vbin .add 0 x13 (kS [116,121,112,101,32]) h λx110 h =>
 vbin .add 0 x110 x17 h λx112 h =>
 vbin .add 0 x112 (kS [61,66,111,111,108,59,102,110,32]) h λx113 h =>
 vbin .add 0 x113 x17 h λx115 h =>
 vbin .add 0 x115 (kS [40,41,45,62,73,110,116,59]) h λx116 h =>
 vbin .add 0 x14 (kS [116,121,112,101,32]) h λx118 h =>
 vbin .add 0 x118 x18 h λx120 h =>
 vbin .add 0 x120 (kS [61,66,111,111,108,59,102,110,32]) h λx121 h =>
 vbin .add 0 x121 x18 h λx123 h =>
 vbin .add 0 x123 (kS [40,41,45,62,73,110,116,59]) h λx124 h =>
 vbin .add 0 x16 (kI 1) h λx81 h =>
 R 6 [x2,x7,x102,x108,x116,x124,x15,x81] h
theorem e6_7(O R q x2 x7 x11 x12 x13 x14 x15 x16 x17 x18 x19 h):b6_7 O R q x2 x7 x11 x12 x13 x14 x15 x16 x17 x18 x19 h=stepF c6 O R q 7 [x2,x7,x11,x12,x13,x14,x15,x16,x17,x18,x19] h:=by kernel_rfl
def b6_8(O:Oracle)(R:Jump)(q:Nat)(x2 x7 x11 x12 x13 x14:TVal)(h:Heap):Res1 :=
 vif x2 (
 vbin .add 0 x12 (kS [44]) h λx127 h =>
 viaddr 1 x7 (kI 0) h λx129 h =>
 vload false 1 x129 h λx130 h =>
 vbin .add 0 x127 x130 h λx131 h =>
 vbin .add 0 x131 (kS [58,84,101,120,116]) h λx132 h =>
 vbin .add 0 x14 (kS [102,110,32]) h λx134 h =>
 viaddr 1 x7 (kI 0) h λx136 h =>
 vload false 1 x136 h λx137 h =>
 vbin .add 0 x134 x137 h λx138 h =>
 vbin .add 0 x138 (kS [40,41,45,62,73,110,116,59]) h λx139 h =>
 R 9 [x2,x11,x132,x13,x139] h)
 (R 9 [x2,x11,x12,x13,x14] h)
theorem e6_8(O R q x2 x7 x11 x12 x13 x14 h):b6_8 O R q x2 x7 x11 x12 x13 x14 h=stepF c6 O R q 8 [x2,x7,x11,x12,x13,x14] h:=by kernel_rfl
def b6_9(O:Oracle)(R:Jump)(q:Nat)(x2 x11 x12 x13 x14:TVal)(h:Heap):Res1 :=
 vbin .add 0 (kS [123]) x11 h λx142 h =>
 vbin .add 0 x142 (kS [125]) h λx143 h =>
 vcall O (.v (.c (.func 16 []))) [x143] h 144 λx144 h =>
 vext x144 0 h λx145 h =>
 vext x144 1 h λx146 h =>
 vop O (.alloc [(.p (.int .i64 0)),(.p (.str [])),(.p .nilslice),(.p .nilslice)] false) h 20 λx20 h =>
 vstore 4 x20 x145 h λ_ h =>
 vbin .add 0 (kS [123]) x12 h λx149 h =>
 vbin .add 0 x149 (kS [125]) h λx150 h =>
 vcall O (.v (.c (.func 16 []))) [x150] h 151 λx151 h =>
 vext x151 0 h λx152 h =>
 vext x151 1 h λx153 h =>
 vop O (.alloc [(.p (.int .i64 0)),(.p (.str [])),(.p .nilslice),(.p .nilslice)] false) h 22 λx22 h =>
 vstore 4 x22 x152 h λ_ h =>
 vcall O (.v (.c (.func 22 []))) [x13] h 156 λx156 h =>
 vext x156 0 h λx157 h =>
 vext x156 1 h λx158 h =>
 vop O (.alloc [(.p (.int .i64 0)),(.p (.str [])),(.p .nilslice),(.p .nilslice),(.p .nilslice),(.p .nilslice)] false) h 24 λx24 h =>
 vstore 6 x24 x157 h λ_ h =>
 vcall O (.v (.c (.func 22 []))) [x14] h 161 λx161 h =>
 vext x161 0 h λx162 h =>
 vext x161 1 h λx163 h =>
 vop O (.alloc [(.p (.int .i64 0)),(.p (.str [])),(.p .nilslice),(.p .nilslice),(.p .nilslice),(.p .nilslice)] false) h 26 λx26 h =>
 vstore 6 x26 x162 h λ_ h =>
 vbin .neq 0 x146 (kI 0) h λx165 h =>
 vguard x165 false (λkk=>kk x158 h) h λx167 h =>
 vguard x165 false (λkk=>vbin .neq 0 x167 (kI 0) h kk) h λx168 h =>
 vop O (.pick (.k x165) (.k (kB true)) (.k x168)) h 169 λx169 h =>
 vif x169 (
 tcomp (kB false) λc0=>vfin true q [c0] h)
 (vif x2 (
 vbin .eql 0 x153 (kI 6) h λx172 h =>
 vguard x172 true (λkk=>kk x163 h) h λx174 h =>
 vguard x172 true (λkk=>vbin .eql 0 x174 (kI 6) h kk) h λx175 h =>
 vop O (.pick (.k x172) (.k x175) (.k (kB false))) h 176 λx176 h =>
 tcomp x176 λc0=>vfin true q [c0] h)
 (vbin .eql 0 x153 (kI 0) h λx178 h =>
 vguard x178 true (λkk=>kk x163 h) h λx180 h =>
 vguard x178 true (λkk=>vbin .eql 0 x180 (kI 0) h kk) h λx181 h =>
 vop O (.pick (.k x178) (.k x181) (.k (kB false))) h 182 λx182 h =>
 vguard x182 true (λkk=>vload true 4 x20 h kk) h λx184 h =>
 vguard x182 true (λkk=>vload true 4 x22 h kk) h λx185 h =>
 vguard x182 true (λkk=>vcall O (.v (.c (.func 17 []))) [x184,x185] h 186 kk) h λx186 h =>
 vop O (.pick (.k x182) (.k x186) (.k (kB false))) h 187 λx187 h =>
 vguard x187 true (λkk=>vload true 6 x24 h kk) h λx189 h =>
 vguard x187 true (λkk=>vload true 6 x26 h kk) h λx190 h =>
 vguard x187 true (λkk=>vcall O (.v (.c (.func 23 []))) [x189,x190] h 191 kk) h λx191 h =>
 vop O (.pick (.k x187) (.k x191) (.k (kB false))) h 192 λx192 h =>
 tcomp x192 λc0=>vfin true q [c0] h))
theorem e6_9(O R q x2 x11 x12 x13 x14 h):b6_9 O R q x2 x11 x12 x13 x14 h=stepF c6 O R q 9 [x2,x11,x12,x13,x14] h:=by kernel_rfl
def d6:BlkF:=λO R Q=>[.s λa => .s λb => .s λc => .z (b6_0 O R Q a b c),.s λa => .s λb => .s λc => .s λd => .s λe => .z (b6_1 O R Q a b c d e),.s λa => .s λb => .s λc => .s λd => .s λe => .s λf => .s λg => .z (b6_2 O R Q a b c d e f g),.s λa => .s λb => .s λc => .s λd => .s λe => .s λf => .z (b6_3 O R Q a b c d e f),.s λa => .s λb => .s λc => .s λd => .s λe => .z (b6_4 O R Q a b c d e),.s λa => .s λb => .s λc => .z (b6_5 O R Q a b c),.s λa => .s λb => .s λc => .s λd => .s λe => .s λf => .s λg => .s λh => .z (b6_6 O R Q a b c d e f g h),.s λa => .s λb => .s λc => .s λd => .s λe => .s λf => .s λg => .s λh => .s λi => .s λj => .s λk => .z (b6_7 O R Q a b c d e f g h i j k),.s λa => .s λb => .s λc => .s λd => .s λe => .s λf => .z (b6_8 O R Q a b c d e f),.s λa => .s λb => .s λc => .s λd => .s λe => .z (b6_9 O R Q a b c d e)]
theorem o6(O:Oracle)(R:Jump)(q:Nat):HoldsAll c6 O R q 0 (d6 O R q):=⟨e6_0 O R q,e6_1 O R q,e6_2 O R q,e6_3 O R q,e6_4 O R q,e6_5 O R q,e6_6 O R q,e6_7 O R q,e6_8 O R q,e6_9 O R q,trivial⟩
def c10:MFunc:=mkM (compF Tryd.prog (globs2 tabs opq) (λ_=>false) true Tryd.f10) .n
def b10_0(O:Oracle)(R:Jump)(q:Nat)(h:Heap):Res1 :=
 vcall O (.v (.c (.func 16 []))) [(kS [123,98,58,32,73,110,116,44,32,97,58,32,84,101,120,116,125])] h 4 λx4 h =>
 vext x4 0 h λx5 h =>
 vext x4 1 h λx6 h =>
 vop O (.alloc [(.p (.int .i64 0)),(.p (.str [])),(.p .nilslice),(.p .nilslice)] false) h 1 λx1 h =>
 vstore 4 x1 x5 h λ_ h =>
 vbin .eql 0 x6 (kI 0) h λx8 h =>
 vguard x8 true (λkk=>vload true 4 x1 h kk) h λx10 h =>
 vguard x8 true (λkk=>vcall O (.v (.c (.func 14 []))) [x10] h 11 kk) h λx11 h =>
 vguard x8 true (λkk=>vbin .eql 0 x11 (kS [123,97,58,32,84,101,120,116,44,32,98,58,32,73,110,116,125]) h kk) h λx12 h =>
 vop O (.pick (.k x8) (.k x12) (.k (kB false))) h 13 λx13 h =>
 tcomp x13 λc0=>vfin true q [c0] h
theorem e10_0(O R q h):b10_0 O R q  h=stepF c10 O R q 0 [] h:=by kernel_rfl
def d10:BlkF:=λO R Q=>[.z (b10_0 O R Q )]
theorem o10(O:Oracle)(R:Jump)(q:Nat):HoldsAll c10 O R q 0 (d10 O R q):=⟨e10_0 O R q,trivial⟩
def c14:MFunc:=mkM (compF Tryd.prog (globs2 tabs opq) (λ_=>false) true Tryd.f14) (.s .n (.s .n (.s .n (.s (.s .n (.k (.l 1 [3,27,28,29] .n))) .n))))
def b14_0(O:Oracle)(R:Jump)(q:Nat)(x0:TVal)(h:Heap):Res1 :=
 vop O (.box (.k x0) false) h 1 λx1 h =>
 vfaddr 0 x1 h λx6 h =>
 vload false 1 x6 h λx7 h =>
 vbin .eql 0 x7 (kI 9) h λx9 h =>
 vif x9 (
 vfaddr 1 x1 h λx10 h =>
 vload false 1 x10 h λx11 h =>
 tcomp x11 λc0=>vfin true q [c0] h)
 (vbin .eql 0 x7 (kI 7) h λx13 h =>
 vif x13 (
 vload true 4 x1 h λx14 h =>
 vcall O (.v (.c (.func 31 []))) [x14] h 15 λx15 h =>
 tcomp x15 λc0=>vfin true q [c0] h)
 (vbin .eql 0 x7 (kI 8) h λx17 h =>
 vif x17 (
 vtouch O (.call (.k (.v (.c (.func 32 [])))) [(.k (kI 8))]) h 18 λx18 h t0 =>
 vtouch O (.bin .add 0 (.k x18) (.k (kS [32]))) h 19 λx19 h t1 =>
 vtouch O (.load true 4 (.k x1)) h 20 λx20 h t2 =>
 vtouch O (.call (.k (.v (.c (.func 31 [])))) [(.k x20)]) h 21 λx21 h t3 =>
 vtouch O (.bin .add 0 (.k x19) (.k x21)) h 22 λx22 h t4 =>
 vtouch O (.mv (.k x22)) h 2 λx2 h t5 =>
 bif apartAll [t0,t1,t2,t3,t4,t5] [(0,2)] then
 tcomp x2 λc0=>vfin true q [c0] h
 else none)
 (vfaddr 0 x1 h λx23 h =>
 vload false 1 x23 h λx24 h =>
 vcall O (.v (.c (.func 32 []))) [x24] h 25 λx25 h =>
 vfaddr 3 x1 h λx26 h =>
 vload false 1 x26 h λx27 h =>
 vlen O 2 x27 h 28 λx28 h =>
 R 1 [x25,x27,x28,(kI 0)] h)))
theorem e14_0(O R q x0 h):b14_0 O R q x0 h=stepF c14 O R q 0 [x0] h:=by kernel_rfl
def b14_1(O:Oracle)(R:Jump)(q:Nat)(x3 x27 x28 x29:TVal)(h:Heap):Res1 :=
 vbin .lss 0 x29 x28 h λx30 h =>
 vif x30 (
 viaddr 4 x27 x29 h λx31 h =>
 vload true 4 x31 h λx32 h =>
 vop O (.alloc [(.p (.int .i64 0)),(.p (.str [])),(.p .nilslice),(.p .nilslice)] false) h 5 λx5 h =>
 vstore 4 x5 x32 h λ_ h =>
 vload true 4 x5 h λx34 h =>
 vcall O (.v (.c (.func 14 []))) [x34] h 35 λx35 h =>
 vbin .add 0 (kS [60]) x35 h λx36 h =>
 vbin .add 0 x36 (kS [62]) h λx37 h =>
 vbin .add 0 x3 x37 h λx38 h =>
 vbin .add 0 x29 (kI 1) h λx39 h =>
 R 1 [x38,x27,x28,x39] h)
 (tcomp x3 λc0=>vfin true q [c0] h)
theorem e14_1(O R q x3 x27 x28 x29 h):b14_1 O R q x3 x27 x28 x29 h=stepF c14 O R q 1 [x3,x27,x28,x29] h:=by kernel_rfl
def d14:BlkF:=λO R Q=>[.s λa => .z (b14_0 O R Q a),.s λa => .s λb => .s λc => .s λd => .z (b14_1 O R Q a b c d)]
theorem o14(O:Oracle)(R:Jump)(q:Nat):HoldsAll c14 O R q 0 (d14 O R q):=⟨e14_0 O R q,e14_1 O R q,trivial⟩
def c16:MFunc:=mkM (compF Tryd.prog (globs2 tabs opq) (λ_=>false) true Tryd.f16) .n
def b16_0(O:Oracle)(R:Jump)(q:Nat)(x0:TVal)(h:Heap):Res1 :=
 vop O (.alloc [(.p (.int .i64 0)),(.p (.str [])),(.p .nilslice),(.p .nilslice)] false) h 2 λx2 h =>
 vcall O (.v (.c (.func 33 []))) [x0] h 8 λx8 h =>
 vcall O (.v (.c (.func 34 []))) [x8,(kI 1)] h 10 λx10 h =>
 vop O (.alloc [(.p (.int .i64 0)),(.p (.str [])),(.p .nilslice),(.p .nilslice)] false) h 5 λx5 h =>
 vstore 4 x5 x10 h λ_ h =>
 vcall O (.v (.c (.func 35 []))) [x8] h 12 λx12 h =>
 vbin .neq 0 x12 (kI 0) h λx14 h =>
 vif x14 (
 vop O (.build [(.p (.int .i64 0)),(.p (.str [])),(.p .nilslice),(.p .nilslice)] []) h 15 λx15 h =>
 vstore 4 x2 x15 h λ_ h =>
 vcell true 4 x2 h λc0=>tcomp x12 λc1=>vfin true q [c0,c1] h)
 (vload true 4 x5 h λx17 h =>
 vstore 4 x2 x17 h λ_ h =>
 vcell true 4 x2 h λc0=>tcomp (kI 0) λc1=>vfin true q [c0,c1] h)
theorem e16_0(O R q x0 h):b16_0 O R q x0 h=stepF c16 O R q 0 [x0] h:=by kernel_rfl
def d16:BlkF:=λO R Q=>[.s λa => .z (b16_0 O R Q a)]
theorem o16(O:Oracle)(R:Jump)(q:Nat):HoldsAll c16 O R q 0 (d16 O R q):=⟨e16_0 O R q,trivial⟩
def c17:MFunc:=mkM (compF Tryd.prog (globs2 tabs opq) (λ_=>false) true Tryd.f17) (.s .n (.s .n (.s (.s .n (.k (.l 1 [2,3,5] .n))) (.m 2 [2,3] (.s (.s .n (.k (.l 3 [2,3,6] .n))) .n)))))
def b17_0(O:Oracle)(R:Jump)(q:Nat)(x0 x1:TVal)(h:Heap):Res1 :=
 vop O (.box (.k x0) false) h 2 λx2 h =>
 vop O (.box (.k x1) false) h 3 λx3 h =>
 vfaddr 0 x2 h λx7 h =>
 vload false 1 x7 h λx8 h =>
 vfaddr 0 x3 h λx9 h =>
 vload false 1 x9 h λx10 h =>
 vbin .neq 0 x8 x10 h λx11 h =>
 vguard x11 false (λkk=>vfaddr 1 x2 h kk) h λx13 h =>
 vguard x11 false (λkk=>vload false 1 x13 h kk) h λx14 h =>
 vguard x11 false (λkk=>vfaddr 1 x3 h kk) h λx15 h =>
 vguard x11 false (λkk=>vload false 1 x15 h kk) h λx16 h =>
 vguard x11 false (λkk=>vbin .neq 0 x14 x16 h kk) h λx17 h =>
 vop O (.pick (.k x11) (.k (kB true)) (.k x17)) h 18 λx18 h =>
 vguard x18 false (λkk=>vfaddr 2 x2 h kk) h λx20 h =>
 vguard x18 false (λkk=>vload false 1 x20 h kk) h λx21 h =>
 vguard x18 false (λkk=>vlen O 2 x21 h 22 kk) h λx22 h =>
 vguard x18 false (λkk=>vfaddr 2 x3 h kk) h λx23 h =>
 vguard x18 false (λkk=>vload false 1 x23 h kk) h λx24 h =>
 vguard x18 false (λkk=>vlen O 2 x24 h 25 kk) h λx25 h =>
 vguard x18 false (λkk=>vbin .neq 0 x22 x25 h kk) h λx26 h =>
 vop O (.pick (.k x18) (.k (kB true)) (.k x26)) h 27 λx27 h =>
 vguard x27 false (λkk=>vfaddr 3 x2 h kk) h λx29 h =>
 vguard x27 false (λkk=>vload false 1 x29 h kk) h λx30 h =>
 vguard x27 false (λkk=>vlen O 2 x30 h 31 kk) h λx31 h =>
 vguard x27 false (λkk=>vfaddr 3 x3 h kk) h λx32 h =>
 vguard x27 false (λkk=>vload false 1 x32 h kk) h λx33 h =>
 vguard x27 false (λkk=>vlen O 2 x33 h 34 kk) h λx34 h =>
 vguard x27 false (λkk=>vbin .neq 0 x31 x34 h kk) h λx35 h =>
 vop O (.pick (.k x27) (.k (kB true)) (.k x35)) h 36 λx36 h =>
 vif x36 (
 tcomp (kB false) λc0=>vfin true q [c0] h)
 (R 1 [x2,x3,(kI 0)] h)
theorem e17_0(O R q x0 x1 h):b17_0 O R q x0 x1 h=stepF c17 O R q 0 [x0,x1] h:=by kernel_rfl
def b17_1(O:Oracle)(R:Jump)(q:Nat)(x2 x3 x5:TVal)(h:Heap):Res1 :=
 vfaddr 2 x2 h λx38 h =>
 vload false 1 x38 h λx39 h =>
 vlen O 2 x39 h 40 λx40 h =>
 vbin .lss 0 x5 x40 h λx41 h =>
 vif x41 (
 vfaddr 2 x2 h λx44 h =>
 vload false 1 x44 h λx45 h =>
 viaddr 1 x45 x5 h λx47 h =>
 vload false 1 x47 h λx48 h =>
 vfaddr 2 x3 h λx49 h =>
 vload false 1 x49 h λx50 h =>
 viaddr 1 x50 x5 h λx52 h =>
 vload false 1 x52 h λx53 h =>
 vbin .neq 0 x48 x53 h λx54 h =>
 vif x54 (
 tcomp (kB false) λc0=>vfin true q [c0] h)
 (vbin .add 0 x5 (kI 1) h λx43 h =>
 R 1 [x2,x3,x43] h))
 (R 2 [x2,x3] h)
theorem e17_1(O R q x2 x3 x5 h):b17_1 O R q x2 x3 x5 h=stepF c17 O R q 1 [x2,x3,x5] h:=by kernel_rfl
def b17_2(O:Oracle)(R:Jump)(q:Nat)(x2 x3:TVal)(h:Heap):Res1 :=
 R 3 [x2,x3,(kI 0)] h
theorem e17_2(O R q x2 x3 h):b17_2 O R q x2 x3 h=stepF c17 O R q 2 [x2,x3] h:=by kernel_rfl
def b17_3(O:Oracle)(R:Jump)(q:Nat)(x2 x3 x6:TVal)(h:Heap):Res1 :=
 vfaddr 3 x2 h λx56 h =>
 vload false 1 x56 h λx57 h =>
 vlen O 2 x57 h 58 λx58 h =>
 vbin .lss 0 x6 x58 h λx59 h =>
 vif x59 (
 vfaddr 3 x2 h λx62 h =>
 vload false 1 x62 h λx63 h =>
 viaddr 4 x63 x6 h λx65 h =>
 vload true 4 x65 h λx66 h =>
 vfaddr 3 x3 h λx67 h =>
 vload false 1 x67 h λx68 h =>
 viaddr 4 x68 x6 h λx70 h =>
 vload true 4 x70 h λx71 h =>
 vcall O (.v (.c (.func 17 []))) [x66,x71] h 72 λx72 h =>
 vop O (.un .not (.k x72)) h 73 λx73 h =>
 vif x73 (
 tcomp (kB false) λc0=>vfin true q [c0] h)
 (vbin .add 0 x6 (kI 1) h λx61 h =>
 R 3 [x2,x3,x61] h))
 (tcomp (kB true) λc0=>vfin true q [c0] h)
theorem e17_3(O R q x2 x3 x6 h):b17_3 O R q x2 x3 x6 h=stepF c17 O R q 3 [x2,x3,x6] h:=by kernel_rfl
def d17:BlkF:=λO R Q=>[.s λa => .s λb => .z (b17_0 O R Q a b),.s λa => .s λb => .s λc => .z (b17_1 O R Q a b c),.s λa => .s λb => .z (b17_2 O R Q a b),.s λa => .s λb => .s λc => .z (b17_3 O R Q a b c)]
theorem o17(O:Oracle)(R:Jump)(q:Nat):HoldsAll c17 O R q 0 (d17 O R q):=⟨e17_0 O R q,e17_1 O R q,e17_2 O R q,e17_3 O R q,trivial⟩
def c19:MFunc:=mkM (compF Tryd.prog (globs2 tabs opq) (λ_=>false) true Tryd.f19) .n
def b19_0(O:Oracle)(R:Jump)(q:Nat)(x0 x1:TVal)(h:Heap):Res1 :=
 vbin .rem 0 x0 x1 h λx8 h =>
 vbin .lss 0 x8 (kI 0) h λx10 h =>
 vif x10 (
 vbin .add 0 x8 x1 h λx13 h =>
 tcomp x13 λc0=>vfin true q [c0] h)
 (tcomp x8 λc0=>vfin true q [c0] h)
theorem e19_0(O R q x0 x1 h):b19_0 O R q x0 x1 h=stepF c19 O R q 0 [x0,x1] h:=by kernel_rfl
def d19:BlkF:=λO R Q=>[.s λa => .s λb => .z (b19_0 O R Q a b)]
theorem o19(O:Oracle)(R:Jump)(q:Nat):HoldsAll c19 O R q 0 (d19 O R q):=⟨e19_0 O R q,trivial⟩
def c21:MFunc:=mkM (compF Tryd.prog (globs2 tabs opq) (λ_=>false) true Tryd.f21) .n
def b21_0(O:Oracle)(R:Jump)(q:Nat)(x0:TVal)(h:Heap):Res1 :=
 vop O (.bslice 1 7 [(.p (.str []))] [(0,(.k (kS [97]))),(1,(.k (kS [98]))),(2,(.k (kS [99]))),(3,(.k (kS [110,97,109,101]))),(4,(.k (kS [110]))),(5,(.k (kS [73,110,116]))),(6,(.k (kS [116,121,112,101])))] false) h 3 λx3 h =>
 vcall O (.v (.c (.func 19 []))) [x0,(kI 7)] h 5 λx5 h =>
 viaddr 1 x3 x5 h λx6 h =>
 vload false 1 x6 h λx7 h =>
 tcomp x7 λc0=>vfin true q [c0] h
theorem e21_0(O R q x0 h):b21_0 O R q x0 h=stepF c21 O R q 0 [x0] h:=by kernel_rfl
def d21:BlkF:=λO R Q=>[.s λa => .z (b21_0 O R Q a)]
theorem o21(O:Oracle)(R:Jump)(q:Nat):HoldsAll c21 O R q 0 (d21 O R q):=⟨e21_0 O R q,trivial⟩
def c22:MFunc:=mkM (compF Tryd.prog (globs2 tabs opq) (λn=>Nat.blt n 1000000) true Tryd.f22) (.s .n (.s .n (.s .n (.s .n (.s .n (.s .n (.s (.k (.l 1 [2,4,5] (.s .n (.k (.s .n (.m 2 [2,4,5] .n)))))) (.m 3 [2,4,5] (.s .n (.s .n (.s (.s .n (.k (.l 4 [2,4,5,71,72] .n))) (.m 5 [2,4,5] (.s (.s .n (.k (.l 6 [2,4,5,105,106] .n))) (.m 7 [2,4,5] .n))))))))))))))
def b22_0(O:Oracle)(R:Jump)(q:Nat)(x0:TVal)(h:Heap):Res1 :=
 vop O (.alloc [(.p (.int .i64 0)),(.p (.str [])),(.p .nilslice),(.p .nilslice),(.p .nilslice),(.p .nilslice)] true) h 2 λx2 h =>
 vcall O (.v (.c (.func 33 []))) [x0] h 10 λx10 h =>
 vop O (.alloc [(.p (.int .i64 0)),(.p (.str [])),(.p .nilslice),(.p .nilslice),(.p .nilslice),(.p .nilslice)] true) h 5 λx5 h =>
 vcall O (.v (.c (.func 40 []))) [x10,(kS [100,97,116,97])] h 13 λx13 h =>
 vcall O (.v (.c (.func 39 []))) [x10,x13] h 14 λx14 h =>
 vcall O (.v (.c (.func 34 []))) [x10,(kI 1)] h 16 λx16 h =>
 vfaddr 0 x5 h λx17 h =>
 vstore 4 x17 x16 h λ_ h =>
 vcall O (.v (.c (.func 41 []))) [x10,(kS [59])] h 20 λx20 h =>
 vcall O (.v (.c (.func 39 []))) [x10,x20] h 21 λx21 h =>
 R 1 [x2,x10,x5] h
theorem e22_0(O R q x0 h):b22_0 O R q x0 h=stepF c22 O R q 0 [x0] h:=by kernel_rfl
def b22_1(O:Oracle)(R:Jump)(q:Nat)(x2 x4 x5:TVal)(h:Heap):Res1 :=
 vop O (.nilck (.k x4)) h 23 λx23 h =>
 vfaddr 2 x23 h λx24 h =>
 vload false 1 x24 h λx25 h =>
 vbin .eql 0 x25 (kI 0) h λx26 h =>
 vguard x26 true (λkk=>kk x4 h) h λx28 h =>
 vguard x26 true (λkk=>vop O (.nilck (.k x28)) h 29 kk) h λx29 h =>
 vguard x26 true (λkk=>vfaddr 1 x29 h kk) h λx30 h =>
 vguard x26 true (λkk=>vload false 1 x30 h kk) h λx31 h =>
 vguard x26 true (λkk=>kk x4 h) h λx32 h =>
 vguard x26 true (λkk=>vop O (.nilck (.k x32)) h 33 kk) h λx33 h =>
 vguard x26 true (λkk=>vfaddr 0 x33 h kk) h λx34 h =>
 vguard x26 true (λkk=>vload false 1 x34 h kk) h λx35 h =>
 vguard x26 true (λkk=>vlen O 2 x35 h 36 kk) h λx36 h =>
 vguard x26 true (λkk=>vbin .lss 0 x31 x36 h kk) h λx37 h =>
 vop O (.pick (.k x26) (.k x37) (.k (kB false))) h 38 λx38 h =>
 vif x38 (
 vcall O (.v (.c (.func 40 []))) [x4,(kS [116,121,112,101])] h 40 λx40 h =>
 vif x40 (
 vtouch O (.faddr 4 (.k x5)) h 41 λx41 h t0 =>
 vtouch O (.load false 1 (.k x41)) h 42 λx42 h t1 =>
 vtouch O (.mv (.k x4)) h 43 λx43 h t2 =>
 vtouch O (.call (.k (.v (.c (.func 42 [])))) [(.k x43)]) h 44 λx44 h t3 =>
 vtouch O (.bslice 5 1 [(.p (.str [])),(.p (.int .i64 0)),(.p (.str [])),(.p .nilslice),(.p .nilslice)] [(0,(.k x44))] true) h 45 λx45 h t4 =>
 vtouch O (.append 5 88 true (.k x42) (.k x45)) h 46 λx46 h t5 =>
 vtouch O (.faddr 4 (.k x5)) h 47 λx47 h t6 =>
 vtouch O (.store 1 (.k x47) (.k x46)) h 1000000 λ_ h t7 =>
 bif apartAll [t0,t1,t2,t3,t4,t5,t6,t7] [(1,3),(1,4)] then
 R 2 [x2,x4,x5] h
 else none)
 (vcall O (.v (.c (.func 40 []))) [x4,(kS [102,110])] h 50 λx50 h =>
 vcall O (.v (.c (.func 39 []))) [x4,x50] h 51 λx51 h =>
 vtouch O (.faddr 5 (.k x5)) h 52 λx52 h t0 =>
 vtouch O (.load false 1 (.k x52)) h 53 λx53 h t1 =>
 vtouch O (.mv (.k x4)) h 54 λx54 h t2 =>
 vtouch O (.call (.k (.v (.c (.func 43 [])))) [(.k x54)]) h 55 λx55 h t3 =>
 vtouch O (.bslice 6 1 [(.p (.str [])),(.p .nilslice),(.p (.int .i64 0)),(.p (.str [])),(.p .nilslice),(.p .nilslice)] [(0,(.k x55))] true) h 56 λx56 h t4 =>
 vtouch O (.append 6 112 true (.k x53) (.k x56)) h 57 λx57 h t5 =>
 vtouch O (.faddr 5 (.k x5)) h 58 λx58 h t6 =>
 vtouch O (.store 1 (.k x58) (.k x57)) h 1000000 λ_ h t7 =>
 bif apartAll [t0,t1,t2,t3,t4,t5,t6,t7] [(1,3),(1,4)] then
 R 2 [x2,x4,x5] h
 else none))
 (R 3 [x2,x4,x5] h)
theorem e22_1(O R q x2 x4 x5 h):b22_1 O R q x2 x4 x5 h=stepF c22 O R q 1 [x2,x4,x5] h:=by kernel_rfl
def b22_2(O:Oracle)(R:Jump)(q:Nat)(x2 x4 x5:TVal)(h:Heap):Res1 :=
 vcall O (.v (.c (.func 41 []))) [x4,(kS [59])] h 61 λx61 h =>
 vcall O (.v (.c (.func 39 []))) [x4,x61] h 62 λx62 h =>
 R 1 [x2,x4,x5] h
theorem e22_2(O R q x2 x4 x5 h):b22_2 O R q x2 x4 x5 h=stepF c22 O R q 2 [x2,x4,x5] h:=by kernel_rfl
def b22_3(O:Oracle)(R:Jump)(q:Nat)(x2 x4 x5:TVal)(h:Heap):Res1 :=
 vfaddr 4 x5 h λx63 h =>
 vload false 1 x63 h λx64 h =>
 vcall O (.v (.c (.func 44 []))) [x64,(.v (.c (.func 45 [])))] h 65 λx65 h =>
 vfaddr 5 x5 h λx66 h =>
 vload false 1 x66 h λx67 h =>
 vcall O (.v (.c (.func 47 []))) [x67,(.v (.c (.func 48 [])))] h 68 λx68 h =>
 vfaddr 4 x5 h λx69 h =>
 vload false 1 x69 h λx70 h =>
 vlen O 2 x70 h 71 λx71 h =>
 R 4 [x2,x4,x5,x71,(kI 0)] h
theorem e22_3(O R q x2 x4 x5 h):b22_3 O R q x2 x4 x5 h=stepF c22 O R q 3 [x2,x4,x5] h:=by kernel_rfl
def b22_4(O:Oracle)(R:Jump)(q:Nat)(x2 x4 x5 x71 x72:TVal)(h:Heap):Res1 :=
 vbin .lss 0 x72 x71 h λx73 h =>
 vif x73 (
 vop O (.nilck (.k x4)) h 77 λx77 h =>
 vfaddr 3 x77 h λx78 h =>
 vload false 1 x78 h λx79 h =>
 vguard x79 false (λkk=>kk x72 h) h λx81 h =>
 vguard x79 false (λkk=>vbin .gtr 0 x81 (kI 0) h kk) h λx82 h =>
 vguard x79 false (λkk=>kk x82 h) h λx83 h =>
 vguard x83 true (λkk=>vfaddr 4 x5 h kk) h λx84 h =>
 vguard x83 true (λkk=>vload false 1 x84 h kk) h λx85 h =>
 vguard x83 true (λkk=>kk x72 h) h λx86 h =>
 vguard x83 true (λkk=>vbin .sub 0 x86 (kI 1) h kk) h λx87 h =>
 vguard x83 true (λkk=>viaddr 5 x85 x87 h kk) h λx88 h =>
 vguard x83 true (λkk=>vfaddr 0 x88 h kk) h λx89 h =>
 vguard x83 true (λkk=>vload false 1 x89 h kk) h λx90 h =>
 vguard x83 true (λkk=>vfaddr 4 x5 h kk) h λx91 h =>
 vguard x83 true (λkk=>vload false 1 x91 h kk) h λx92 h =>
 vguard x83 true (λkk=>kk x72 h) h λx93 h =>
 vguard x83 true (λkk=>viaddr 5 x92 x93 h kk) h λx94 h =>
 vguard x83 true (λkk=>vfaddr 0 x94 h kk) h λx95 h =>
 vguard x83 true (λkk=>vload false 1 x95 h kk) h λx96 h =>
 vguard x83 true (λkk=>vbin .eql 0 x90 x96 h kk) h λx97 h =>
 vguard x79 false (λkk=>vop O (.pick (.k x83) (.k x97) (.k (kB false))) h 98 kk) h λx98 h =>
 vop O (.pick (.k x79) (.k (kB true)) (.k x98)) h 99 λx99 h =>
 vop O (.nilck (.k x4)) h 100 λx100 h =>
 vfaddr 3 x100 h λx101 h =>
 vstore 1 x101 x99 h λ_ h =>
 vbin .add 0 x72 (kI 1) h λx102 h =>
 R 4 [x2,x4,x5,x71,x102] h)
 (R 5 [x2,x4,x5] h)
theorem e22_4(O R q x2 x4 x5 x71 x72 h):b22_4 O R q x2 x4 x5 x71 x72 h=stepF c22 O R q 4 [x2,x4,x5,x71,x72] h:=by kernel_rfl
def b22_5(O:Oracle)(R:Jump)(q:Nat)(x2 x4 x5:TVal)(h:Heap):Res1 :=
 vfaddr 5 x5 h λx103 h =>
 vload false 1 x103 h λx104 h =>
 vlen O 2 x104 h 105 λx105 h =>
 R 6 [x2,x4,x5,x105,(kI 0)] h
theorem e22_5(O R q x2 x4 x5 h):b22_5 O R q x2 x4 x5 h=stepF c22 O R q 5 [x2,x4,x5] h:=by kernel_rfl
def b22_6(O:Oracle)(R:Jump)(q:Nat)(x2 x4 x5 x105 x106:TVal)(h:Heap):Res1 :=
 vbin .lss 0 x106 x105 h λx107 h =>
 vif x107 (
 vop O (.nilck (.k x4)) h 111 λx111 h =>
 vfaddr 3 x111 h λx112 h =>
 vload false 1 x112 h λx113 h =>
 vguard x113 false (λkk=>kk x106 h) h λx115 h =>
 vguard x113 false (λkk=>vbin .gtr 0 x115 (kI 0) h kk) h λx116 h =>
 vguard x113 false (λkk=>kk x116 h) h λx117 h =>
 vguard x117 true (λkk=>vfaddr 5 x5 h kk) h λx118 h =>
 vguard x117 true (λkk=>vload false 1 x118 h kk) h λx119 h =>
 vguard x117 true (λkk=>kk x106 h) h λx120 h =>
 vguard x117 true (λkk=>vbin .sub 0 x120 (kI 1) h kk) h λx121 h =>
 vguard x117 true (λkk=>viaddr 6 x119 x121 h kk) h λx122 h =>
 vguard x117 true (λkk=>vfaddr 0 x122 h kk) h λx123 h =>
 vguard x117 true (λkk=>vload false 1 x123 h kk) h λx124 h =>
 vguard x117 true (λkk=>vfaddr 5 x5 h kk) h λx125 h =>
 vguard x117 true (λkk=>vload false 1 x125 h kk) h λx126 h =>
 vguard x117 true (λkk=>kk x106 h) h λx127 h =>
 vguard x117 true (λkk=>viaddr 6 x126 x127 h kk) h λx128 h =>
 vguard x117 true (λkk=>vfaddr 0 x128 h kk) h λx129 h =>
 vguard x117 true (λkk=>vload false 1 x129 h kk) h λx130 h =>
 vguard x117 true (λkk=>vbin .eql 0 x124 x130 h kk) h λx131 h =>
 vguard x113 false (λkk=>vop O (.pick (.k x117) (.k x131) (.k (kB false))) h 132 kk) h λx132 h =>
 vop O (.pick (.k x113) (.k (kB true)) (.k x132)) h 133 λx133 h =>
 vop O (.nilck (.k x4)) h 134 λx134 h =>
 vfaddr 3 x134 h λx135 h =>
 vstore 1 x135 x133 h λ_ h =>
 vbin .add 0 x106 (kI 1) h λx136 h =>
 R 6 [x2,x4,x5,x105,x136] h)
 (R 7 [x2,x4,x5] h)
theorem e22_6(O R q x2 x4 x5 x105 x106 h):b22_6 O R q x2 x4 x5 x105 x106 h=stepF c22 O R q 6 [x2,x4,x5,x105,x106] h:=by kernel_rfl
def b22_7(O:Oracle)(R:Jump)(q:Nat)(x2 x4 x5:TVal)(h:Heap):Res1 :=
 vcall O (.v (.c (.func 35 []))) [x4] h 138 λx138 h =>
 vbin .neq 0 x138 (kI 0) h λx140 h =>
 vif x140 (
 vop O (.build [(.p (.int .i64 0)),(.p (.str [])),(.p .nilslice),(.p .nilslice),(.p .nilslice),(.p .nilslice)] []) h 141 λx141 h =>
 vstore 6 x2 x141 h λ_ h =>
 vcell true 6 x2 h λc0=>tcomp x138 λc1=>vfin true q [c0,c1] h)
 (vload true 6 x5 h λx143 h =>
 vstore 6 x2 x143 h λ_ h =>
 vcell true 6 x2 h λc0=>tcomp (kI 0) λc1=>vfin true q [c0,c1] h)
theorem e22_7(O R q x2 x4 x5 h):b22_7 O R q x2 x4 x5 h=stepF c22 O R q 7 [x2,x4,x5] h:=by kernel_rfl
def d22:BlkF:=λO R Q=>[.s λa => .z (b22_0 O R Q a),.s λa => .s λb => .s λc => .z (b22_1 O R Q a b c),.s λa => .s λb => .s λc => .z (b22_2 O R Q a b c),.s λa => .s λb => .s λc => .z (b22_3 O R Q a b c),.s λa => .s λb => .s λc => .s λd => .s λe => .z (b22_4 O R Q a b c d e),.s λa => .s λb => .s λc => .z (b22_5 O R Q a b c),.s λa => .s λb => .s λc => .s λd => .s λe => .z (b22_6 O R Q a b c d e),.s λa => .s λb => .s λc => .z (b22_7 O R Q a b c)]
theorem o22(O:Oracle)(R:Jump)(q:Nat):HoldsAll c22 O R q 0 (d22 O R q):=⟨e22_0 O R q,e22_1 O R q,e22_2 O R q,e22_3 O R q,e22_4 O R q,e22_5 O R q,e22_6 O R q,e22_7 O R q,trivial⟩
def c23:MFunc:=mkM (compF Tryd.prog (globs2 tabs opq) (λ_=>false) true Tryd.f23) (.s .n (.s .n (.s (.s .n (.k (.l 1 [2,3,5] .n))) (.m 2 [2,3] (.s (.s .n (.k (.l 3 [2,3,6] (.s .n (.s (.k (.s .n (.s .n (.s .n (.k (.l 4 [2,3,6,7,8,9] .n)))))) (.m 5 [2,3,6] .n)))))) .n)))))
def b23_0(O:Oracle)(R:Jump)(q:Nat)(x0 x1:TVal)(h:Heap):Res1 :=
 vop O (.box (.k x0) false) h 2 λx2 h =>
 vop O (.box (.k x1) false) h 3 λx3 h =>
 vfaddr 0 x2 h λx10 h =>
 vload true 4 x10 h λx11 h =>
 vfaddr 0 x3 h λx12 h =>
 vload true 4 x12 h λx13 h =>
 vcall O (.v (.c (.func 17 []))) [x11,x13] h 14 λx14 h =>
 vop O (.un .not (.k x14)) h 15 λx15 h =>
 vguard x15 false (λkk=>vfaddr 4 x2 h kk) h λx17 h =>
 vguard x15 false (λkk=>vload false 1 x17 h kk) h λx18 h =>
 vguard x15 false (λkk=>vlen O 2 x18 h 19 kk) h λx19 h =>
 vguard x15 false (λkk=>vfaddr 4 x3 h kk) h λx20 h =>
 vguard x15 false (λkk=>vload false 1 x20 h kk) h λx21 h =>
 vguard x15 false (λkk=>vlen O 2 x21 h 22 kk) h λx22 h =>
 vguard x15 false (λkk=>vbin .neq 0 x19 x22 h kk) h λx23 h =>
 vop O (.pick (.k x15) (.k (kB true)) (.k x23)) h 24 λx24 h =>
 vguard x24 false (λkk=>vfaddr 5 x2 h kk) h λx26 h =>
 vguard x24 false (λkk=>vload false 1 x26 h kk) h λx27 h =>
 vguard x24 false (λkk=>vlen O 2 x27 h 28 kk) h λx28 h =>
 vguard x24 false (λkk=>vfaddr 5 x3 h kk) h λx29 h =>
 vguard x24 false (λkk=>vload false 1 x29 h kk) h λx30 h =>
 vguard x24 false (λkk=>vlen O 2 x30 h 31 kk) h λx31 h =>
 vguard x24 false (λkk=>vbin .neq 0 x28 x31 h kk) h λx32 h =>
 vop O (.pick (.k x24) (.k (kB true)) (.k x32)) h 33 λx33 h =>
 vif x33 (
 tcomp (kB false) λc0=>vfin true q [c0] h)
 (R 1 [x2,x3,(kI 0)] h)
theorem e23_0(O R q x0 x1 h):b23_0 O R q x0 x1 h=stepF c23 O R q 0 [x0,x1] h:=by kernel_rfl
def b23_1(O:Oracle)(R:Jump)(q:Nat)(x2 x3 x5:TVal)(h:Heap):Res1 :=
 vfaddr 4 x2 h λx35 h =>
 vload false 1 x35 h λx36 h =>
 vlen O 2 x36 h 37 λx37 h =>
 vbin .lss 0 x5 x37 h λx38 h =>
 vif x38 (
 vfaddr 4 x2 h λx41 h =>
 vload false 1 x41 h λx42 h =>
 viaddr 5 x42 x5 h λx44 h =>
 vfaddr 0 x44 h λx45 h =>
 vload false 1 x45 h λx46 h =>
 vfaddr 4 x3 h λx47 h =>
 vload false 1 x47 h λx48 h =>
 viaddr 5 x48 x5 h λx50 h =>
 vfaddr 0 x50 h λx51 h =>
 vload false 1 x51 h λx52 h =>
 vbin .neq 0 x46 x52 h λx53 h =>
 vguard x53 false (λkk=>vfaddr 4 x2 h kk) h λx55 h =>
 vguard x53 false (λkk=>vload false 1 x55 h kk) h λx56 h =>
 vguard x53 false (λkk=>kk x5 h) h λx57 h =>
 vguard x53 false (λkk=>viaddr 5 x56 x57 h kk) h λx58 h =>
 vguard x53 false (λkk=>vfaddr 1 x58 h kk) h λx59 h =>
 vguard x53 false (λkk=>vload true 4 x59 h kk) h λx60 h =>
 vguard x53 false (λkk=>vfaddr 4 x3 h kk) h λx61 h =>
 vguard x53 false (λkk=>vload false 1 x61 h kk) h λx62 h =>
 vguard x53 false (λkk=>kk x5 h) h λx63 h =>
 vguard x53 false (λkk=>viaddr 5 x62 x63 h kk) h λx64 h =>
 vguard x53 false (λkk=>vfaddr 1 x64 h kk) h λx65 h =>
 vguard x53 false (λkk=>vload true 4 x65 h kk) h λx66 h =>
 vguard x53 false (λkk=>vcall O (.v (.c (.func 17 []))) [x60,x66] h 67 kk) h λx67 h =>
 vguard x53 false (λkk=>vop O (.un .not (.k x67)) h 68 kk) h λx68 h =>
 vop O (.pick (.k x53) (.k (kB true)) (.k x68)) h 69 λx69 h =>
 vif x69 (
 tcomp (kB false) λc0=>vfin true q [c0] h)
 (vbin .add 0 x5 (kI 1) h λx40 h =>
 R 1 [x2,x3,x40] h))
 (R 2 [x2,x3] h)
theorem e23_1(O R q x2 x3 x5 h):b23_1 O R q x2 x3 x5 h=stepF c23 O R q 1 [x2,x3,x5] h:=by kernel_rfl
def b23_2(O:Oracle)(R:Jump)(q:Nat)(x2 x3:TVal)(h:Heap):Res1 :=
 R 3 [x2,x3,(kI 0)] h
theorem e23_2(O R q x2 x3 h):b23_2 O R q x2 x3 h=stepF c23 O R q 2 [x2,x3] h:=by kernel_rfl
def b23_3(O:Oracle)(R:Jump)(q:Nat)(x2 x3 x6:TVal)(h:Heap):Res1 :=
 vfaddr 5 x2 h λx71 h =>
 vload false 1 x71 h λx72 h =>
 vlen O 2 x72 h 73 λx73 h =>
 vbin .lss 0 x6 x73 h λx74 h =>
 vif x74 (
 vtouch O (.faddr 5 (.k x2)) h 77 λx77 h t0 =>
 vtouch O (.load false 1 (.k x77)) h 78 λx78 h t1 =>
 vtouch O (.mv (.k x6)) h 79 λx79 h t2 =>
 vtouch O (.iaddr 6 (.k x78) (.k x79)) h 80 λx80 h t3 =>
 vtouch O (.load true 6 (.k x80)) h 81 λx81 h t4 =>
 vtouch O (.faddr 5 (.k x3)) h 82 λx82 h t5 =>
 vtouch O (.load false 1 (.k x82)) h 83 λx83 h t6 =>
 vtouch O (.mv (.k x6)) h 84 λx84 h t7 =>
 vtouch O (.iaddr 6 (.k x83) (.k x84)) h 85 λx85 h t8 =>
 vtouch O (.load true 6 (.k x85)) h 86 λx86 h t9 =>
 vtouch O (.alloc [(.p (.str [])),(.p .nilslice),(.p (.int .i64 0)),(.p (.str [])),(.p .nilslice),(.p .nilslice)] false) h 7 λx7 h t10 =>
 vtouch O (.alloc [(.p (.str [])),(.p .nilslice),(.p (.int .i64 0)),(.p (.str [])),(.p .nilslice),(.p .nilslice)] false) h 8 λx8 h t11 =>
 vtouch O (.store 6 (.k x7) (.k x81)) h 1000000 λ_ h t12 =>
 vtouch O (.store 6 (.k x8) (.k x86)) h 1000000 λ_ h t13 =>
 bif apartAll [t0,t1,t2,t3,t4,t5,t6,t7,t8,t9,t10,t11,t12,t13] [(1,10),(4,10),(6,10),(9,10),(1,11),(4,11),(6,11),(9,11),(10,11),(6,12),(9,12)] then
 vfaddr 0 x7 h λx87 h =>
 vload false 1 x87 h λx88 h =>
 vfaddr 0 x8 h λx89 h =>
 vload false 1 x89 h λx90 h =>
 vbin .neq 0 x88 x90 h λx91 h =>
 vguard x91 false (λkk=>vfaddr 1 x7 h kk) h λx93 h =>
 vguard x91 false (λkk=>vload false 1 x93 h kk) h λx94 h =>
 vguard x91 false (λkk=>vlen O 2 x94 h 95 kk) h λx95 h =>
 vguard x91 false (λkk=>vfaddr 1 x8 h kk) h λx96 h =>
 vguard x91 false (λkk=>vload false 1 x96 h kk) h λx97 h =>
 vguard x91 false (λkk=>vlen O 2 x97 h 98 kk) h λx98 h =>
 vguard x91 false (λkk=>vbin .neq 0 x95 x98 h kk) h λx99 h =>
 vop O (.pick (.k x91) (.k (kB true)) (.k x99)) h 100 λx100 h =>
 vguard x100 false (λkk=>vfaddr 2 x7 h kk) h λx102 h =>
 vguard x100 false (λkk=>vload true 4 x102 h kk) h λx103 h =>
 vguard x100 false (λkk=>vfaddr 2 x8 h kk) h λx104 h =>
 vguard x100 false (λkk=>vload true 4 x104 h kk) h λx105 h =>
 vguard x100 false (λkk=>vcall O (.v (.c (.func 17 []))) [x103,x105] h 106 kk) h λx106 h =>
 vguard x100 false (λkk=>vop O (.un .not (.k x106)) h 107 kk) h λx107 h =>
 vop O (.pick (.k x100) (.k (kB true)) (.k x107)) h 108 λx108 h =>
 vif x108 (
 tcomp (kB false) λc0=>vfin true q [c0] h)
 (R 4 [x2,x3,x6,x7,x8,(kI 0)] h)
 else none)
 (tcomp (kB true) λc0=>vfin true q [c0] h)
theorem e23_3(O R q x2 x3 x6 h):b23_3 O R q x2 x3 x6 h=stepF c23 O R q 3 [x2,x3,x6] h:=by kernel_rfl
def b23_4(O:Oracle)(R:Jump)(q:Nat)(x2 x3 x6 x7 x8 x9:TVal)(h:Heap):Res1 :=
 vfaddr 1 x7 h λx110 h =>
 vload false 1 x110 h λx111 h =>
 vlen O 2 x111 h 112 λx112 h =>
 vbin .lss 0 x9 x112 h λx113 h =>
 vif x113 (
 vfaddr 1 x7 h λx116 h =>
 vload false 1 x116 h λx117 h =>
 viaddr 4 x117 x9 h λx119 h =>
 vload true 4 x119 h λx120 h =>
 vfaddr 1 x8 h λx121 h =>
 vload false 1 x121 h λx122 h =>
 viaddr 4 x122 x9 h λx124 h =>
 vload true 4 x124 h λx125 h =>
 vcall O (.v (.c (.func 17 []))) [x120,x125] h 126 λx126 h =>
 vop O (.un .not (.k x126)) h 127 λx127 h =>
 vif x127 (
 tcomp (kB false) λc0=>vfin true q [c0] h)
 (vbin .add 0 x9 (kI 1) h λx115 h =>
 R 4 [x2,x3,x6,x7,x8,x115] h))
 (R 5 [x2,x3,x6] h)
theorem e23_4(O R q x2 x3 x6 x7 x8 x9 h):b23_4 O R q x2 x3 x6 x7 x8 x9 h=stepF c23 O R q 4 [x2,x3,x6,x7,x8,x9] h:=by kernel_rfl
def b23_5(O:Oracle)(R:Jump)(q:Nat)(x2 x3 x6:TVal)(h:Heap):Res1 :=
 vbin .add 0 x6 (kI 1) h λx76 h =>
 R 3 [x2,x3,x76] h
theorem e23_5(O R q x2 x3 x6 h):b23_5 O R q x2 x3 x6 h=stepF c23 O R q 5 [x2,x3,x6] h:=by kernel_rfl
def d23:BlkF:=λO R Q=>[.s λa => .s λb => .z (b23_0 O R Q a b),.s λa => .s λb => .s λc => .z (b23_1 O R Q a b c),.s λa => .s λb => .z (b23_2 O R Q a b),.s λa => .s λb => .s λc => .z (b23_3 O R Q a b c),.s λa => .s λb => .s λc => .s λd => .s λe => .s λf => .z (b23_4 O R Q a b c d e f),.s λa => .s λb => .s λc => .z (b23_5 O R Q a b c)]
theorem o23(O:Oracle)(R:Jump)(q:Nat):HoldsAll c23 O R q 0 (d23 O R q):=⟨e23_0 O R q,e23_1 O R q,e23_2 O R q,e23_3 O R q,e23_4 O R q,e23_5 O R q,trivial⟩
def c31:MFunc:=mkM (compF Tryd.prog (globs2 tabs opq) (λ_=>false) true Tryd.f31) (.s .n (.s .n (.s (.s .n (.k (.l 1 [1,3,7,8,9] (.s .n (.s .n (.s .n (.m 2 [1,3,7,8,9] .n))))))) (.m 3 [3] .n))))
def b31_0(O:Oracle)(R:Jump)(q:Nat)(x0:TVal)(h:Heap):Res1 :=
 vop O (.box (.k x0) false) h 1 λx1 h =>
 vfaddr 3 x1 h λx6 h =>
 vload false 1 x6 h λx7 h =>
 vlen O 2 x7 h 8 λx8 h =>
 R 1 [x1,(.v (.c (.p .nilslice))),x7,x8,(kI 0)] h
theorem e31_0(O R q x0 h):b31_0 O R q x0 h=stepF c31 O R q 0 [x0] h:=by kernel_rfl
def b31_1(O:Oracle)(R:Jump)(q:Nat)(x1 x3 x7 x8 x9:TVal)(h:Heap):Res1 :=
 vbin .lss 0 x9 x8 h λx10 h =>
 vif x10 (
 viaddr 4 x7 x9 h λx12 h =>
 vload true 4 x12 h λx13 h =>
 vop O (.alloc [(.p (.int .i64 0)),(.p (.str [])),(.p .nilslice),(.p .nilslice)] false) h 5 λx5 h =>
 vstore 4 x5 x13 h λ_ h =>
 vfaddr 2 x1 h λx15 h =>
 vload false 1 x15 h λx16 h =>
 vlen O 2 x16 h 17 λx17 h =>
 vbin .lss 0 x9 x17 h λx18 h =>
 vif x18 (
 vtouch O (.mv (.k x3)) h 19 λx19 h t0 =>
 vtouch O (.faddr 2 (.k x1)) h 20 λx20 h t1 =>
 vtouch O (.load false 1 (.k x20)) h 21 λx21 h t2 =>
 vtouch O (.mv (.k x9)) h 22 λx22 h t3 =>
 vtouch O (.iaddr 1 (.k x21) (.k x22)) h 23 λx23 h t4 =>
 vtouch O (.load false 1 (.k x23)) h 24 λx24 h t5 =>
 vtouch O (.bin .add 0 (.k x24) (.k (kS [58,32]))) h 25 λx25 h t6 =>
 vtouch O (.load true 4 (.k x5)) h 26 λx26 h t7 =>
 vtouch O (.call (.k (.v (.c (.func 14 [])))) [(.k x26)]) h 27 λx27 h t8 =>
 vtouch O (.bin .add 0 (.k x25) (.k x27)) h 28 λx28 h t9 =>
 vtouch O (.bslice 1 1 [(.p (.str []))] [(0,(.k x28))] false) h 29 λx29 h t10 =>
 vtouch O (.append 1 16 false (.k x19) (.k x29)) h 30 λx30 h t11 =>
 vtouch O (.mv (.k x30)) h 3 λx3_1 h t12 =>
 bif apartAll [t0,t1,t2,t3,t4,t5,t6,t7,t8,t9,t10,t11,t12] [(2,8),(5,8)] then
 R 2 [x1,x3_1,x7,x8,x9] h
 else none)
 (R 2 [x1,x3,x7,x8,x9] h))
 (R 3 [x3] h)
theorem e31_1(O R q x1 x3 x7 x8 x9 h):b31_1 O R q x1 x3 x7 x8 x9 h=stepF c31 O R q 1 [x1,x3,x7,x8,x9] h:=by kernel_rfl
def b31_2(O:Oracle)(R:Jump)(q:Nat)(x1 x3 x7 x8 x9:TVal)(h:Heap):Res1 :=
 vbin .add 0 x9 (kI 1) h λx31 h =>
 R 1 [x1,x3,x7,x8,x31] h
theorem e31_2(O R q x1 x3 x7 x8 x9 h):b31_2 O R q x1 x3 x7 x8 x9 h=stepF c31 O R q 2 [x1,x3,x7,x8,x9] h:=by kernel_rfl
def b31_3(O:Oracle)(R:Jump)(q:Nat)(x3:TVal)(h:Heap):Res1 :=
 vcall O (.v (.c (.func 53 []))) [x3,(kS [44,32])] h 33 λx33 h =>
 vbin .add 0 (kS [123]) x33 h λx34 h =>
 vbin .add 0 x34 (kS [125]) h λx35 h =>
 tcomp x35 λc0=>vfin true q [c0] h
theorem e31_3(O R q x3 h):b31_3 O R q x3 h=stepF c31 O R q 3 [x3] h:=by kernel_rfl
def d31:BlkF:=λO R Q=>[.s λa => .z (b31_0 O R Q a),.s λa => .s λb => .s λc => .s λd => .s λe => .z (b31_1 O R Q a b c d e),.s λa => .s λb => .s λc => .s λd => .s λe => .z (b31_2 O R Q a b c d e),.s λa => .z (b31_3 O R Q a)]
theorem o31(O:Oracle)(R:Jump)(q:Nat):HoldsAll c31 O R q 0 (d31 O R q):=⟨e31_0 O R q,e31_1 O R q,e31_2 O R q,e31_3 O R q,trivial⟩
def c32:MFunc:=mkM (compF Tryd.prog (globs2 tabs opq) (λ_=>false) true Tryd.f32) .n
def b32_0(O:Oracle)(R:Jump)(q:Nat)(x0:TVal)(h:Heap):Res1 :=
 vbin .eql 0 x0 (kI 1) h λx5 h =>
 vif x5 (
 tcomp (kS [66,111,111,108]) λc0=>vfin true q [c0] h)
 (vbin .eql 0 x0 (kI 2) h λx7 h =>
 vif x7 (
 tcomp (kS [73,110,116]) λc0=>vfin true q [c0] h)
 (vbin .eql 0 x0 (kI 3) h λx9 h =>
 vif x9 (
 tcomp (kS [84,101,120,116]) λc0=>vfin true q [c0] h)
 (vbin .eql 0 x0 (kI 4) h λx11 h =>
 vif x11 (
 tcomp (kS [76,105,115,116]) λc0=>vfin true q [c0] h)
 (vbin .eql 0 x0 (kI 5) h λx13 h =>
 vif x13 (
 tcomp (kS [77,97,112]) λc0=>vfin true q [c0] h)
 (vbin .eql 0 x0 (kI 6) h λx15 h =>
 vif x15 (
 tcomp (kS [79,112,116]) λc0=>vfin true q [c0] h)
 (vbin .eql 0 x0 (kI 8) h λx17 h =>
 vif x17 (
 tcomp (kS [85,110,105,111,110]) λc0=>vfin true q [c0] h)
 (tcomp (kS []) λc0=>vfin true q [c0] h)))))))
theorem e32_0(O R q x0 h):b32_0 O R q x0 h=stepF c32 O R q 0 [x0] h:=by kernel_rfl
def d32:BlkF:=λO R Q=>[.s λa => .z (b32_0 O R Q a)]
theorem o32(O:Oracle)(R:Jump)(q:Nat):HoldsAll c32 O R q 0 (d32 O R q):=⟨e32_0 O R q,trivial⟩
def c33:MFunc:=mkM (compF Tryd.prog (globs2 tabs opq) (λ_=>false) false Tryd.f33) .n
def b33_0(O:Oracle)(R:Jump)(q:Nat)(x0:TVal)(h:Heap):Res1 :=
 vcall O (.v (.c (.func 54 []))) [x0] h 7 λx7 h =>
 vext x7 0 h λx8 h =>
 vext x7 1 h λx9 h =>
 vop O (.build [(.p .nilslice),(.p (.int .i64 0)),(.p (.int .i64 0)),(.p (.bool false))] [(0,1,(.k x8)),(2,1,(.k x9))]) h 12 λx12 h =>
 vop O (.box (.k x12) false) h 13 λx13 h =>
 tcomp x13 λc0=>vfin false q [c0] h
theorem e33_0(O R q x0 h):b33_0 O R q x0 h=stepF c33 O R q 0 [x0] h:=by kernel_rfl
def d33:BlkF:=λO R Q=>[.s λa => .z (b33_0 O R Q a)]
theorem o33(O:Oracle)(R:Jump)(q:Nat):HoldsAll c33 O R q 0 (d33 O R q):=⟨e33_0 O R q,trivial⟩
def c34:MFunc:=mkM (compF Tryd.prog (globs2 tabs opq) (λ_=>false) true Tryd.f34) (.s .n (.s .n (.s .n (.s .n (.s .n (.m 1 [0,1,4,5] (.s .n (.s .n (.s .n (.s .n (.s (.s .n (.k (.l 2 [0,1,4,5,7] .n))) (.m 3 [4,5] .n))))))))))))
def b34_0(O:Oracle)(R:Jump)(q:Nat)(x0 x1:TVal)(h:Heap):Res1 :=
 vop O (.alloc [(.p (.int .i64 0)),(.p (.str [])),(.p .nilslice),(.p .nilslice)] false) h 4 λx4 h =>
 vcall O (.v (.c (.func 55 []))) [x0] h 10 λx10 h =>
 vop O (.alloc [(.p (.int .i64 0)),(.p (.str [])),(.p (.int .i64 0)),(.p (.int .i64 0))] false) h 5 λx5 h =>
 vstore 4 x5 x10 h λ_ h =>
 vfaddr 0 x5 h λx11 h =>
 vload false 1 x11 h λx12 h =>
 vbin .eql 0 x12 (kI 1) h λx13 h =>
 vguard x13 false (λkk=>vfaddr 0 x5 h kk) h λx15 h =>
 vguard x13 false (λkk=>vload false 1 x15 h kk) h λx16 h =>
 vguard x13 false (λkk=>vbin .eql 0 x16 (kI 4) h kk) h λx17 h =>
 vguard x13 false (λkk=>kk x17 h) h λx18 h =>
 vguard x18 true (λkk=>vfaddr 1 x5 h kk) h λx19 h =>
 vguard x18 true (λkk=>vload false 1 x19 h kk) h λx20 h =>
 vguard x18 true (λkk=>vbin .eql 0 x20 (kS [123]) h kk) h λx21 h =>
 vguard x13 false (λkk=>vop O (.pick (.k x18) (.k x21) (.k (kB false))) h 22 kk) h λx22 h =>
 vop O (.pick (.k x13) (.k (kB true)) (.k x22)) h 23 λx23 h =>
 vcall O (.v (.c (.func 39 []))) [x0,x23] h 26 λx26 h =>
 vguard x23 true (λkk=>kk x1 h) h λx29 h =>
 vguard x23 true (λkk=>vbin .gtr 0 x29 (kI 12) h kk) h λx30 h =>
 vop O (.pick (.k x23) (.k x30) (.k (kB false))) h 31 λx31 h =>
 vif x31 (
 vcall O (.v (.c (.func 56 []))) [x0,(kI 13)] h 33 λx33 h =>
 R 1 [x0,x1,x4,x5] h)
 (R 1 [x0,x1,x4,x5] h)
theorem e34_0(O R q x0 x1 h):b34_0 O R q x0 x1 h=stepF c34 O R q 0 [x0,x1] h:=by kernel_rfl
def b34_1(O:Oracle)(R:Jump)(q:Nat)(x0 x1 x4 x5:TVal)(h:Heap):Res1 :=
 vop O (.nilck (.k x0)) h 35 λx35 h =>
 vfaddr 2 x35 h λx36 h =>
 vload false 1 x36 h λx37 h =>
 vbin .neq 0 x37 (kI 0) h λx38 h =>
 vif x38 (
 vop O (.build [(.p (.int .i64 0)),(.p (.str [])),(.p .nilslice),(.p .nilslice)] []) h 39 λx39 h =>
 vstore 4 x4 x39 h λ_ h =>
 vcell true 4 x4 h λc0=>vfin true q [c0] h)
 (vfaddr 0 x5 h λx40 h =>
 vload false 1 x40 h λx41 h =>
 vbin .eql 0 x41 (kI 4) h λx42 h =>
 vif x42 (
 vcall O (.v (.c (.func 57 []))) [x0,(kI 7),x1] h 45 λx45 h =>
 vstore 4 x4 x45 h λ_ h =>
 vcell true 4 x4 h λc0=>vfin true q [c0] h)
 (vop O (.nilck (.k x0)) h 47 λx47 h =>
 vfaddr 1 x47 h λx48 h =>
 vload false 1 x48 h λx49 h =>
 vbin .add 0 x49 (kI 1) h λx50 h =>
 vop O (.nilck (.k x0)) h 51 λx51 h =>
 vfaddr 1 x51 h λx52 h =>
 vstore 1 x52 x50 h λ_ h =>
 vfaddr 1 x5 h λx53 h =>
 vload false 1 x53 h λx54 h =>
 vcall O (.v (.c (.func 32 []))) [(kI 1)] h 56 λx56 h =>
 vbin .eql 0 x54 x56 h λx57 h =>
 vif x57 (
 vop O (.build [(.p (.int .i64 0)),(.p (.str [])),(.p .nilslice),(.p .nilslice)] [(0,1,(.k (kI 1)))]) h 58 λx58 h =>
 vstore 4 x4 x58 h λ_ h =>
 vcell true 4 x4 h λc0=>vfin true q [c0] h)
 (vcall O (.v (.c (.func 32 []))) [(kI 2)] h 60 λx60 h =>
 vbin .eql 0 x54 x60 h λx61 h =>
 vif x61 (
 vop O (.build [(.p (.int .i64 0)),(.p (.str [])),(.p .nilslice),(.p .nilslice)] [(0,1,(.k (kI 2)))]) h 62 λx62 h =>
 vstore 4 x4 x62 h λ_ h =>
 vcell true 4 x4 h λc0=>vfin true q [c0] h)
 (vcall O (.v (.c (.func 32 []))) [(kI 3)] h 64 λx64 h =>
 vbin .eql 0 x54 x64 h λx65 h =>
 vif x65 (
 vop O (.build [(.p (.int .i64 0)),(.p (.str [])),(.p .nilslice),(.p .nilslice)] [(0,1,(.k (kI 3)))]) h 66 λx66 h =>
 vstore 4 x4 x66 h λ_ h =>
 vcell true 4 x4 h λc0=>vfin true q [c0] h)
 (vcall O (.v (.c (.func 32 []))) [(kI 8)] h 68 λx68 h =>
 vbin .eql 0 x54 x68 h λx69 h =>
 vif x69 (
 vcall O (.v (.c (.func 57 []))) [x0,(kI 8),x1] h 72 λx72 h =>
 vstore 4 x4 x72 h λ_ h =>
 vcell true 4 x4 h λc0=>vfin true q [c0] h)
 (R 2 [x0,x1,x4,x5,(kI 4)] h))))))
theorem e34_1(O R q x0 x1 x4 x5 h):b34_1 O R q x0 x1 x4 x5 h=stepF c34 O R q 1 [x0,x1,x4,x5] h:=by kernel_rfl
def b34_2(O:Oracle)(R:Jump)(q:Nat)(x0 x1 x4 x5 x7:TVal)(h:Heap):Res1 :=
 vbin .leq 0 x7 (kI 6) h λx74 h =>
 vif x74 (
 vtouch O (.faddr 1 (.k x5)) h 77 λx77 h t0 =>
 vtouch O (.load false 1 (.k x77)) h 78 λx78 h t1 =>
 vtouch O (.mv (.k x7)) h 79 λx79 h t2 =>
 vtouch O (.call (.k (.v (.c (.func 32 [])))) [(.k x79)]) h 80 λx80 h t3 =>
 vtouch O (.bin .neq 0 (.k x78) (.k x80)) h 81 λx81 h t4 =>
 bif apartAll [t0,t1,t2,t3,t4] [(1,3)] then
 vif x81 (
 vbin .add 0 x7 (kI 1) h λx76 h =>
 R 2 [x0,x1,x4,x5,x76] h)
 (vcall O (.v (.c (.func 41 []))) [x0,(kS [60])] h 84 λx84 h =>
 vcall O (.v (.c (.func 39 []))) [x0,x84] h 85 λx85 h =>
 vbin .add 0 x1 (kI 1) h λx88 h =>
 vcall O (.v (.c (.func 34 []))) [x0,x88] h 89 λx89 h =>
 vop O (.alloc [(.p (.int .i64 0)),(.p (.str [])),(.p .nilslice),(.p .nilslice)] false) h 8 λx8 h =>
 vstore 4 x8 x89 h λ_ h =>
 vcall O (.v (.c (.func 41 []))) [x0,(kS [62])] h 92 λx92 h =>
 vcall O (.v (.c (.func 39 []))) [x0,x92] h 93 λx93 h =>
 vload true 4 x8 h λx95 h =>
 vop O (.bslice 4 1 [(.p (.int .i64 0)),(.p (.str [])),(.p .nilslice),(.p .nilslice)] [(0,(.k x95))] false) h 96 λx96 h =>
 vop O (.build [(.p (.int .i64 0)),(.p (.str [])),(.p .nilslice),(.p .nilslice)] [(0,1,(.k x7)),(3,1,(.k x96))]) h 97 λx97 h =>
 vstore 4 x4 x97 h λ_ h =>
 vcell true 4 x4 h λc0=>vfin true q [c0] h)
 else none)
 (R 3 [x4,x5] h)
theorem e34_2(O R q x0 x1 x4 x5 x7 h):b34_2 O R q x0 x1 x4 x5 x7 h=stepF c34 O R q 2 [x0,x1,x4,x5,x7] h:=by kernel_rfl
def b34_3(O:Oracle)(R:Jump)(q:Nat)(x4 x5:TVal)(h:Heap):Res1 :=
 vfaddr 1 x5 h λx98 h =>
 vload false 1 x98 h λx99 h =>
 vop O (.build [(.p (.int .i64 0)),(.p (.str [])),(.p .nilslice),(.p .nilslice)] [(0,1,(.k (kI 9))),(1,1,(.k x99))]) h 100 λx100 h =>
 vstore 4 x4 x100 h λ_ h =>
 vcell true 4 x4 h λc0=>vfin true q [c0] h
theorem e34_3(O R q x4 x5 h):b34_3 O R q x4 x5 h=stepF c34 O R q 3 [x4,x5] h:=by kernel_rfl
def d34:BlkF:=λO R Q=>[.s λa => .s λb => .z (b34_0 O R Q a b),.s λa => .s λb => .s λc => .s λd => .z (b34_1 O R Q a b c d),.s λa => .s λb => .s λc => .s λd => .s λe => .z (b34_2 O R Q a b c d e),.s λa => .s λb => .z (b34_3 O R Q a b)]
theorem o34(O:Oracle)(R:Jump)(q:Nat):HoldsAll c34 O R q 0 (d34 O R q):=⟨e34_0 O R q,e34_1 O R q,e34_2 O R q,e34_3 O R q,trivial⟩
def c35:MFunc:=mkM (compF Tryd.prog (globs2 tabs opq) (λ_=>false) true Tryd.f35) .n
def b35_0(O:Oracle)(R:Jump)(q:Nat)(x0:TVal)(h:Heap):Res1 :=
 vop O (.nilck (.k x0)) h 5 λx5 h =>
 vfaddr 1 x5 h λx6 h =>
 vload false 1 x6 h λx7 h =>
 vop O (.nilck (.k x0)) h 9 λx9 h =>
 vfaddr 0 x9 h λx10 h =>
 vload false 1 x10 h λx11 h =>
 vlen O 2 x11 h 12 λx12 h =>
 vbin .geq 0 x7 x12 h λx13 h =>
 vcall O (.v (.c (.func 39 []))) [x0,x13] h 14 λx14 h =>
 vop O (.nilck (.k x0)) h 17 λx17 h =>
 vfaddr 2 x17 h λx18 h =>
 vload false 1 x18 h λx19 h =>
 vbin .neq 0 x19 (kI 0) h λx20 h =>
 vif x20 (
 vop O (.nilck (.k x0)) h 22 λx22 h =>
 vfaddr 2 x22 h λx23 h =>
 vload false 1 x23 h λx24 h =>
 tcomp x24 λc0=>vfin true q [c0] h)
 (vop O (.nilck (.k x0)) h 27 λx27 h =>
 vfaddr 3 x27 h λx28 h =>
 vload false 1 x28 h λx29 h =>
 vif x29 (
 tcomp (kI 6) λc0=>vfin true q [c0] h)
 (tcomp (kI 0) λc0=>vfin true q [c0] h))
theorem e35_0(O R q x0 h):b35_0 O R q x0 h=stepF c35 O R q 0 [x0] h:=by kernel_rfl
def d35:BlkF:=λO R Q=>[.s λa => .z (b35_0 O R Q a)]
theorem o35(O:Oracle)(R:Jump)(q:Nat):HoldsAll c35 O R q 0 (d35 O R q):=⟨e35_0 O R q,trivial⟩
def c39:MFunc:=mkM (compF Tryd.prog (globs2 tabs opq) (λ_=>false) true Tryd.f39) .n
def b39_0(O:Oracle)(R:Jump)(q:Nat)(x0 x1:TVal)(h:Heap):Res1 :=
 vop O (.un .not (.k x1)) h 5 λx5 h =>
 vif x5 (
 vcall O (.v (.c (.func 56 []))) [x0,(kI 12)] h 7 λx7 h =>
 vfin true q [] h)
 (vfin true q [] h)
theorem e39_0(O R q x0 x1 h):b39_0 O R q x0 x1 h=stepF c39 O R q 0 [x0,x1] h:=by kernel_rfl
def d39:BlkF:=λO R Q=>[.s λa => .s λb => .z (b39_0 O R Q a b)]
theorem o39(O:Oracle)(R:Jump)(q:Nat):HoldsAll c39 O R q 0 (d39 O R q):=⟨e39_0 O R q,trivial⟩
def c40:MFunc:=mkM (compF Tryd.prog (globs2 tabs opq) (λ_=>false) true Tryd.f40) .n
def b40_0(O:Oracle)(R:Jump)(q:Nat)(x0 x1:TVal)(h:Heap):Res1 :=
 vcall O (.v (.c (.func 55 []))) [x0] h 7 λx7 h =>
 vop O (.alloc [(.p (.int .i64 0)),(.p (.str [])),(.p (.int .i64 0)),(.p (.int .i64 0))] false) h 5 λx5 h =>
 vstore 4 x5 x7 h λ_ h =>
 vfaddr 0 x5 h λx8 h =>
 vload false 1 x8 h λx9 h =>
 vbin .neq 0 x9 (kI 1) h λx10 h =>
 vguard x10 false (λkk=>vfaddr 1 x5 h kk) h λx12 h =>
 vguard x10 false (λkk=>vload false 1 x12 h kk) h λx13 h =>
 vguard x10 false (λkk=>kk x1 h) h λx14 h =>
 vguard x10 false (λkk=>vbin .neq 0 x13 x14 h kk) h λx15 h =>
 vop O (.pick (.k x10) (.k (kB true)) (.k x15)) h 16 λx16 h =>
 vif x16 (
 tcomp (kB false) λc0=>vfin true q [c0] h)
 (vop O (.nilck (.k x0)) h 18 λx18 h =>
 vfaddr 1 x18 h λx19 h =>
 vload false 1 x19 h λx20 h =>
 vbin .add 0 x20 (kI 1) h λx21 h =>
 vop O (.nilck (.k x0)) h 22 λx22 h =>
 vfaddr 1 x22 h λx23 h =>
 vstore 1 x23 x21 h λ_ h =>
 tcomp (kB true) λc0=>vfin true q [c0] h)
theorem e40_0(O R q x0 x1 h):b40_0 O R q x0 x1 h=stepF c40 O R q 0 [x0,x1] h:=by kernel_rfl
def d40:BlkF:=λO R Q=>[.s λa => .s λb => .z (b40_0 O R Q a b)]
theorem o40(O:Oracle)(R:Jump)(q:Nat):HoldsAll c40 O R q 0 (d40 O R q):=⟨e40_0 O R q,trivial⟩
def c41:MFunc:=mkM (compF Tryd.prog (globs2 tabs opq) (λ_=>false) true Tryd.f41) .n
def b41_0(O:Oracle)(R:Jump)(q:Nat)(x0 x1:TVal)(h:Heap):Res1 :=
 vcall O (.v (.c (.func 55 []))) [x0] h 7 λx7 h =>
 vop O (.alloc [(.p (.int .i64 0)),(.p (.str [])),(.p (.int .i64 0)),(.p (.int .i64 0))] false) h 5 λx5 h =>
 vstore 4 x5 x7 h λ_ h =>
 vfaddr 0 x5 h λx8 h =>
 vload false 1 x8 h λx9 h =>
 vbin .neq 0 x9 (kI 4) h λx10 h =>
 vguard x10 false (λkk=>vfaddr 1 x5 h kk) h λx12 h =>
 vguard x10 false (λkk=>vload false 1 x12 h kk) h λx13 h =>
 vguard x10 false (λkk=>kk x1 h) h λx14 h =>
 vguard x10 false (λkk=>vbin .neq 0 x13 x14 h kk) h λx15 h =>
 vop O (.pick (.k x10) (.k (kB true)) (.k x15)) h 16 λx16 h =>
 vif x16 (
 tcomp (kB false) λc0=>vfin true q [c0] h)
 (vop O (.nilck (.k x0)) h 18 λx18 h =>
 vfaddr 1 x18 h λx19 h =>
 vload false 1 x19 h λx20 h =>
 vbin .add 0 x20 (kI 1) h λx21 h =>
 vop O (.nilck (.k x0)) h 22 λx22 h =>
 vfaddr 1 x22 h λx23 h =>
 vstore 1 x23 x21 h λ_ h =>
 tcomp (kB true) λc0=>vfin true q [c0] h)
theorem e41_0(O R q x0 x1 h):b41_0 O R q x0 x1 h=stepF c41 O R q 0 [x0,x1] h:=by kernel_rfl
def d41:BlkF:=λO R Q=>[.s λa => .s λb => .z (b41_0 O R Q a b)]
theorem o41(O:Oracle)(R:Jump)(q:Nat):HoldsAll c41 O R q 0 (d41 O R q):=⟨e41_0 O R q,trivial⟩
def c42:MFunc:=mkM (compF Tryd.prog (globs2 tabs opq) (λ_=>false) true Tryd.f42) .n
def b42_0(O:Oracle)(R:Jump)(q:Nat)(x0:TVal)(h:Heap):Res1 :=
 vop O (.alloc [(.p (.str [])),(.p (.int .i64 0)),(.p (.str [])),(.p .nilslice),(.p .nilslice)] false) h 2 λx2 h =>
 vcall O (.v (.c (.func 65 []))) [x0] h 5 λx5 h =>
 vop O (.build [(.p (.str [])),(.p (.int .i64 0)),(.p (.str [])),(.p .nilslice),(.p .nilslice)] [(0,1,(.k x5))]) h 6 λx6 h =>
 vop O (.alloc [(.p (.str [])),(.p (.int .i64 0)),(.p (.str [])),(.p .nilslice),(.p .nilslice)] false) h 3 λx3 h =>
 vstore 5 x3 x6 h λ_ h =>
 vcall O (.v (.c (.func 41 []))) [x0,(kS [61])] h 9 λx9 h =>
 vcall O (.v (.c (.func 39 []))) [x0,x9] h 10 λx10 h =>
 vcall O (.v (.c (.func 34 []))) [x0,(kI 1)] h 12 λx12 h =>
 vfaddr 1 x3 h λx13 h =>
 vstore 4 x13 x12 h λ_ h =>
 vload true 5 x3 h λx14 h =>
 vstore 5 x2 x14 h λ_ h =>
 vcell true 5 x2 h λc0=>vfin true q [c0] h
theorem e42_0(O R q x0 h):b42_0 O R q x0 h=stepF c42 O R q 0 [x0] h:=by kernel_rfl
def d42:BlkF:=λO R Q=>[.s λa => .z (b42_0 O R Q a)]
theorem o42(O:Oracle)(R:Jump)(q:Nat):HoldsAll c42 O R q 0 (d42 O R q):=⟨e42_0 O R q,trivial⟩
def c43:MFunc:=mkM (compF Tryd.prog (globs2 tabs opq) (λn=>Nat.blt n 1000000) true Tryd.f43) .n
def b43_0(O:Oracle)(R:Jump)(q:Nat)(x0:TVal)(h:Heap):Res1 :=
 vop O (.box (.k x0) true) h 1 λx1 h =>
 vop O (.alloc [(.p (.str [])),(.p .nilslice),(.p (.int .i64 0)),(.p (.str [])),(.p .nilslice),(.p .nilslice)] true) h 2 λx2 h =>
 vload false 1 x1 h λx4 h =>
 vcall O (.v (.c (.func 65 []))) [x4] h 5 λx5 h =>
 vop O (.build [(.p (.str [])),(.p .nilslice),(.p (.int .i64 0)),(.p (.str [])),(.p .nilslice),(.p .nilslice)] [(0,1,(.k x5))]) h 6 λx6 h =>
 vop O (.alloc [(.p (.str [])),(.p .nilslice),(.p (.int .i64 0)),(.p (.str [])),(.p .nilslice),(.p .nilslice)] true) h 3 λx3 h =>
 vstore 6 x3 x6 h λ_ h =>
 vtouch O (.load false 1 (.k x1)) h 7 λx7 h t0 =>
 vtouch O (.load false 1 (.k x1)) h 8 λx8 h t1 =>
 vtouch O (.call (.k (.v (.c (.func 41 [])))) [(.k x8),(.k (kS [40]))]) h 9 λx9 h t2 =>
 vtouch O (.call (.k (.v (.c (.func 39 [])))) [(.k x7),(.k x9)]) h 10 λx10 h t3 =>
 bif apartAll [t0,t1,t2,t3] [(0,2)] then
 vload false 1 x1 h λx11 h =>
 vop O (.mkfn 67 [(.k x3),(.k x1)]) h 12 λx12 h =>
 vcall O (.v (.c (.func 66 []))) [x11,(kS [41]),x12] h 13 λx13 h =>
 vtouch O (.load false 1 (.k x1)) h 14 λx14 h t0 =>
 vtouch O (.load false 1 (.k x1)) h 15 λx15 h t1 =>
 vtouch O (.call (.k (.v (.c (.func 41 [])))) [(.k x15),(.k (kS [45,62]))]) h 16 λx16 h t2 =>
 vtouch O (.call (.k (.v (.c (.func 39 [])))) [(.k x14),(.k x16)]) h 17 λx17 h t3 =>
 bif apartAll [t0,t1,t2,t3] [(0,2)] then
 vload false 1 x1 h λx18 h =>
 vcall O (.v (.c (.func 34 []))) [x18,(kI 1)] h 19 λx19 h =>
 vfaddr 2 x3 h λx20 h =>
 vstore 4 x20 x19 h λ_ h =>
 vload true 6 x3 h λx21 h =>
 vstore 6 x2 x21 h λ_ h =>
 vcell true 6 x2 h λc0=>vfin true q [c0] h
 else none
 else none
theorem e43_0(O R q x0 h):b43_0 O R q x0 h=stepF c43 O R q 0 [x0] h:=by kernel_rfl
def d43:BlkF:=λO R Q=>[.s λa => .z (b43_0 O R Q a)]
theorem o43(O:Oracle)(R:Jump)(q:Nat):HoldsAll c43 O R q 0 (d43 O R q):=⟨e43_0 O R q,trivial⟩
def c44:MFunc:=mkM (compF Tryd.prog (globs2 tabs opq) (λ_=>false) true Tryd.f44) .n
theorem e44_0(O R q x0 x1 h):gE_0 5 94 95 124 150 68 O R q x0 x1 h=stepF c44 O R q 0 [x0,x1] h:=by kernel_rfl
def d44:BlkF:=λO R Q=>[.s λa => .s λb => .z (gE_0 5 94 95 124 150 68 O R Q a b)]
theorem o44(O:Oracle)(R:Jump)(q:Nat):HoldsAll c44 O R q 0 (d44 O R q):=⟨e44_0 O R q,trivial⟩
def c45:MFunc:=mkM (compF Tryd.prog (globs2 tabs opq) (λ_=>false) true Tryd.f45) .n
def b45_0(O:Oracle)(R:Jump)(q:Nat)(x0 x1:TVal)(h:Heap):Res1 :=
 vop O (.box (.k x0) false) h 2 λx2 h =>
 vop O (.box (.k x1) false) h 3 λx3 h =>
 vfaddr 0 x2 h λx5 h =>
 vload false 1 x5 h λx6 h =>
 vfaddr 0 x3 h λx7 h =>
 vload false 1 x7 h λx8 h =>
 vcall O (.v (.c (.func 46 []))) [x6,x8] h 9 λx9 h =>
 tcomp x9 λc0=>vfin true q [c0] h
theorem e45_0(O R q x0 x1 h):b45_0 O R q x0 x1 h=stepF c45 O R q 0 [x0,x1] h:=by kernel_rfl
def d45:BlkF:=λO R Q=>[.s λa => .s λb => .z (b45_0 O R Q a b)]
theorem o45(O:Oracle)(R:Jump)(q:Nat):HoldsAll c45 O R q 0 (d45 O R q):=⟨e45_0 O R q,trivial⟩
def c46:MFunc:=mkM (compF Tryd.prog (globs2 tabs opq) (λ_=>false) true Tryd.f46) .n
def b46_0(O:Oracle)(R:Jump)(q:Nat)(x0 x1:TVal)(h:Heap):Res1 :=
 vcall O (.v (.c (.func 69 []))) [x0] h 8 λx8 h =>
 vcall O (.v (.c (.func 69 []))) [x1] h 10 λx10 h =>
 vif x8 (
 vif x10 (
 tcomp (kI 0) λc0=>vfin true q [c0] h)
 (tcomp (kI (-1)) λc0=>vfin true q [c0] h))
 (vif x10 (
 tcomp (kI 1) λc0=>vfin true q [c0] h)
 (vbin .lss 0 x0 x1 h λx16 h =>
 vif x16 (
 tcomp (kI (-1)) λc0=>vfin true q [c0] h)
 (vbin .gtr 0 x0 x1 h λx19 h =>
 vif x19 (
 tcomp (kI 1) λc0=>vfin true q [c0] h)
 (tcomp (kI 0) λc0=>vfin true q [c0] h))))
theorem e46_0(O R q x0 x1 h):b46_0 O R q x0 x1 h=stepF c46 O R q 0 [x0,x1] h:=by kernel_rfl
def d46:BlkF:=λO R Q=>[.s λa => .s λb => .z (b46_0 O R Q a b)]
theorem o46(O:Oracle)(R:Jump)(q:Nat):HoldsAll c46 O R q 0 (d46 O R q):=⟨e46_0 O R q,trivial⟩
def c47:MFunc:=mkM (compF Tryd.prog (globs2 tabs opq) (λ_=>false) true Tryd.f47) .n
theorem e47_0(O R q x0 x1 h):gE_0 6 96 97 125 151 70 O R q x0 x1 h=stepF c47 O R q 0 [x0,x1] h:=by kernel_rfl
def d47:BlkF:=λO R Q=>[.s λa => .s λb => .z (gE_0 6 96 97 125 151 70 O R Q a b)]
theorem o47(O:Oracle)(R:Jump)(q:Nat):HoldsAll c47 O R q 0 (d47 O R q):=⟨e47_0 O R q,trivial⟩
def c48:MFunc:=mkM (compF Tryd.prog (globs2 tabs opq) (λ_=>false) true Tryd.f48) .n
def b48_0(O:Oracle)(R:Jump)(q:Nat)(x0 x1:TVal)(h:Heap):Res1 :=
 vop O (.box (.k x0) false) h 2 λx2 h =>
 vop O (.box (.k x1) false) h 3 λx3 h =>
 vfaddr 0 x2 h λx5 h =>
 vload false 1 x5 h λx6 h =>
 vfaddr 0 x3 h λx7 h =>
 vload false 1 x7 h λx8 h =>
 vcall O (.v (.c (.func 46 []))) [x6,x8] h 9 λx9 h =>
 tcomp x9 λc0=>vfin true q [c0] h
theorem e48_0(O R q x0 x1 h):b48_0 O R q x0 x1 h=stepF c48 O R q 0 [x0,x1] h:=by kernel_rfl
def d48:BlkF:=λO R Q=>[.s λa => .s λb => .z (b48_0 O R Q a b)]
theorem o48(O:Oracle)(R:Jump)(q:Nat):HoldsAll c48 O R q 0 (d48 O R q):=⟨e48_0 O R q,trivial⟩
def c54:MFunc:=mkM (compF Tryd.prog (globs2 tabs opq) (λ_=>false) true Tryd.f54) (.s .n (.s .n (.s .n (.s (.s .n (.k (.l 1 [0,4,5] (.k (.s (.k (.l 2 [0,4,5] .n)) (.m 3 [0,4,5] .n)))))) (.m 4 [4] .n)))))
def b54_0(O:Oracle)(R:Jump)(q:Nat)(x0:TVal)(h:Heap):Res1 :=
 vlen O 0 x0 h 10 λx10 h =>
 vbin .gtr 0 x10 (kI 1500) h λx11 h =>
 vif x11 (
 tcomp (.v (.c (.p .nilslice))) λc0=>tcomp (kI 4) λc1=>vfin true q [c0,c1] h)
 (R 1 [x0,(.v (.c (.p .nilslice))),(kI 0)] h)
theorem e54_0(O R q x0 h):b54_0 O R q x0 h=stepF c54 O R q 0 [x0] h:=by kernel_rfl
def b54_1(O:Oracle)(R:Jump)(q:Nat)(x0 x4 x5:TVal)(h:Heap):Res1 :=
 R 2 [x0,x4,x5] h
theorem e54_1(O R q x0 x4 x5 h):b54_1 O R q x0 x4 x5 h=stepF c54 O R q 1 [x0,x4,x5] h:=by kernel_rfl
def b54_2(O:Oracle)(R:Jump)(q:Nat)(x0 x4 x5:TVal)(h:Heap):Res1 :=
 vlen O 0 x0 h 14 λx14 h =>
 vbin .lss 0 x5 x14 h λx15 h =>
 vguard x15 true (λkk=>kk x0 h) h λx17 h =>
 vguard x15 true (λkk=>kk x5 h) h λx18 h =>
 vguard x15 true (λkk=>kk x5 h) h λx19 h =>
 vguard x15 true (λkk=>vbin .add 0 x19 (kI 1) h kk) h λx20 h =>
 vguard x15 true (λkk=>vop O (.slice 0 true (.k x17) (some (.k x18)) (some (.k x20)) none) h 21 kk) h λx21 h =>
 vguard x15 true (λkk=>vcall O (.v (.c (.func 84 []))) [(kS [32,9,10,13]),x21] h 22 kk) h λx22 h =>
 vop O (.pick (.k x15) (.k x22) (.k (kB false))) h 23 λx23 h =>
 vif x23 (
 vbin .add 0 x5 (kI 1) h λx25 h =>
 R 2 [x0,x4,x25] h)
 (R 3 [x0,x4,x5] h)
theorem e54_2(O R q x0 x4 x5 h):b54_2 O R q x0 x4 x5 h=stepF c54 O R q 2 [x0,x4,x5] h:=by kernel_rfl
def b54_3(O:Oracle)(R:Jump)(q:Nat)(x0 x4 x5:TVal)(h:Heap):Res1 :=
 vlen O 0 x0 h 28 λx28 h =>
 vbin .eql 0 x5 x28 h λx29 h =>
 vif x29 (
 R 4 [x4] h)
 (vop O (.slice 0 true (.k x0) (some (.k x5)) none none) h 33 λx33 h =>
 vcall O (.v (.c (.func 85 []))) [x33] h 34 λx34 h =>
 vext x34 0 h λx35 h =>
 vext x34 1 h λx36 h =>
 vext x34 2 h λx37 h =>
 vop O (.alloc [(.p (.int .i64 0)),(.p (.str [])),(.p (.int .i64 0)),(.p (.int .i64 0))] false) h 6 λx6 h =>
 vstore 4 x6 x35 h λ_ h =>
 vbin .neq 0 x37 (kI 0) h λx39 h =>
 vif x39 (
 tcomp (.v (.c (.p .nilslice))) λc0=>tcomp x37 λc1=>vfin true q [c0,c1] h)
 (vfaddr 3 x6 h λx42 h =>
 vstore 1 x42 x5 h λ_ h =>
 vload true 4 x6 h λx44 h =>
 vop O (.bslice 4 1 [(.p (.int .i64 0)),(.p (.str [])),(.p (.int .i64 0)),(.p (.int .i64 0))] [(0,(.k x44))] false) h 45 λx45 h =>
 vop O (.append 4 40 false (.k x4) (.k x45)) h 46 λx46 h =>
 vbin .add 0 x5 x36 h λx49 h =>
 R 1 [x0,x46,x49] h))
theorem e54_3(O R q x0 x4 x5 h):b54_3 O R q x0 x4 x5 h=stepF c54 O R q 3 [x0,x4,x5] h:=by kernel_rfl
def b54_4(O:Oracle)(R:Jump)(q:Nat)(x4:TVal)(h:Heap):Res1 :=
 vlen O 2 x4 h 51 λx51 h =>
 vbin .gtr 0 x51 (kI 400) h λx52 h =>
 vif x52 (
 tcomp (.v (.c (.p .nilslice))) λc0=>tcomp (kI 3) λc1=>vfin true q [c0,c1] h)
 (tcomp x4 λc0=>tcomp (kI 0) λc1=>vfin true q [c0,c1] h)
theorem e54_4(O R q x4 h):b54_4 O R q x4 h=stepF c54 O R q 4 [x4] h:=by kernel_rfl
def d54:BlkF:=λO R Q=>[.s λa => .z (b54_0 O R Q a),.s λa => .s λb => .s λc => .z (b54_1 O R Q a b c),.s λa => .s λb => .s λc => .z (b54_2 O R Q a b c),.s λa => .s λb => .s λc => .z (b54_3 O R Q a b c),.s λa => .z (b54_4 O R Q a)]
theorem o54(O:Oracle)(R:Jump)(q:Nat):HoldsAll c54 O R q 0 (d54 O R q):=⟨e54_0 O R q,e54_1 O R q,e54_2 O R q,e54_3 O R q,e54_4 O R q,trivial⟩
def c55:MFunc:=mkM (compF Tryd.prog (globs2 tabs opq) (λ_=>false) true Tryd.f55) .n
def b55_0(O:Oracle)(R:Jump)(q:Nat)(x0:TVal)(h:Heap):Res1 :=
 vop O (.alloc [(.p (.int .i64 0)),(.p (.str [])),(.p (.int .i64 0)),(.p (.int .i64 0))] false) h 2 λx2 h =>
 vop O (.nilck (.k x0)) h 4 λx4 h =>
 vfaddr 2 x4 h λx5 h =>
 vload false 1 x5 h λx6 h =>
 vbin .neq 0 x6 (kI 0) h λx7 h =>
 vguard x7 false (λkk=>kk x0 h) h λx9 h =>
 vguard x7 false (λkk=>vop O (.nilck (.k x9)) h 10 kk) h λx10 h =>
 vguard x7 false (λkk=>vfaddr 1 x10 h kk) h λx11 h =>
 vguard x7 false (λkk=>vload false 1 x11 h kk) h λx12 h =>
 vguard x7 false (λkk=>kk x0 h) h λx13 h =>
 vguard x7 false (λkk=>vop O (.nilck (.k x13)) h 14 kk) h λx14 h =>
 vguard x7 false (λkk=>vfaddr 0 x14 h kk) h λx15 h =>
 vguard x7 false (λkk=>vload false 1 x15 h kk) h λx16 h =>
 vguard x7 false (λkk=>vlen O 2 x16 h 17 kk) h λx17 h =>
 vguard x7 false (λkk=>vbin .geq 0 x12 x17 h kk) h λx18 h =>
 vop O (.pick (.k x7) (.k (kB true)) (.k x18)) h 19 λx19 h =>
 vif x19 (
 vop O (.build [(.p (.int .i64 0)),(.p (.str [])),(.p (.int .i64 0)),(.p (.int .i64 0))] []) h 20 λx20 h =>
 vstore 4 x2 x20 h λ_ h =>
 vcell true 4 x2 h λc0=>vfin true q [c0] h)
 (vop O (.nilck (.k x0)) h 22 λx22 h =>
 vfaddr 0 x22 h λx23 h =>
 vload false 1 x23 h λx24 h =>
 vop O (.nilck (.k x0)) h 26 λx26 h =>
 vfaddr 1 x26 h λx27 h =>
 vload false 1 x27 h λx28 h =>
 viaddr 4 x24 x28 h λx29 h =>
 vload true 4 x29 h λx30 h =>
 vstore 4 x2 x30 h λ_ h =>
 vcell true 4 x2 h λc0=>vfin true q [c0] h)
theorem e55_0(O R q x0 h):b55_0 O R q x0 h=stepF c55 O R q 0 [x0] h:=by kernel_rfl
def d55:BlkF:=λO R Q=>[.s λa => .z (b55_0 O R Q a)]
theorem o55(O:Oracle)(R:Jump)(q:Nat):HoldsAll c55 O R q 0 (d55 O R q):=⟨e55_0 O R q,trivial⟩
def c56:MFunc:=mkM (compF Tryd.prog (globs2 tabs opq) (λ_=>false) true Tryd.f56) .n
def b56_0(O:Oracle)(R:Jump)(q:Nat)(x0 x1:TVal)(h:Heap):Res1 :=
 vop O (.nilck (.k x0)) h 5 λx5 h =>
 vfaddr 2 x5 h λx6 h =>
 vload false 1 x6 h λx7 h =>
 vbin .eql 0 x7 (kI 0) h λx8 h =>
 vif x8 (
 vop O (.nilck (.k x0)) h 11 λx11 h =>
 vfaddr 2 x11 h λx12 h =>
 vstore 1 x12 x1 h λ_ h =>
 vfin true q [] h)
 (vfin true q [] h)
theorem e56_0(O R q x0 x1 h):b56_0 O R q x0 x1 h=stepF c56 O R q 0 [x0,x1] h:=by kernel_rfl
def d56:BlkF:=λO R Q=>[.s λa => .s λb => .z (b56_0 O R Q a b)]
theorem o56(O:Oracle)(R:Jump)(q:Nat):HoldsAll c56 O R q 0 (d56 O R q):=⟨e56_0 O R q,trivial⟩
def c57:MFunc:=mkM (compF Tryd.prog (globs2 tabs opq) (λ_=>false) true Tryd.f57) (.s .n (.s .n (.s .n (.s .n (.s .n (.s .n (.s (.s .n (.k (.l 1 [3,6,7,8,22,23,24] .n))) (.m 2 [6,8] .n))))))))
def b57_0(O:Oracle)(R:Jump)(q:Nat)(x0 x1 x2:TVal)(h:Heap):Res1 :=
 vop O (.box (.k x0) false) h 3 λx3 h =>
 vop O (.box (.k x2) false) h 5 λx5 h =>
 vop O (.alloc [(.p (.int .i64 0)),(.p (.str [])),(.p .nilslice),(.p .nilslice)] false) h 6 λx6 h =>
 vop O (.alloc [(.p .nilslice)] false) h 7 λx7 h =>
 vtouch O (.load false 1 (.k x3)) h 11 λx11 h t0 =>
 vtouch O (.load false 1 (.k x3)) h 12 λx12 h t1 =>
 vtouch O (.call (.k (.v (.c (.func 41 [])))) [(.k x12),(.k (kS [123]))]) h 13 λx13 h t2 =>
 vtouch O (.call (.k (.v (.c (.func 39 [])))) [(.k x11),(.k x13)]) h 14 λx14 h t3 =>
 bif apartAll [t0,t1,t2,t3] [(0,2)] then
 vload false 1 x3 h λx15 h =>
 vop O (.mkfn 86 [(.k x3),(.k x5),(.k x7)]) h 16 λx16 h =>
 vcall O (.v (.c (.func 66 []))) [x15,(kS [125]),x16] h 17 λx17 h =>
 vload false 1 x7 h λx18 h =>
 vcall O (.v (.c (.func 87 []))) [x18,(.v (.c (.func 88 [])))] h 19 λx19 h =>
 vop O (.build [(.p (.int .i64 0)),(.p (.str [])),(.p .nilslice),(.p .nilslice)] [(0,1,(.k x1))]) h 21 λx21 h =>
 vop O (.alloc [(.p (.int .i64 0)),(.p (.str [])),(.p .nilslice),(.p .nilslice)] false) h 8 λx8 h =>
 vstore 4 x8 x21 h λ_ h =>
 vload false 1 x7 h λx22 h =>
 vlen O 2 x22 h 23 λx23 h =>
 R 1 [x3,x6,x7,x8,x22,x23,(kI 0)] h
 else none
theorem e57_0(O R q x0 x1 x2 h):b57_0 O R q x0 x1 x2 h=stepF c57 O R q 0 [x0,x1,x2] h:=by kernel_rfl
def b57_1(O:Oracle)(R:Jump)(q:Nat)(x3 x6 x7 x8 x22 x23 x24:TVal)(h:Heap):Res1 :=
 vbin .lss 0 x24 x23 h λx25 h =>
 vif x25 (
 viaddr 5 x22 x24 h λx27 h =>
 vload true 5 x27 h λx28 h =>
 vop O (.alloc [(.p (.str [])),(.p (.int .i64 0)),(.p (.str [])),(.p .nilslice),(.p .nilslice)] false) h 10 λx10 h =>
 vstore 5 x10 x28 h λ_ h =>
 vload false 1 x3 h λx29 h =>
 vload false 1 x3 h λx30 h =>
 vop O (.nilck (.k x30)) h 31 λx31 h =>
 vfaddr 3 x31 h λx32 h =>
 vload false 1 x32 h λx33 h =>
 vguard x33 false (λkk=>kk x24 h) h λx35 h =>
 vguard x33 false (λkk=>vbin .gtr 0 x35 (kI 0) h kk) h λx36 h =>
 vguard x33 false (λkk=>kk x36 h) h λx37 h =>
 vguard x37 true (λkk=>vload false 1 x7 h kk) h λx38 h =>
 vguard x37 true (λkk=>kk x24 h) h λx39 h =>
 vguard x37 true (λkk=>vbin .sub 0 x39 (kI 1) h kk) h λx40 h =>
 vguard x37 true (λkk=>viaddr 5 x38 x40 h kk) h λx41 h =>
 vguard x37 true (λkk=>vfaddr 0 x41 h kk) h λx42 h =>
 vguard x37 true (λkk=>vload false 1 x42 h kk) h λx43 h =>
 vguard x37 true (λkk=>vfaddr 0 x10 h kk) h λx44 h =>
 vguard x37 true (λkk=>vload false 1 x44 h kk) h λx45 h =>
 vguard x37 true (λkk=>vbin .eql 0 x43 x45 h kk) h λx46 h =>
 vguard x33 false (λkk=>vop O (.pick (.k x37) (.k x46) (.k (kB false))) h 47 kk) h λx47 h =>
 vop O (.pick (.k x33) (.k (kB true)) (.k x47)) h 48 λx48 h =>
 vop O (.nilck (.k x29)) h 49 λx49 h =>
 vfaddr 3 x49 h λx50 h =>
 vstore 1 x50 x48 h λ_ h =>
 vtouch O (.faddr 2 (.k x8)) h 51 λx51 h t0 =>
 vtouch O (.load false 1 (.k x51)) h 52 λx52 h t1 =>
 vtouch O (.faddr 0 (.k x10)) h 53 λx53 h t2 =>
 vtouch O (.load false 1 (.k x53)) h 54 λx54 h t3 =>
 vtouch O (.bslice 1 1 [(.p (.str []))] [(0,(.k x54))] false) h 55 λx55 h t4 =>
 vtouch O (.append 1 16 false (.k x52) (.k x55)) h 56 λx56 h t5 =>
 vtouch O (.faddr 3 (.k x8)) h 57 λx57 h t6 =>
 vtouch O (.load false 1 (.k x57)) h 58 λx58 h t7 =>
 vtouch O (.faddr 1 (.k x10)) h 59 λx59 h t8 =>
 vtouch O (.load true 4 (.k x59)) h 60 λx60 h t9 =>
 vtouch O (.bslice 4 1 [(.p (.int .i64 0)),(.p (.str [])),(.p .nilslice),(.p .nilslice)] [(0,(.k x60))] false) h 61 λx61 h t10 =>
 vtouch O (.append 4 72 false (.k x58) (.k x61)) h 62 λx62 h t11 =>
 vtouch O (.faddr 2 (.k x8)) h 63 λx63 h t12 =>
 vtouch O (.store 1 (.k x63) (.k x56)) h 1000000 λ_ h t13 =>
 vtouch O (.faddr 3 (.k x8)) h 64 λx64 h t14 =>
 vtouch O (.store 1 (.k x64) (.k x62)) h 1000000 λ_ h t15 =>
 bif apartAll [t0,t1,t2,t3,t4,t5,t6,t7,t8,t9,t10,t11,t12,t13,t14,t15] [(1,4),(4,7),(5,7),(4,9),(5,9),(1,10),(3,10),(4,10),(5,10),(7,10)] then
 vbin .add 0 x24 (kI 1) h λx65 h =>
 R 1 [x3,x6,x7,x8,x22,x23,x65] h
 else none)
 (R 2 [x6,x8] h)
theorem e57_1(O R q x3 x6 x7 x8 x22 x23 x24 h):b57_1 O R q x3 x6 x7 x8 x22 x23 x24 h=stepF c57 O R q 1 [x3,x6,x7,x8,x22,x23,x24] h:=by kernel_rfl
def b57_2(O:Oracle)(R:Jump)(q:Nat)(x6 x8:TVal)(h:Heap):Res1 :=
 vload true 4 x8 h λx66 h =>
 vstore 4 x6 x66 h λ_ h =>
 vcell true 4 x6 h λc0=>vfin true q [c0] h
theorem e57_2(O R q x6 x8 h):b57_2 O R q x6 x8 h=stepF c57 O R q 2 [x6,x8] h:=by kernel_rfl
def d57:BlkF:=λO R Q=>[.s λa => .s λb => .s λc => .z (b57_0 O R Q a b c),.s λa => .s λb => .s λc => .s λd => .s λe => .s λf => .s λg => .z (b57_1 O R Q a b c d e f g),.s λa => .s λb => .z (b57_2 O R Q a b)]
theorem o57(O:Oracle)(R:Jump)(q:Nat):HoldsAll c57 O R q 0 (d57 O R q):=⟨e57_0 O R q,e57_1 O R q,e57_2 O R q,trivial⟩
def c65:MFunc:=mkM (compF Tryd.prog (globs2 tabs opq) (λ_=>false) true Tryd.f65) .n
def b65_0(O:Oracle)(R:Jump)(q:Nat)(x0:TVal)(h:Heap):Res1 :=
 vcall O (.v (.c (.func 55 []))) [x0] h 5 λx5 h =>
 vop O (.alloc [(.p (.int .i64 0)),(.p (.str [])),(.p (.int .i64 0)),(.p (.int .i64 0))] false) h 3 λx3 h =>
 vstore 4 x3 x5 h λ_ h =>
 vfaddr 0 x3 h λx7 h =>
 vload false 1 x7 h λx8 h =>
 vbin .eql 0 x8 (kI 1) h λx9 h =>
 vcall O (.v (.c (.func 39 []))) [x0,x9] h 10 λx10 h =>
 vop O (.nilck (.k x0)) h 12 λx12 h =>
 vfaddr 1 x12 h λx13 h =>
 vload false 1 x13 h λx14 h =>
 vbin .add 0 x14 (kI 1) h λx15 h =>
 vop O (.nilck (.k x0)) h 16 λx16 h =>
 vfaddr 1 x16 h λx17 h =>
 vstore 1 x17 x15 h λ_ h =>
 vfaddr 1 x3 h λx18 h =>
 vload false 1 x18 h λx19 h =>
 tcomp x19 λc0=>vfin true q [c0] h
theorem e65_0(O R q x0 h):b65_0 O R q x0 h=stepF c65 O R q 0 [x0] h:=by kernel_rfl
def d65:BlkF:=λO R Q=>[.s λa => .z (b65_0 O R Q a)]
theorem o65(O:Oracle)(R:Jump)(q:Nat):HoldsAll c65 O R q 0 (d65 O R q):=⟨e65_0 O R q,trivial⟩
def c66:MFunc:=mkM (compF Tryd.prog (globs2 tabs opq) (λ_=>false) true Tryd.f66) (.s .n (.s .n (.s (.k (.l 1 [0,1,2] .n)) (.m 2 [0,1] .n))))
def b66_0(O:Oracle)(R:Jump)(q:Nat)(x0 x1 x2:TVal)(h:Heap):Res1 :=
 vcall O (.v (.c (.func 41 []))) [x0,x1] h 8 λx8 h =>
 vif x8 (
 vfin true q [] h)
 (vcall O x2 [] h 10 λx10 h =>
 R 1 [x0,x1,x2] h)
theorem e66_0(O R q x0 x1 x2 h):b66_0 O R q x0 x1 x2 h=stepF c66 O R q 0 [x0,x1,x2] h:=by kernel_rfl
def b66_1(O:Oracle)(R:Jump)(q:Nat)(x0 x1 x2:TVal)(h:Heap):Res1 :=
 vcall O (.v (.c (.func 41 []))) [x0,(kS [44])] h 12 λx12 h =>
 vif x12 (
 vcall O x2 [] h 14 λx14 h =>
 R 1 [x0,x1,x2] h)
 (R 2 [x0,x1] h)
theorem e66_1(O R q x0 x1 x2 h):b66_1 O R q x0 x1 x2 h=stepF c66 O R q 1 [x0,x1,x2] h:=by kernel_rfl
def b66_2(O:Oracle)(R:Jump)(q:Nat)(x0 x1:TVal)(h:Heap):Res1 :=
 vcall O (.v (.c (.func 41 []))) [x0,x1] h 18 λx18 h =>
 vcall O (.v (.c (.func 39 []))) [x0,x18] h 19 λx19 h =>
 vfin true q [] h
theorem e66_2(O R q x0 x1 h):b66_2 O R q x0 x1 h=stepF c66 O R q 2 [x0,x1] h:=by kernel_rfl
def d66:BlkF:=λO R Q=>[.s λa => .s λb => .s λc => .z (b66_0 O R Q a b c),.s λa => .s λb => .s λc => .z (b66_1 O R Q a b c),.s λa => .s λb => .z (b66_2 O R Q a b)]
theorem o66(O:Oracle)(R:Jump)(q:Nat):HoldsAll c66 O R q 0 (d66 O R q):=⟨e66_0 O R q,e66_1 O R q,e66_2 O R q,trivial⟩
def c67:MFunc:=mkM (compF Tryd.prog (globs2 tabs opq) (λn=>Nat.blt n 1000000) true Tryd.f67) .n
def b67_0(O:Oracle)(R:Jump)(q:Nat)(x0 x1:TVal)(h:Heap):Res1 :=
 vtouch O (.faddr 1 (.k x0)) h 2 λx2 h t0 =>
 vtouch O (.load false 1 (.k x2)) h 3 λx3 h t1 =>
 vtouch O (.load false 1 (.k x1)) h 4 λx4 h t2 =>
 vtouch O (.call (.k (.v (.c (.func 34 [])))) [(.k x4),(.k (kI 1))]) h 5 λx5 h t3 =>
 vtouch O (.len 2 (.k x3)) h 6 λx6 h t4 =>
 vtouch O (.bslice 4 1 [(.p (.int .i64 0)),(.p (.str [])),(.p .nilslice),(.p .nilslice)] [(0,(.k (.v (.agg [(.p (.int .i64 0)),(.p (.str [])),(.p .nilslice),(.p .nilslice)]))))] true) h 7 λx7 h t5 =>
 vtouch O (.append 4 72 true (.k x3) (.k x7)) h 8 λx8 h t6 =>
 vtouch O (.iaddr 4 (.k x8) (.k x6)) h 9 λx9 h t7 =>
 vtouch O (.store 4 (.k x9) (.k x5)) h 1000000 λ_ h t8 =>
 vtouch O (.faddr 1 (.k x0)) h 10 λx10 h t9 =>
 vtouch O (.store 1 (.k x10) (.k x8)) h 1000000 λ_ h t10 =>
 bif apartAll [t0,t1,t2,t3,t4,t5,t6,t7,t8,t9,t10] [(1,3),(3,4),(1,5),(2,5),(3,5),(4,5),(8,10)] then
 vfin true q [] h
 else none
theorem e67_0(O R q x0 x1 h):b67_0 O R q x0 x1 h=stepF c67 O R q 0 [x0,x1] h:=by kernel_rfl
def d67:BlkF:=λO R Q=>[.s λa => .s λb => .z (b67_0 O R Q a b)]
theorem o67(O:Oracle)(R:Jump)(q:Nat):HoldsAll c67 O R q 0 (d67 O R q):=⟨e67_0 O R q,trivial⟩
def c68:MFunc:=mkM (compF Tryd.prog (globs2 tabs opq) (λ_=>false) true Tryd.f68) (.s .n (.s .n (.s (.k (.l 1 [0,1,2,6,7,8] .n)) (.m 2 [0,1,2,6,7] (.s .n (.k (.l 3 [0,1,2,6] (.s .n (.k (.s .n (.s (.k (.l 4 [0,1,2,6,7,8] .n)) (.m 5 [0,1,2,6,7] (.s .n (.m 6 [0,1,2,6] .n))))))))))))))
theorem e68_0(O R q x0 x1 x2 h):gT_0 5 94 95 124 150 68 O R q x0 x1 x2 h=stepF c68 O R q 0 [x0,x1,x2] h:=by kernel_rfl
theorem e68_1(O R q x0 x1 x2 x6 x7 x8 h):gT_1 5 94 95 124 150 68 O R q x0 x1 x2 x6 x7 x8 h=stepF c68 O R q 1 [x0,x1,x2,x6,x7,x8] h:=by kernel_rfl
theorem e68_2(O R q x0 x1 x2 x6 x7 h):gT_2 5 94 95 124 150 68 O R q x0 x1 x2 x6 x7 h=stepF c68 O R q 2 [x0,x1,x2,x6,x7] h:=by kernel_rfl
theorem e68_3(O R q x0 x1 x2 x6 h):gT_3 5 94 95 124 150 68 O R q x0 x1 x2 x6 h=stepF c68 O R q 3 [x0,x1,x2,x6] h:=by kernel_rfl
theorem e68_4(O R q x0 x1 x2 x6 x7 x8 h):gT_4 5 94 95 124 150 68 O R q x0 x1 x2 x6 x7 x8 h=stepF c68 O R q 4 [x0,x1,x2,x6,x7,x8] h:=by kernel_rfl
theorem e68_5(O R q x0 x1 x2 x6 x7 h):gT_5 5 94 95 124 150 68 O R q x0 x1 x2 x6 x7 h=stepF c68 O R q 5 [x0,x1,x2,x6,x7] h:=by kernel_rfl
theorem e68_6(O R q x0 x1 x2 x6 h):gT_6 5 94 95 124 150 68 O R q x0 x1 x2 x6 h=stepF c68 O R q 6 [x0,x1,x2,x6] h:=by kernel_rfl
def d68:BlkF:=λO R Q=>[.s λa => .s λb => .s λc => .z (gT_0 5 94 95 124 150 68 O R Q a b c),.s λa => .s λb => .s λc => .s λd => .s λe => .s λf => .z (gT_1 5 94 95 124 150 68 O R Q a b c d e f),.s λa => .s λb => .s λc => .s λd => .s λe => .z (gT_2 5 94 95 124 150 68 O R Q a b c d e),.s λa => .s λb => .s λc => .s λd => .z (gT_3 5 94 95 124 150 68 O R Q a b c d),.s λa => .s λb => .s λc => .s λd => .s λe => .s λf => .z (gT_4 5 94 95 124 150 68 O R Q a b c d e f),.s λa => .s λb => .s λc => .s λd => .s λe => .z (gT_5 5 94 95 124 150 68 O R Q a b c d e),.s λa => .s λb => .s λc => .s λd => .z (gT_6 5 94 95 124 150 68 O R Q a b c d)]
theorem o68(O:Oracle)(R:Jump)(q:Nat):HoldsAll c68 O R q 0 (d68 O R q):=⟨e68_0 O R q,e68_1 O R q,e68_2 O R q,e68_3 O R q,e68_4 O R q,e68_5 O R q,e68_6 O R q,trivial⟩
def c69:MFunc:=mkM (compF Tryd.prog (globs2 tabs opq) (λ_=>false) true Tryd.f69) .n
def b69_0(O:Oracle)(R:Jump)(q:Nat)(x0:TVal)(h:Heap):Res1 :=
 vbin .neq 0 x0 x0 h λx5 h =>
 tcomp x5 λc0=>vfin true q [c0] h
theorem e69_0(O R q x0 h):b69_0 O R q x0 h=stepF c69 O R q 0 [x0] h:=by kernel_rfl
def d69:BlkF:=λO R Q=>[.s λa => .z (b69_0 O R Q a)]
theorem o69(O:Oracle)(R:Jump)(q:Nat):HoldsAll c69 O R q 0 (d69 O R q):=⟨e69_0 O R q,trivial⟩
def c70:MFunc:=mkM (compF Tryd.prog (globs2 tabs opq) (λ_=>false) true Tryd.f70) (.s .n (.s .n (.s (.k (.l 1 [0,1,2,6,7,8] .n)) (.m 2 [0,1,2,6,7] (.s .n (.k (.l 3 [0,1,2,6] (.s .n (.k (.s .n (.s (.k (.l 4 [0,1,2,6,7,8] .n)) (.m 5 [0,1,2,6,7] (.s .n (.m 6 [0,1,2,6] .n))))))))))))))
theorem e70_0(O R q x0 x1 x2 h):gT_0 6 96 97 125 151 70 O R q x0 x1 x2 h=stepF c70 O R q 0 [x0,x1,x2] h:=by kernel_rfl
theorem e70_1(O R q x0 x1 x2 x6 x7 x8 h):gT_1 6 96 97 125 151 70 O R q x0 x1 x2 x6 x7 x8 h=stepF c70 O R q 1 [x0,x1,x2,x6,x7,x8] h:=by kernel_rfl
theorem e70_2(O R q x0 x1 x2 x6 x7 h):gT_2 6 96 97 125 151 70 O R q x0 x1 x2 x6 x7 h=stepF c70 O R q 2 [x0,x1,x2,x6,x7] h:=by kernel_rfl
theorem e70_3(O R q x0 x1 x2 x6 h):gT_3 6 96 97 125 151 70 O R q x0 x1 x2 x6 h=stepF c70 O R q 3 [x0,x1,x2,x6] h:=by kernel_rfl
theorem e70_4(O R q x0 x1 x2 x6 x7 x8 h):gT_4 6 96 97 125 151 70 O R q x0 x1 x2 x6 x7 x8 h=stepF c70 O R q 4 [x0,x1,x2,x6,x7,x8] h:=by kernel_rfl
theorem e70_5(O R q x0 x1 x2 x6 x7 h):gT_5 6 96 97 125 151 70 O R q x0 x1 x2 x6 x7 h=stepF c70 O R q 5 [x0,x1,x2,x6,x7] h:=by kernel_rfl
theorem e70_6(O R q x0 x1 x2 x6 h):gT_6 6 96 97 125 151 70 O R q x0 x1 x2 x6 h=stepF c70 O R q 6 [x0,x1,x2,x6] h:=by kernel_rfl
def d70:BlkF:=λO R Q=>[.s λa => .s λb => .s λc => .z (gT_0 6 96 97 125 151 70 O R Q a b c),.s λa => .s λb => .s λc => .s λd => .s λe => .s λf => .z (gT_1 6 96 97 125 151 70 O R Q a b c d e f),.s λa => .s λb => .s λc => .s λd => .s λe => .z (gT_2 6 96 97 125 151 70 O R Q a b c d e),.s λa => .s λb => .s λc => .s λd => .z (gT_3 6 96 97 125 151 70 O R Q a b c d),.s λa => .s λb => .s λc => .s λd => .s λe => .s λf => .z (gT_4 6 96 97 125 151 70 O R Q a b c d e f),.s λa => .s λb => .s λc => .s λd => .s λe => .z (gT_5 6 96 97 125 151 70 O R Q a b c d e),.s λa => .s λb => .s λc => .s λd => .z (gT_6 6 96 97 125 151 70 O R Q a b c d)]
theorem o70(O:Oracle)(R:Jump)(q:Nat):HoldsAll c70 O R q 0 (d70 O R q):=⟨e70_0 O R q,e70_1 O R q,e70_2 O R q,e70_3 O R q,e70_4 O R q,e70_5 O R q,e70_6 O R q,trivial⟩
def c71:MFunc:=mkM (compF Tryd.prog (globs2 tabs opq) (λ_=>false) true Tryd.f71) .n
def b71_0(O:Oracle)(R:Jump)(q:Nat)(x0 x1:TVal)(h:Heap):Res1 :=
 vcall O (.v (.c (.func 98 []))) [x0,x1] h 7 λx7 h =>
 tcomp x7 λc0=>vfin true q [c0] h
theorem e71_0(O R q x0 x1 h):b71_0 O R q x0 x1 h=stepF c71 O R q 0 [x0,x1] h:=by kernel_rfl
def d71:BlkF:=λO R Q=>[.s λa => .s λb => .z (b71_0 O R Q a b)]
theorem o71(O:Oracle)(R:Jump)(q:Nat):HoldsAll c71 O R q 0 (d71 O R q):=⟨e71_0 O R q,trivial⟩
def c84:MFunc:=mkM (compF Tryd.prog (globs2 tabs opq) (λ_=>false) true Tryd.f84) .n
def b84_0(O:Oracle)(R:Jump)(q:Nat)(x0 x1:TVal)(h:Heap):Res1 :=
 vcall O (.v (.c (.func 71 []))) [x0,x1] h 7 λx7 h =>
 vbin .geq 0 x7 (kI 0) h λx8 h =>
 tcomp x8 λc0=>vfin true q [c0] h
theorem e84_0(O R q x0 x1 h):b84_0 O R q x0 x1 h=stepF c84 O R q 0 [x0,x1] h:=by kernel_rfl
def d84:BlkF:=λO R Q=>[.s λa => .s λb => .z (b84_0 O R Q a b)]
theorem o84(O:Oracle)(R:Jump)(q:Nat):HoldsAll c84 O R q 0 (d84 O R q):=⟨e84_0 O R q,trivial⟩
def c85:MFunc:=mkM (compF Tryd.prog (globs2 tabs opq) (λ_=>false) true Tryd.f85) (.s .n (.s (.s .n (.k (.s .n (.s .n (.s .n (.m 1 [0,2,5,16] .n)))))) .n))
def b85_0(O:Oracle)(R:Jump)(q:Nat)(x0:TVal)(h:Heap):Res1 :=
 vop O (.alloc [(.p (.int .i64 0)),(.p (.str [])),(.p (.int .i64 0)),(.p (.int .i64 0))] false) h 2 λx2 h =>
 vindex x0 (kI 0) h λx7 h =>
 vcall O (.v (.c (.func 118 []))) [x7] h 10 λx10 h =>
 vif x10 (
 vcall O (.v (.c (.func 119 []))) [x0] h 12 λx12 h =>
 vext x12 0 h λx13 h =>
 vext x12 1 h λx14 h =>
 vext x12 2 h λx15 h =>
 vstore 4 x2 x13 h λ_ h =>
 vcell true 4 x2 h λc0=>tcomp x14 λc1=>tcomp x15 λc2=>vfin true q [c0,c1,c2] h)
 (vcall O (.v (.c (.func 107 []))) [x7] h 18 λx18 h =>
 vif x18 (
 R 1 [x0,x2,x7,x18] h)
 (vbin .eql 0 x7 (.v (.c (.p (.int .u8 45)))) h λx20 h =>
 vguard x20 true (λkk=>kk x0 h) h λx22 h =>
 vguard x20 true (λkk=>vlen O 0 x22 h 23 kk) h λx23 h =>
 vguard x20 true (λkk=>vbin .gtr 0 x23 (kI 1) h kk) h λx24 h =>
 vop O (.pick (.k x20) (.k x24) (.k (kB false))) h 25 λx25 h =>
 vguard x25 true (λkk=>kk x0 h) h λx27 h =>
 vguard x25 true (λkk=>vindex x27 (kI 1) h kk) h λx28 h =>
 vguard x25 true (λkk=>vcall O (.v (.c (.func 107 []))) [x28] h 29 kk) h λx29 h =>
 vop O (.pick (.k x25) (.k x29) (.k (kB false))) h 30 λx30 h =>
 R 1 [x0,x2,x7,x30] h))
theorem e85_0(O R q x0 h):b85_0 O R q x0 h=stepF c85 O R q 0 [x0] h:=by kernel_rfl
def b85_1(O:Oracle)(R:Jump)(q:Nat)(x0 x2 x5 x16:TVal)(h:Heap):Res1 :=
 vif x16 (
 vcall O (.v (.c (.func 120 []))) [x0] h 32 λx32 h =>
 vext x32 0 h λx33 h =>
 vext x32 1 h λx34 h =>
 vext x32 2 h λx35 h =>
 vstore 4 x2 x33 h λ_ h =>
 vcell true 4 x2 h λc0=>tcomp x34 λc1=>tcomp x35 λc2=>vfin true q [c0,c1,c2] h)
 (vbin .eql 0 x5 (.v (.c (.p (.int .u8 34)))) h λx38 h =>
 vif x38 (
 vcall O (.v (.c (.func 121 []))) [x0] h 40 λx40 h =>
 vext x40 0 h λx41 h =>
 vext x40 1 h λx42 h =>
 vext x40 2 h λx43 h =>
 vstore 4 x2 x41 h λ_ h =>
 vcell true 4 x2 h λc0=>tcomp x42 λc1=>tcomp x43 λc2=>vfin true q [c0,c1,c2] h)
 (vcall O (.v (.c (.func 122 []))) [x0] h 45 λx45 h =>
 vext x45 0 h λx46 h =>
 vext x45 1 h λx47 h =>
 vext x45 2 h λx48 h =>
 vstore 4 x2 x46 h λ_ h =>
 vcell true 4 x2 h λc0=>tcomp x47 λc1=>tcomp x48 λc2=>vfin true q [c0,c1,c2] h))
theorem e85_1(O R q x0 x2 x5 x16 h):b85_1 O R q x0 x2 x5 x16 h=stepF c85 O R q 1 [x0,x2,x5,x16] h:=by kernel_rfl
def d85:BlkF:=λO R Q=>[.s λa => .z (b85_0 O R Q a),.s λa => .s λb => .s λc => .s λd => .z (b85_1 O R Q a b c d)]
theorem o85(O:Oracle)(R:Jump)(q:Nat):HoldsAll c85 O R q 0 (d85 O R q):=⟨e85_0 O R q,e85_1 O R q,trivial⟩
def c86:MFunc:=mkM (compF Tryd.prog (globs2 tabs opq) (λn=>Nat.blt n 1000000) true Tryd.f86) .n
def b86_0(O:Oracle)(R:Jump)(q:Nat)(x0 x1 x2:TVal)(h:Heap):Res1 :=
 vload false 1 x0 h λx4 h =>
 vcall O (.v (.c (.func 65 []))) [x4] h 5 λx5 h =>
 vop O (.build [(.p (.str [])),(.p (.int .i64 0)),(.p (.str [])),(.p .nilslice),(.p .nilslice)] [(0,1,(.k x5))]) h 6 λx6 h =>
 vop O (.alloc [(.p (.str [])),(.p (.int .i64 0)),(.p (.str [])),(.p .nilslice),(.p .nilslice)] true) h 3 λx3 h =>
 vstore 5 x3 x6 h λ_ h =>
 vtouch O (.load false 1 (.k x0)) h 7 λx7 h t0 =>
 vtouch O (.load false 1 (.k x0)) h 8 λx8 h t1 =>
 vtouch O (.call (.k (.v (.c (.func 41 [])))) [(.k x8),(.k (kS [58]))]) h 9 λx9 h t2 =>
 vtouch O (.call (.k (.v (.c (.func 39 [])))) [(.k x7),(.k x9)]) h 10 λx10 h t3 =>
 bif apartAll [t0,t1,t2,t3] [(0,2)] then
 vload false 1 x0 h λx11 h =>
 vload false 1 x1 h λx12 h =>
 vbin .add 0 x12 (kI 1) h λx13 h =>
 vcall O (.v (.c (.func 34 []))) [x11,x13] h 14 λx14 h =>
 vfaddr 1 x3 h λx15 h =>
 vstore 4 x15 x14 h λ_ h =>
 vload false 1 x2 h λx16 h =>
 vload true 5 x3 h λx17 h =>
 vop O (.bslice 5 1 [(.p (.str [])),(.p (.int .i64 0)),(.p (.str [])),(.p .nilslice),(.p .nilslice)] [(0,(.k x17))] true) h 18 λx18 h =>
 vop O (.append 5 88 true (.k x16) (.k x18)) h 19 λx19 h =>
 vstore 1 x2 x19 h λ_ h =>
 vfin true q [] h
 else none
theorem e86_0(O R q x0 x1 x2 h):b86_0 O R q x0 x1 x2 h=stepF c86 O R q 0 [x0,x1,x2] h:=by kernel_rfl
def d86:BlkF:=λO R Q=>[.s λa => .s λb => .s λc => .z (b86_0 O R Q a b c)]
theorem o86(O:Oracle)(R:Jump)(q:Nat):HoldsAll c86 O R q 0 (d86 O R q):=⟨e86_0 O R q,trivial⟩
def c87:MFunc:=mkM (compF Tryd.prog (globs2 tabs opq) (λ_=>false) true Tryd.f87) .n
theorem e87_0(O R q x0 x1 h):gE_0 5 148 149 164 170 123 O R q x0 x1 h=stepF c87 O R q 0 [x0,x1] h:=by kernel_rfl
def d87:BlkF:=λO R Q=>[.s λa => .s λb => .z (gE_0 5 148 149 164 170 123 O R Q a b)]
theorem o87(O:Oracle)(R:Jump)(q:Nat):HoldsAll c87 O R q 0 (d87 O R q):=⟨e87_0 O R q,trivial⟩
def c88:MFunc:=mkM (compF Tryd.prog (globs2 tabs opq) (λ_=>false) true Tryd.f88) .n
def b88_0(O:Oracle)(R:Jump)(q:Nat)(x0 x1:TVal)(h:Heap):Res1 :=
 vop O (.box (.k x0) false) h 2 λx2 h =>
 vop O (.box (.k x1) false) h 3 λx3 h =>
 vfaddr 0 x2 h λx5 h =>
 vload false 1 x5 h λx6 h =>
 vfaddr 0 x3 h λx7 h =>
 vload false 1 x7 h λx8 h =>
 vcall O (.v (.c (.func 46 []))) [x6,x8] h 9 λx9 h =>
 tcomp x9 λc0=>vfin true q [c0] h
theorem e88_0(O R q x0 x1 h):b88_0 O R q x0 x1 h=stepF c88 O R q 0 [x0,x1] h:=by kernel_rfl
def d88:BlkF:=λO R Q=>[.s λa => .s λb => .z (b88_0 O R Q a b)]
theorem o88(O:Oracle)(R:Jump)(q:Nat):HoldsAll c88 O R q 0 (d88 O R q):=⟨e88_0 O R q,trivial⟩
def c94:MFunc:=mkM (compF Tryd.prog (globs2 tabs opq) (λ_=>false) true Tryd.f94) (.s .n (.k (.l 1 [0,1,2,3,8] (.s .n (.s (.k (.s .n (.k (.l 2 [0,1,2,3,8,9] .n)))) (.m 3 [0,1,2,3,8] .n))))))
theorem e94_0(O R q x0 x1 x2 x3 h):gI_0 5 94 95 124 150 68 O R q x0 x1 x2 x3 h=stepF c94 O R q 0 [x0,x1,x2,x3] h:=by kernel_rfl
theorem e94_1(O R q x0 x1 x2 x3 x8 h):gI_1 5 94 95 124 150 68 O R q x0 x1 x2 x3 x8 h=stepF c94 O R q 1 [x0,x1,x2,x3,x8] h:=by kernel_rfl
theorem e94_2(O R q x0 x1 x2 x3 x8 x9 h):gI_2 5 94 95 124 150 68 O R q x0 x1 x2 x3 x8 x9 h=stepF c94 O R q 2 [x0,x1,x2,x3,x8,x9] h:=by kernel_rfl
theorem e94_3(O R q x0 x1 x2 x3 x8 h):gI_3 5 94 95 124 150 68 O R q x0 x1 x2 x3 x8 h=stepF c94 O R q 3 [x0,x1,x2,x3,x8] h:=by kernel_rfl
def d94:BlkF:=λO R Q=>[.s λa => .s λb => .s λc => .s λd => .z (gI_0 5 94 95 124 150 68 O R Q a b c d),.s λa => .s λb => .s λc => .s λd => .s λe => .z (gI_1 5 94 95 124 150 68 O R Q a b c d e),.s λa => .s λb => .s λc => .s λd => .s λe => .s λf => .z (gI_2 5 94 95 124 150 68 O R Q a b c d e f),.s λa => .s λb => .s λc => .s λd => .s λe => .z (gI_3 5 94 95 124 150 68 O R Q a b c d e)]
theorem o94(O:Oracle)(R:Jump)(q:Nat):HoldsAll c94 O R q 0 (d94 O R q):=⟨e94_0 O R q,e94_1 O R q,e94_2 O R q,e94_3 O R q,trivial⟩
def c95:MFunc:=mkM (compF Tryd.prog (globs2 tabs opq) (λ_=>false) true Tryd.f95) (.s (.s .n (.s (.s .n (.s .n (.s (.k (.l 1 [0,1,4,10,11] .n)) (.m 2 [0,1,10] (.s (.s .n (.k (.l 3 [0,10,13] .n))) (.m 4 [] .n)))))) .n)) (.m 5 [0,1,2,3,4] (.s (.s .n (.s (.s .n (.s .n (.s (.k (.l 6 [0,2,4,14,15] .n)) (.m 7 [0,2,14] (.s (.s .n (.k (.l 8 [0,14,17] .n))) (.m 9 [] .n)))))) .n)) (.m 10 [0,1,2,3,4] (.s .n (.s .n (.s .n (.s .n (.m 11 [0,1,2,3,4,18,19,20,21] (.s .n (.s (.k (.l 12 [0,1,2,3,4,18,19,20,21,22] .n)) (.m 13 [0,1,2,3,4,18,19,20] (.s .n (.s .n (.m 14 [0,1,3,4,18,20,24] (.s .n (.m 15 [0,3,4,18,24] .n)))))))))))))))))
theorem e95_0(O R q x0 x1 x2 x3 x4 h):gM_0 5 94 95 124 150 68 O R q x0 x1 x2 x3 x4 h=stepF c95 O R q 0 [x0,x1,x2,x3,x4] h:=by kernel_rfl
theorem e95_1(O R q x0 x1 x4 x10 x11 h):gM_1 5 94 95 124 150 68 O R q x0 x1 x4 x10 x11 h=stepF c95 O R q 1 [x0,x1,x4,x10,x11] h:=by kernel_rfl
theorem e95_2(O R q x0 x1 x10 h):gM_2 5 94 95 124 150 68 O R q x0 x1 x10 h=stepF c95 O R q 2 [x0,x1,x10] h:=by kernel_rfl
theorem e95_3(O R q x0 x10 x13 h):gM_3 5 94 95 124 150 68 O R q x0 x10 x13 h=stepF c95 O R q 3 [x0,x10,x13] h:=by kernel_rfl
theorem e95_4(O R q h):gM_4 5 94 95 124 150 68 O R q  h=stepF c95 O R q 4 [] h:=by kernel_rfl
theorem e95_5(O R q x0 x1 x2 x3 x4 h):gM_5 5 94 95 124 150 68 O R q x0 x1 x2 x3 x4 h=stepF c95 O R q 5 [x0,x1,x2,x3,x4] h:=by kernel_rfl
theorem e95_6(O R q x0 x2 x4 x14 x15 h):gM_6 5 94 95 124 150 68 O R q x0 x2 x4 x14 x15 h=stepF c95 O R q 6 [x0,x2,x4,x14,x15] h:=by kernel_rfl
theorem e95_7(O R q x0 x2 x14 h):gM_7 5 94 95 124 150 68 O R q x0 x2 x14 h=stepF c95 O R q 7 [x0,x2,x14] h:=by kernel_rfl
theorem e95_8(O R q x0 x14 x17 h):gM_8 5 94 95 124 150 68 O R q x0 x14 x17 h=stepF c95 O R q 8 [x0,x14,x17] h:=by kernel_rfl
theorem e95_9(O R q h):gM_9 5 94 95 124 150 68 O R q  h=stepF c95 O R q 9 [] h:=by kernel_rfl
theorem e95_10(O R q x0 x1 x2 x3 x4 h):gM_10 5 94 95 124 150 68 O R q x0 x1 x2 x3 x4 h=stepF c95 O R q 10 [x0,x1,x2,x3,x4] h:=by kernel_rfl
theorem e95_11(O R q x0 x1 x2 x3 x4 x18 x19 x20 x21 h):gM_11 5 94 95 124 150 68 O R q x0 x1 x2 x3 x4 x18 x19 x20 x21 h=stepF c95 O R q 11 [x0,x1,x2,x3,x4,x18,x19,x20,x21] h:=by kernel_rfl
theorem e95_12(O R q x0 x1 x2 x3 x4 x18 x19 x20 x21 x22 h):gM_12 5 94 95 124 150 68 O R q x0 x1 x2 x3 x4 x18 x19 x20 x21 x22 h=stepF c95 O R q 12 [x0,x1,x2,x3,x4,x18,x19,x20,x21,x22] h:=by kernel_rfl
theorem e95_13(O R q x0 x1 x2 x3 x4 x18 x19 x20 h):gM_13 5 94 95 124 150 68 O R q x0 x1 x2 x3 x4 x18 x19 x20 h=stepF c95 O R q 13 [x0,x1,x2,x3,x4,x18,x19,x20] h:=by kernel_rfl
theorem e95_14(O R q x0 x1 x3 x4 x18 x20 x24 h):gM_14 5 94 95 124 150 68 O R q x0 x1 x3 x4 x18 x20 x24 h=stepF c95 O R q 14 [x0,x1,x3,x4,x18,x20,x24] h:=by kernel_rfl
theorem e95_15(O R q x0 x3 x4 x18 x24 h):gM_15 5 94 95 124 150 68 O R q x0 x3 x4 x18 x24 h=stepF c95 O R q 15 [x0,x3,x4,x18,x24] h:=by kernel_rfl
def d95:BlkF:=λO R Q=>[.s λa => .s λb => .s λc => .s λd => .s λe => .z (gM_0 5 94 95 124 150 68 O R Q a b c d e),.s λa => .s λb => .s λc => .s λd => .s λe => .z (gM_1 5 94 95 124 150 68 O R Q a b c d e),.s λa => .s λb => .s λc => .z (gM_2 5 94 95 124 150 68 O R Q a b c),.s λa => .s λb => .s λc => .z (gM_3 5 94 95 124 150 68 O R Q a b c),.z (gM_4 5 94 95 124 150 68 O R Q ),.s λa => .s λb => .s λc => .s λd => .s λe => .z (gM_5 5 94 95 124 150 68 O R Q a b c d e),.s λa => .s λb => .s λc => .s λd => .s λe => .z (gM_6 5 94 95 124 150 68 O R Q a b c d e),.s λa => .s λb => .s λc => .z (gM_7 5 94 95 124 150 68 O R Q a b c),.s λa => .s λb => .s λc => .z (gM_8 5 94 95 124 150 68 O R Q a b c),.z (gM_9 5 94 95 124 150 68 O R Q ),.s λa => .s λb => .s λc => .s λd => .s λe => .z (gM_10 5 94 95 124 150 68 O R Q a b c d e),.s λa => .s λb => .s λc => .s λd => .s λe => .s λf => .s λg => .s λh => .s λi => .z (gM_11 5 94 95 124 150 68 O R Q a b c d e f g h i),.s λa => .s λb => .s λc => .s λd => .s λe => .s λf => .s λg => .s λh => .s λi => .s λj => .z (gM_12 5 94 95 124 150 68 O R Q a b c d e f g h i j),.s λa => .s λb => .s λc => .s λd => .s λe => .s λf => .s λg => .s λh => .z (gM_13 5 94 95 124 150 68 O R Q a b c d e f g h),.s λa => .s λb => .s λc => .s λd => .s λe => .s λf => .s λg => .z (gM_14 5 94 95 124 150 68 O R Q a b c d e f g),.s λa => .s λb => .s λc => .s λd => .s λe => .z (gM_15 5 94 95 124 150 68 O R Q a b c d e)]
theorem o95(O:Oracle)(R:Jump)(q:Nat):HoldsAll c95 O R q 0 (d95 O R q):=⟨e95_0 O R q,e95_1 O R q,e95_2 O R q,e95_3 O R q,e95_4 O R q,e95_5 O R q,e95_6 O R q,e95_7 O R q,e95_8 O R q,e95_9 O R q,e95_10 O R q,e95_11 O R q,e95_12 O R q,e95_13 O R q,e95_14 O R q,e95_15 O R q,trivial⟩
def c96:MFunc:=mkM (compF Tryd.prog (globs2 tabs opq) (λ_=>false) true Tryd.f96) (.s .n (.k (.l 1 [0,1,2,3,8] (.s .n (.s (.k (.s .n (.k (.l 2 [0,1,2,3,8,9] .n)))) (.m 3 [0,1,2,3,8] .n))))))
theorem e96_0(O R q x0 x1 x2 x3 h):gI_0 6 96 97 125 151 70 O R q x0 x1 x2 x3 h=stepF c96 O R q 0 [x0,x1,x2,x3] h:=by kernel_rfl
theorem e96_1(O R q x0 x1 x2 x3 x8 h):gI_1 6 96 97 125 151 70 O R q x0 x1 x2 x3 x8 h=stepF c96 O R q 1 [x0,x1,x2,x3,x8] h:=by kernel_rfl
theorem e96_2(O R q x0 x1 x2 x3 x8 x9 h):gI_2 6 96 97 125 151 70 O R q x0 x1 x2 x3 x8 x9 h=stepF c96 O R q 2 [x0,x1,x2,x3,x8,x9] h:=by kernel_rfl
theorem e96_3(O R q x0 x1 x2 x3 x8 h):gI_3 6 96 97 125 151 70 O R q x0 x1 x2 x3 x8 h=stepF c96 O R q 3 [x0,x1,x2,x3,x8] h:=by kernel_rfl
def d96:BlkF:=λO R Q=>[.s λa => .s λb => .s λc => .s λd => .z (gI_0 6 96 97 125 151 70 O R Q a b c d),.s λa => .s λb => .s λc => .s λd => .s λe => .z (gI_1 6 96 97 125 151 70 O R Q a b c d e),.s λa => .s λb => .s λc => .s λd => .s λe => .s λf => .z (gI_2 6 96 97 125 151 70 O R Q a b c d e f),.s λa => .s λb => .s λc => .s λd => .s λe => .z (gI_3 6 96 97 125 151 70 O R Q a b c d e)]
theorem o96(O:Oracle)(R:Jump)(q:Nat):HoldsAll c96 O R q 0 (d96 O R q):=⟨e96_0 O R q,e96_1 O R q,e96_2 O R q,e96_3 O R q,trivial⟩
def c97:MFunc:=mkM (compF Tryd.prog (globs2 tabs opq) (λ_=>false) true Tryd.f97) (.s (.s .n (.s (.s .n (.s .n (.s (.k (.l 1 [0,1,4,10,11] .n)) (.m 2 [0,1,10] (.s (.s .n (.k (.l 3 [0,10,13] .n))) (.m 4 [] .n)))))) .n)) (.m 5 [0,1,2,3,4] (.s (.s .n (.s (.s .n (.s .n (.s (.k (.l 6 [0,2,4,14,15] .n)) (.m 7 [0,2,14] (.s (.s .n (.k (.l 8 [0,14,17] .n))) (.m 9 [] .n)))))) .n)) (.m 10 [0,1,2,3,4] (.s .n (.s .n (.s .n (.s .n (.m 11 [0,1,2,3,4,18,19,20,21] (.s .n (.s (.k (.l 12 [0,1,2,3,4,18,19,20,21,22] .n)) (.m 13 [0,1,2,3,4,18,19,20] (.s .n (.s .n (.m 14 [0,1,3,4,18,20,24] (.s .n (.m 15 [0,3,4,18,24] .n)))))))))))))))))
theorem e97_0(O R q x0 x1 x2 x3 x4 h):gM_0 6 96 97 125 151 70 O R q x0 x1 x2 x3 x4 h=stepF c97 O R q 0 [x0,x1,x2,x3,x4] h:=by kernel_rfl
theorem e97_1(O R q x0 x1 x4 x10 x11 h):gM_1 6 96 97 125 151 70 O R q x0 x1 x4 x10 x11 h=stepF c97 O R q 1 [x0,x1,x4,x10,x11] h:=by kernel_rfl
theorem e97_2(O R q x0 x1 x10 h):gM_2 6 96 97 125 151 70 O R q x0 x1 x10 h=stepF c97 O R q 2 [x0,x1,x10] h:=by kernel_rfl
theorem e97_3(O R q x0 x10 x13 h):gM_3 6 96 97 125 151 70 O R q x0 x10 x13 h=stepF c97 O R q 3 [x0,x10,x13] h:=by kernel_rfl
theorem e97_4(O R q h):gM_4 6 96 97 125 151 70 O R q  h=stepF c97 O R q 4 [] h:=by kernel_rfl
theorem e97_5(O R q x0 x1 x2 x3 x4 h):gM_5 6 96 97 125 151 70 O R q x0 x1 x2 x3 x4 h=stepF c97 O R q 5 [x0,x1,x2,x3,x4] h:=by kernel_rfl
theorem e97_6(O R q x0 x2 x4 x14 x15 h):gM_6 6 96 97 125 151 70 O R q x0 x2 x4 x14 x15 h=stepF c97 O R q 6 [x0,x2,x4,x14,x15] h:=by kernel_rfl
theorem e97_7(O R q x0 x2 x14 h):gM_7 6 96 97 125 151 70 O R q x0 x2 x14 h=stepF c97 O R q 7 [x0,x2,x14] h:=by kernel_rfl
theorem e97_8(O R q x0 x14 x17 h):gM_8 6 96 97 125 151 70 O R q x0 x14 x17 h=stepF c97 O R q 8 [x0,x14,x17] h:=by kernel_rfl
theorem e97_9(O R q h):gM_9 6 96 97 125 151 70 O R q  h=stepF c97 O R q 9 [] h:=by kernel_rfl
theorem e97_10(O R q x0 x1 x2 x3 x4 h):gM_10 6 96 97 125 151 70 O R q x0 x1 x2 x3 x4 h=stepF c97 O R q 10 [x0,x1,x2,x3,x4] h:=by kernel_rfl
theorem e97_11(O R q x0 x1 x2 x3 x4 x18 x19 x20 x21 h):gM_11 6 96 97 125 151 70 O R q x0 x1 x2 x3 x4 x18 x19 x20 x21 h=stepF c97 O R q 11 [x0,x1,x2,x3,x4,x18,x19,x20,x21] h:=by kernel_rfl
theorem e97_12(O R q x0 x1 x2 x3 x4 x18 x19 x20 x21 x22 h):gM_12 6 96 97 125 151 70 O R q x0 x1 x2 x3 x4 x18 x19 x20 x21 x22 h=stepF c97 O R q 12 [x0,x1,x2,x3,x4,x18,x19,x20,x21,x22] h:=by kernel_rfl
theorem e97_13(O R q x0 x1 x2 x3 x4 x18 x19 x20 h):gM_13 6 96 97 125 151 70 O R q x0 x1 x2 x3 x4 x18 x19 x20 h=stepF c97 O R q 13 [x0,x1,x2,x3,x4,x18,x19,x20] h:=by kernel_rfl
theorem e97_14(O R q x0 x1 x3 x4 x18 x20 x24 h):gM_14 6 96 97 125 151 70 O R q x0 x1 x3 x4 x18 x20 x24 h=stepF c97 O R q 14 [x0,x1,x3,x4,x18,x20,x24] h:=by kernel_rfl
theorem e97_15(O R q x0 x3 x4 x18 x24 h):gM_15 6 96 97 125 151 70 O R q x0 x3 x4 x18 x24 h=stepF c97 O R q 15 [x0,x3,x4,x18,x24] h:=by kernel_rfl
def d97:BlkF:=λO R Q=>[.s λa => .s λb => .s λc => .s λd => .s λe => .z (gM_0 6 96 97 125 151 70 O R Q a b c d e),.s λa => .s λb => .s λc => .s λd => .s λe => .z (gM_1 6 96 97 125 151 70 O R Q a b c d e),.s λa => .s λb => .s λc => .z (gM_2 6 96 97 125 151 70 O R Q a b c),.s λa => .s λb => .s λc => .z (gM_3 6 96 97 125 151 70 O R Q a b c),.z (gM_4 6 96 97 125 151 70 O R Q ),.s λa => .s λb => .s λc => .s λd => .s λe => .z (gM_5 6 96 97 125 151 70 O R Q a b c d e),.s λa => .s λb => .s λc => .s λd => .s λe => .z (gM_6 6 96 97 125 151 70 O R Q a b c d e),.s λa => .s λb => .s λc => .z (gM_7 6 96 97 125 151 70 O R Q a b c),.s λa => .s λb => .s λc => .z (gM_8 6 96 97 125 151 70 O R Q a b c),.z (gM_9 6 96 97 125 151 70 O R Q ),.s λa => .s λb => .s λc => .s λd => .s λe => .z (gM_10 6 96 97 125 151 70 O R Q a b c d e),.s λa => .s λb => .s λc => .s λd => .s λe => .s λf => .s λg => .s λh => .s λi => .z (gM_11 6 96 97 125 151 70 O R Q a b c d e f g h i),.s λa => .s λb => .s λc => .s λd => .s λe => .s λf => .s λg => .s λh => .s λi => .s λj => .z (gM_12 6 96 97 125 151 70 O R Q a b c d e f g h i j),.s λa => .s λb => .s λc => .s λd => .s λe => .s λf => .s λg => .s λh => .z (gM_13 6 96 97 125 151 70 O R Q a b c d e f g h),.s λa => .s λb => .s λc => .s λd => .s λe => .s λf => .s λg => .z (gM_14 6 96 97 125 151 70 O R Q a b c d e f g),.s λa => .s λb => .s λc => .s λd => .s λe => .z (gM_15 6 96 97 125 151 70 O R Q a b c d e)]
theorem o97(O:Oracle)(R:Jump)(q:Nat):HoldsAll c97 O R q 0 (d97 O R q):=⟨e97_0 O R q,e97_1 O R q,e97_2 O R q,e97_3 O R q,e97_4 O R q,e97_5 O R q,e97_6 O R q,e97_7 O R q,e97_8 O R q,e97_9 O R q,e97_10 O R q,e97_11 O R q,e97_12 O R q,e97_13 O R q,e97_14 O R q,e97_15 O R q,trivial⟩
def c99:MFunc:=mkM (compF Tryd.prog (globs2 tabs opq) (λ_=>false) true Tryd.f99) .n
def b99_0(O:Oracle)(R:Jump)(q:Nat)(x0 x1:TVal)(h:Heap):Res1 :=
 vcall O (.v (.c (.func 130 []))) [x0,x1] h 7 λx7 h =>
 tcomp x7 λc0=>vfin true q [c0] h
theorem e99_0(O R q x0 x1 h):b99_0 O R q x0 x1 h=stepF c99 O R q 0 [x0,x1] h:=by kernel_rfl
def d99:BlkF:=λO R Q=>[.s λa => .s λb => .z (b99_0 O R Q a b)]
theorem o99(O:Oracle)(R:Jump)(q:Nat):HoldsAll c99 O R q 0 (d99 O R q):=⟨e99_0 O R q,trivial⟩
def c107:MFunc:=mkM (compF Tryd.prog (globs2 tabs opq) (λ_=>false) true Tryd.f107) .n
def b107_0(O:Oracle)(R:Jump)(q:Nat)(x0:TVal)(h:Heap):Res1 :=
 vbin .geq 0 x0 (.v (.c (.p (.int .u8 48)))) h λx4 h =>
 vguard x4 true (λkk=>kk x0 h) h λx6 h =>
 vguard x4 true (λkk=>vbin .leq 0 x6 (.v (.c (.p (.int .u8 57)))) h kk) h λx7 h =>
 vop O (.pick (.k x4) (.k x7) (.k (kB false))) h 8 λx8 h =>
 tcomp x8 λc0=>vfin true q [c0] h
theorem e107_0(O R q x0 h):b107_0 O R q x0 h=stepF c107 O R q 0 [x0] h:=by kernel_rfl
def d107:BlkF:=λO R Q=>[.s λa => .z (b107_0 O R Q a)]
theorem o107(O:Oracle)(R:Jump)(q:Nat):HoldsAll c107 O R q 0 (d107 O R q):=⟨e107_0 O R q,trivial⟩
def c108:MFunc:=mkM (compF Tryd.prog (globs2 tabs opq) (λ_=>false) true Tryd.f108) .n
def b108_0(O:Oracle)(R:Jump)(q:Nat)(x0:TVal)(h:Heap):Res1 :=
 vcall O (.v (.c (.func 137 []))) [x0,(.v (.c (.func 138 [])))] h 4 λx4 h =>
 tcomp x4 λc0=>vfin true q [c0] h
theorem e108_0(O R q x0 h):b108_0 O R q x0 h=stepF c108 O R q 0 [x0] h:=by kernel_rfl
def d108:BlkF:=λO R Q=>[.s λa => .z (b108_0 O R Q a)]
theorem o108(O:Oracle)(R:Jump)(q:Nat):HoldsAll c108 O R q 0 (d108 O R q):=⟨e108_0 O R q,trivial⟩
def c118:MFunc:=mkM (compF Tryd.prog (globs2 tabs opq) (λ_=>false) true Tryd.f118) .n
def b118_0(O:Oracle)(R:Jump)(q:Nat)(x0:TVal)(h:Heap):Res1 :=
 vbin .eql 0 x0 (.v (.c (.p (.int .u8 95)))) h λx4 h =>
 vguard x4 false (λkk=>kk x0 h) h λx6 h =>
 vguard x4 false (λkk=>vbin .or 0 x6 (.v (.c (.p (.int .u8 32)))) h kk) h λx7 h =>
 vguard x4 false (λkk=>vbin .geq 0 x7 (.v (.c (.p (.int .u8 97)))) h kk) h λx8 h =>
 vguard x4 false (λkk=>kk x8 h) h λx9 h =>
 vguard x9 true (λkk=>kk x0 h) h λx10 h =>
 vguard x9 true (λkk=>vbin .or 0 x10 (.v (.c (.p (.int .u8 32)))) h kk) h λx11 h =>
 vguard x9 true (λkk=>vbin .leq 0 x11 (.v (.c (.p (.int .u8 122)))) h kk) h λx12 h =>
 vguard x4 false (λkk=>vop O (.pick (.k x9) (.k x12) (.k (kB false))) h 13 kk) h λx13 h =>
 vop O (.pick (.k x4) (.k (kB true)) (.k x13)) h 14 λx14 h =>
 tcomp x14 λc0=>vfin true q [c0] h
theorem e118_0(O R q x0 h):b118_0 O R q x0 h=stepF c118 O R q 0 [x0] h:=by kernel_rfl
def d118:BlkF:=λO R Q=>[.s λa => .z (b118_0 O R Q a)]
theorem o118(O:Oracle)(R:Jump)(q:Nat):HoldsAll c118 O R q 0 (d118 O R q):=⟨e118_0 O R q,trivial⟩
def c119:MFunc:=mkM (compF Tryd.prog (globs2 tabs opq) (λ_=>false) true Tryd.f119) .n
def b119_0(O:Oracle)(R:Jump)(q:Nat)(x0:TVal)(h:Heap):Res1 :=
 vop O (.alloc [(.p (.int .i64 0)),(.p (.str [])),(.p (.int .i64 0)),(.p (.int .i64 0))] false) h 2 λx2 h =>
 vcall O (.v (.c (.func 108 []))) [x0] h 7 λx7 h =>
 vbin .gtr 0 x7 (kI 16) h λx9 h =>
 vif x9 (
 vop O (.build [(.p (.int .i64 0)),(.p (.str [])),(.p (.int .i64 0)),(.p (.int .i64 0))] []) h 10 λx10 h =>
 vstore 4 x2 x10 h λ_ h =>
 vcell true 4 x2 h λc0=>tcomp (kI 0) λc1=>tcomp (kI 4) λc2=>vfin true q [c0,c1,c2] h)
 (vop O (.slice 0 true (.k x0) none (some (.k x7)) none) h 13 λx13 h =>
 vop O (.build [(.p (.int .i64 0)),(.p (.str [])),(.p (.int .i64 0)),(.p (.int .i64 0))] [(0,1,(.k (kI 1))),(1,1,(.k x13))]) h 14 λx14 h =>
 vstore 4 x2 x14 h λ_ h =>
 vcell true 4 x2 h λc0=>tcomp x7 λc1=>tcomp (kI 0) λc2=>vfin true q [c0,c1,c2] h)
theorem e119_0(O R q x0 h):b119_0 O R q x0 h=stepF c119 O R q 0 [x0] h:=by kernel_rfl
def d119:BlkF:=λO R Q=>[.s λa => .z (b119_0 O R Q a)]
theorem o119(O:Oracle)(R:Jump)(q:Nat):HoldsAll c119 O R q 0 (d119 O R q):=⟨e119_0 O R q,trivial⟩
def c120:MFunc:=mkM (compF Tryd.prog (globs2 tabs opq) (λ_=>false) true Tryd.f120) (.s .n (.s .n (.s .n (.s .n (.s .n (.s (.s .n (.k (.l 1 [2,5,6,7,29] .n))) (.m 2 [2,5,6,7] .n)))))))
def b120_0(O:Oracle)(R:Jump)(q:Nat)(x0:TVal)(h:Heap):Res1 :=
 vop O (.alloc [(.p (.int .i64 0)),(.p (.str [])),(.p (.int .i64 0)),(.p (.int .i64 0))] false) h 2 λx2 h =>
 vlen O 0 x0 h 11 λx11 h =>
 vcall O (.v (.c (.func 145 []))) [x0,(kS [45])] h 13 λx13 h =>
 vlen O 0 x13 h 14 λx14 h =>
 vbin .sub 0 x11 x14 h λx15 h =>
 vop O (.slice 0 true (.k x0) (some (.k x15)) none none) h 18 λx18 h =>
 vcall O (.v (.c (.func 137 []))) [x18,(.v (.c (.func 107 [])))] h 19 λx19 h =>
 vbin .gtr 0 x19 (kI 19) h λx21 h =>
 vif x21 (
 vop O (.build [(.p (.int .i64 0)),(.p (.str [])),(.p (.int .i64 0)),(.p (.int .i64 0))] []) h 22 λx22 h =>
 vstore 4 x2 x22 h λ_ h =>
 vcell true 4 x2 h λc0=>tcomp (kI 0) λc1=>tcomp (kI 4) λc2=>vfin true q [c0,c1,c2] h)
 (vbin .add 0 x15 x19 h λx27 h =>
 vop O (.slice 0 true (.k x0) (some (.k x15)) (some (.k x27)) none) h 28 λx28 h =>
 vop O (.rangeS (.k x28)) h 29 λx29 h =>
 R 1 [x2,x15,x19,(.v (.c (.p (.int .u64 0)))),x29] h)
theorem e120_0(O R q x0 h):b120_0 O R q x0 h=stepF c120 O R q 0 [x0] h:=by kernel_rfl
def b120_1(O:Oracle)(R:Jump)(q:Nat)(x2 x5 x6 x7 x29:TVal)(h:Heap):Res1 :=
 vop O (.nextS (.k x29)) h 30 λx30 h =>
 vext x30 0 h λx31 h =>
 vif x31 (
 vext x30 2 h λx32 h =>
 vbin .mul 0 (.v (.c (.p (.int .u64 10)))) x7 h λx34 h =>
 vbin .sub 0 x32 (.v (.c (.p (.int .i32 48)))) h λx36 h =>
 vtoInt .u64 x36 h λx37 h =>
 vbin .add 0 x34 x37 h λx38 h =>
 R 1 [x2,x5,x6,x38,x29] h)
 (R 2 [x2,x5,x6,x7] h)
theorem e120_1(O R q x2 x5 x6 x7 x29 h):b120_1 O R q x2 x5 x6 x7 x29 h=stepF c120 O R q 1 [x2,x5,x6,x7,x29] h:=by kernel_rfl
def b120_2(O:Oracle)(R:Jump)(q:Nat)(x2 x5 x6 x7:TVal)(h:Heap):Res1 :=
 vtoInt .u64 x5 h λx42 h =>
 vbin .add 0 (.v (.c (.p (.int .u64 9223372036854775807)))) x42 h λx43 h =>
 vbin .gtr 0 x7 x43 h λx44 h =>
 vif x44 (
 vop O (.build [(.p (.int .i64 0)),(.p (.str [])),(.p (.int .i64 0)),(.p (.int .i64 0))] []) h 45 λx45 h =>
 vstore 4 x2 x45 h λ_ h =>
 vcell true 4 x2 h λc0=>tcomp (kI 0) λc1=>tcomp (kI 11) λc2=>vfin true q [c0,c1,c2] h)
 (vbin .gtr 0 x5 (kI 0) h λx48 h =>
 vif x48 (
 vtoInt .i64 x7 h λx50 h =>
 vop O (.un .neg (.k x50)) h 51 λx51 h =>
 vop O (.build [(.p (.int .i64 0)),(.p (.str [])),(.p (.int .i64 0)),(.p (.int .i64 0))] [(0,1,(.k (kI 3))),(2,1,(.k x51))]) h 52 λx52 h =>
 vbin .add 0 x5 x6 h λx55 h =>
 vstore 4 x2 x52 h λ_ h =>
 vcell true 4 x2 h λc0=>tcomp x55 λc1=>tcomp (kI 0) λc2=>vfin true q [c0,c1,c2] h)
 (vtoInt .i64 x7 h λx57 h =>
 vop O (.build [(.p (.int .i64 0)),(.p (.str [])),(.p (.int .i64 0)),(.p (.int .i64 0))] [(0,1,(.k (kI 3))),(2,1,(.k x57))]) h 58 λx58 h =>
 vstore 4 x2 x58 h λ_ h =>
 vcell true 4 x2 h λc0=>tcomp x6 λc1=>tcomp (kI 0) λc2=>vfin true q [c0,c1,c2] h))
theorem e120_2(O R q x2 x5 x6 x7 h):b120_2 O R q x2 x5 x6 x7 h=stepF c120 O R q 2 [x2,x5,x6,x7] h:=by kernel_rfl
def d120:BlkF:=λO R Q=>[.s λa => .z (b120_0 O R Q a),.s λa => .s λb => .s λc => .s λd => .s λe => .z (b120_1 O R Q a b c d e),.s λa => .s λb => .s λc => .s λd => .z (b120_2 O R Q a b c d)]
theorem o120(O:Oracle)(R:Jump)(q:Nat):HoldsAll c120 O R q 0 (d120 O R q):=⟨e120_0 O R q,e120_1 O R q,e120_2 O R q,trivial⟩
def c121:MFunc:=mkM (compF Tryd.prog (globs2 tabs opq) (λ_=>false) true Tryd.f121) (.s .n (.s .n (.s (.s .n (.k (.l 1 [0,2,5,6] (.s .n (.s .n (.m 2 [0,2,5,6] .n)))))) (.m 3 [2] .n))))
def b121_0(O:Oracle)(R:Jump)(q:Nat)(x0:TVal)(h:Heap):Res1 :=
 vop O (.alloc [(.p (.int .i64 0)),(.p (.str [])),(.p (.int .i64 0)),(.p (.int .i64 0))] false) h 2 λx2 h =>
 R 1 [x0,x2,(.v (.c (.p .nilslice))),(kI 1)] h
theorem e121_0(O R q x0 h):b121_0 O R q x0 h=stepF c121 O R q 0 [x0] h:=by kernel_rfl
def b121_1(O:Oracle)(R:Jump)(q:Nat)(x0 x2 x5 x6:TVal)(h:Heap):Res1 :=
 vlen O 0 x0 h 12 λx12 h =>
 vbin .lss 0 x6 x12 h λx13 h =>
 vif x13 (
 vindex x0 x6 h λx18 h =>
 vbin .lss 0 x18 (.v (.c (.p (.int .u8 32)))) h λx25 h =>
 vif x25 (
 vop O (.build [(.p (.int .i64 0)),(.p (.str [])),(.p (.int .i64 0)),(.p (.int .i64 0))] []) h 26 λx26 h =>
 vstore 4 x2 x26 h λ_ h =>
 vcell true 4 x2 h λc0=>tcomp (kI 0) λc1=>tcomp (kI 11) λc2=>vfin true q [c0,c1,c2] h)
 (vbin .eql 0 x18 (.v (.c (.p (.int .u8 34)))) h λx29 h =>
 vguard x29 true (λkk=>kk x5 h) h λx31 h =>
 vguard x29 true (λkk=>vlen O 2 x31 h 32 kk) h λx32 h =>
 vguard x29 true (λkk=>vbin .gtr 0 x32 (kI 200) h kk) h λx33 h =>
 vop O (.pick (.k x29) (.k x33) (.k (kB false))) h 34 λx34 h =>
 vif x34 (
 vop O (.build [(.p (.int .i64 0)),(.p (.str [])),(.p (.int .i64 0)),(.p (.int .i64 0))] []) h 35 λx35 h =>
 vstore 4 x2 x35 h λ_ h =>
 vcell true 4 x2 h λc0=>tcomp (kI 0) λc1=>tcomp (kI 4) λc2=>vfin true q [c0,c1,c2] h)
 (vbin .eql 0 x18 (.v (.c (.p (.int .u8 34)))) h λx38 h =>
 vif x38 (
 vop O (.toStr (.k x5)) h 40 λx40 h =>
 vop O (.build [(.p (.int .i64 0)),(.p (.str [])),(.p (.int .i64 0)),(.p (.int .i64 0))] [(0,1,(.k (kI 2))),(1,1,(.k x40))]) h 41 λx41 h =>
 vbin .add 0 x6 (kI 1) h λx43 h =>
 vstore 4 x2 x41 h λ_ h =>
 vcell true 4 x2 h λc0=>tcomp x43 λc1=>tcomp (kI 0) λc2=>vfin true q [c0,c1,c2] h)
 (vbin .eql 0 x18 (.v (.c (.p (.int .u8 92)))) h λx46 h =>
 vguard x46 true (λkk=>kk x6 h) h λx48 h =>
 vguard x46 true (λkk=>vbin .add 0 x48 (kI 1) h kk) h λx49 h =>
 vguard x46 true (λkk=>kk x0 h) h λx50 h =>
 vguard x46 true (λkk=>vlen O 0 x50 h 51 kk) h λx51 h =>
 vguard x46 true (λkk=>vbin .lss 0 x49 x51 h kk) h λx52 h =>
 vop O (.pick (.k x46) (.k x52) (.k (kB false))) h 53 λx53 h =>
 vif x53 (
 vbin .add 0 x6 (kI 1) h λx57 h =>
 vindex x0 x57 h λx58 h =>
 vcall O (.v (.c (.func 146 []))) [x58] h 59 λx59 h =>
 vext x59 0 h λx60 h =>
 vext x59 1 h λx61 h =>
 vop O (.un .not (.k x61)) h 63 λx63 h =>
 vif x63 (
 vop O (.build [(.p (.int .i64 0)),(.p (.str [])),(.p (.int .i64 0)),(.p (.int .i64 0))] []) h 64 λx64 h =>
 vstore 4 x2 x64 h λ_ h =>
 vcell true 4 x2 h λc0=>tcomp (kI 0) λc1=>tcomp (kI 11) λc2=>vfin true q [c0,c1,c2] h)
 (vop O (.bslice 1 1 [(.p (.int .u8 0))] [(0,(.k x60))] false) h 67 λx67 h =>
 vop O (.append 1 1 false (.k x5) (.k x67)) h 68 λx68 h =>
 vbin .add 0 x6 (kI 1) h λx70 h =>
 R 2 [x0,x2,x68,x70] h))
 (vop O (.bslice 1 1 [(.p (.int .u8 0))] [(0,(.k x18))] false) h 21 λx21 h =>
 vop O (.append 1 1 false (.k x5) (.k x21)) h 22 λx22 h =>
 R 2 [x0,x2,x22,x6] h)))))
 (R 3 [x2] h)
theorem e121_1(O R q x0 x2 x5 x6 h):b121_1 O R q x0 x2 x5 x6 h=stepF c121 O R q 1 [x0,x2,x5,x6] h:=by kernel_rfl
def b121_2(O:Oracle)(R:Jump)(q:Nat)(x0 x2 x5 x6:TVal)(h:Heap):Res1 :=
 vbin .add 0 x6 (kI 1) h λx15 h =>
 R 1 [x0,x2,x5,x15] h
theorem e121_2(O R q x0 x2 x5 x6 h):b121_2 O R q x0 x2 x5 x6 h=stepF c121 O R q 2 [x0,x2,x5,x6] h:=by kernel_rfl
def b121_3(O:Oracle)(R:Jump)(q:Nat)(x2:TVal)(h:Heap):Res1 :=
 vop O (.build [(.p (.int .i64 0)),(.p (.str [])),(.p (.int .i64 0)),(.p (.int .i64 0))] []) h 71 λx71 h =>
 vstore 4 x2 x71 h λ_ h =>
 vcell true 4 x2 h λc0=>tcomp (kI 0) λc1=>tcomp (kI 11) λc2=>vfin true q [c0,c1,c2] h
theorem e121_3(O R q x2 h):b121_3 O R q x2 h=stepF c121 O R q 3 [x2] h:=by kernel_rfl
def d121:BlkF:=λO R Q=>[.s λa => .z (b121_0 O R Q a),.s λa => .s λb => .s λc => .s λd => .z (b121_1 O R Q a b c d),.s λa => .s λb => .s λc => .s λd => .z (b121_2 O R Q a b c d),.s λa => .z (b121_3 O R Q a)]
theorem o121(O:Oracle)(R:Jump)(q:Nat):HoldsAll c121 O R q 0 (d121 O R q):=⟨e121_0 O R q,e121_1 O R q,e121_2 O R q,e121_3 O R q,trivial⟩
def c122:MFunc:=mkM (compF Tryd.prog (globs2 tabs opq) (λ_=>false) true Tryd.f122) (.s .n (.s (.s .n (.k (.l 1 [0,2,7,8,9] .n))) (.m 2 [0,2] .n)))
def b122_0(O:Oracle)(R:Jump)(q:Nat)(x0:TVal)(h:Heap):Res1 :=
 vop O (.alloc [(.p (.int .i64 0)),(.p (.str [])),(.p (.int .i64 0)),(.p (.int .i64 0))] false) h 2 λx2 h =>
 vcall O (.v (.c (.func 147 []))) [(kS [45,62,32,58,61])] h 7 λx7 h =>
 vlen O 2 x7 h 8 λx8 h =>
 R 1 [x0,x2,x7,x8,(kI 0)] h
theorem e122_0(O R q x0 h):b122_0 O R q x0 h=stepF c122 O R q 0 [x0] h:=by kernel_rfl
def b122_1(O:Oracle)(R:Jump)(q:Nat)(x0 x2 x7 x8 x9:TVal)(h:Heap):Res1 :=
 vbin .lss 0 x9 x8 h λx10 h =>
 vif x10 (
 viaddr 1 x7 x9 h λx11 h =>
 vload false 1 x11 h λx12 h =>
 vcall O (.v (.c (.func 99 []))) [x0,x12] h 15 λx15 h =>
 vif x15 (
 vop O (.build [(.p (.int .i64 0)),(.p (.str [])),(.p (.int .i64 0)),(.p (.int .i64 0))] [(0,1,(.k (kI 4))),(1,1,(.k x12))]) h 17 λx17 h =>
 vlen O 0 x12 h 19 λx19 h =>
 vstore 4 x2 x17 h λ_ h =>
 vcell true 4 x2 h λc0=>tcomp x19 λc1=>tcomp (kI 0) λc2=>vfin true q [c0,c1,c2] h)
 (vbin .add 0 x9 (kI 1) h λx20 h =>
 R 1 [x0,x2,x7,x8,x20] h))
 (R 2 [x0,x2] h)
theorem e122_1(O R q x0 x2 x7 x8 x9 h):b122_1 O R q x0 x2 x7 x8 x9 h=stepF c122 O R q 1 [x0,x2,x7,x8,x9] h:=by kernel_rfl
def b122_2(O:Oracle)(R:Jump)(q:Nat)(x0 x2:TVal)(h:Heap):Res1 :=
 vop O (.slice 0 true (.k x0) none (some (.k (kI 1))) none) h 22 λx22 h =>
 vcall O (.v (.c (.func 84 []))) [(kS [123,125,60,62,44,58,40,41,46,36,124,61,59]),x22] h 23 λx23 h =>
 vop O (.un .not (.k x23)) h 24 λx24 h =>
 vif x24 (
 vop O (.build [(.p (.int .i64 0)),(.p (.str [])),(.p (.int .i64 0)),(.p (.int .i64 0))] []) h 25 λx25 h =>
 vstore 4 x2 x25 h λ_ h =>
 vcell true 4 x2 h λc0=>tcomp (kI 0) λc1=>tcomp (kI 11) λc2=>vfin true q [c0,c1,c2] h)
 (vop O (.slice 0 true (.k x0) none (some (.k (kI 1))) none) h 27 λx27 h =>
 vop O (.build [(.p (.int .i64 0)),(.p (.str [])),(.p (.int .i64 0)),(.p (.int .i64 0))] [(0,1,(.k (kI 4))),(1,1,(.k x27))]) h 28 λx28 h =>
 vstore 4 x2 x28 h λ_ h =>
 vcell true 4 x2 h λc0=>tcomp (kI 1) λc1=>tcomp (kI 0) λc2=>vfin true q [c0,c1,c2] h)
theorem e122_2(O R q x0 x2 h):b122_2 O R q x0 x2 h=stepF c122 O R q 2 [x0,x2] h:=by kernel_rfl
def d122:BlkF:=λO R Q=>[.s λa => .z (b122_0 O R Q a),.s λa => .s λb => .s λc => .s λd => .s λe => .z (b122_1 O R Q a b c d e),.s λa => .s λb => .z (b122_2 O R Q a b)]
theorem o122(O:Oracle)(R:Jump)(q:Nat):HoldsAll c122 O R q 0 (d122 O R q):=⟨e122_0 O R q,e122_1 O R q,e122_2 O R q,trivial⟩
def c123:MFunc:=mkM (compF Tryd.prog (globs2 tabs opq) (λ_=>false) true Tryd.f123) (.s .n (.s .n (.s (.k (.l 1 [0,1,2,6,7,8] .n)) (.m 2 [0,1,2,6,7] (.s .n (.k (.l 3 [0,1,2,6] (.s .n (.k (.s .n (.s (.k (.l 4 [0,1,2,6,7,8] .n)) (.m 5 [0,1,2,6,7] (.s .n (.m 6 [0,1,2,6] .n))))))))))))))
theorem e123_0(O R q x0 x1 x2 h):gT_0 5 148 149 164 170 123 O R q x0 x1 x2 h=stepF c123 O R q 0 [x0,x1,x2] h:=by kernel_rfl
theorem e123_1(O R q x0 x1 x2 x6 x7 x8 h):gT_1 5 148 149 164 170 123 O R q x0 x1 x2 x6 x7 x8 h=stepF c123 O R q 1 [x0,x1,x2,x6,x7,x8] h:=by kernel_rfl
theorem e123_2(O R q x0 x1 x2 x6 x7 h):gT_2 5 148 149 164 170 123 O R q x0 x1 x2 x6 x7 h=stepF c123 O R q 2 [x0,x1,x2,x6,x7] h:=by kernel_rfl
theorem e123_3(O R q x0 x1 x2 x6 h):gT_3 5 148 149 164 170 123 O R q x0 x1 x2 x6 h=stepF c123 O R q 3 [x0,x1,x2,x6] h:=by kernel_rfl
theorem e123_4(O R q x0 x1 x2 x6 x7 x8 h):gT_4 5 148 149 164 170 123 O R q x0 x1 x2 x6 x7 x8 h=stepF c123 O R q 4 [x0,x1,x2,x6,x7,x8] h:=by kernel_rfl
theorem e123_5(O R q x0 x1 x2 x6 x7 h):gT_5 5 148 149 164 170 123 O R q x0 x1 x2 x6 x7 h=stepF c123 O R q 5 [x0,x1,x2,x6,x7] h:=by kernel_rfl
theorem e123_6(O R q x0 x1 x2 x6 h):gT_6 5 148 149 164 170 123 O R q x0 x1 x2 x6 h=stepF c123 O R q 6 [x0,x1,x2,x6] h:=by kernel_rfl
def d123:BlkF:=λO R Q=>[.s λa => .s λb => .s λc => .z (gT_0 5 148 149 164 170 123 O R Q a b c),.s λa => .s λb => .s λc => .s λd => .s λe => .s λf => .z (gT_1 5 148 149 164 170 123 O R Q a b c d e f),.s λa => .s λb => .s λc => .s λd => .s λe => .z (gT_2 5 148 149 164 170 123 O R Q a b c d e),.s λa => .s λb => .s λc => .s λd => .z (gT_3 5 148 149 164 170 123 O R Q a b c d),.s λa => .s λb => .s λc => .s λd => .s λe => .s λf => .z (gT_4 5 148 149 164 170 123 O R Q a b c d e f),.s λa => .s λb => .s λc => .s λd => .s λe => .z (gT_5 5 148 149 164 170 123 O R Q a b c d e),.s λa => .s λb => .s λc => .s λd => .z (gT_6 5 148 149 164 170 123 O R Q a b c d)]
theorem o123(O:Oracle)(R:Jump)(q:Nat):HoldsAll c123 O R q 0 (d123 O R q):=⟨e123_0 O R q,e123_1 O R q,e123_2 O R q,e123_3 O R q,e123_4 O R q,e123_5 O R q,e123_6 O R q,trivial⟩
def c124:MFunc:=mkM (compF Tryd.prog (globs2 tabs opq) (λ_=>false) true Tryd.f124) (.s .n (.s .n (.s (.k (.l 1 [0,2,4,10,11] .n)) (.m 2 [0,2,4,10] .n))))
theorem e124_0(O R q x0 x1 x2 x3 x4 h):gR_0 5 94 95 124 150 68 O R q x0 x1 x2 x3 x4 h=stepF c124 O R q 0 [x0,x1,x2,x3,x4] h:=by kernel_rfl
theorem e124_1(O R q x0 x2 x4 x10 x11 h):gR_1 5 94 95 124 150 68 O R q x0 x2 x4 x10 x11 h=stepF c124 O R q 1 [x0,x2,x4,x10,x11] h:=by kernel_rfl
theorem e124_2(O R q x0 x2 x4 x10 h):gR_2 5 94 95 124 150 68 O R q x0 x2 x4 x10 h=stepF c124 O R q 2 [x0,x2,x4,x10] h:=by kernel_rfl
def d124:BlkF:=λO R Q=>[.s λa => .s λb => .s λc => .s λd => .s λe => .z (gR_0 5 94 95 124 150 68 O R Q a b c d e),.s λa => .s λb => .s λc => .s λd => .s λe => .z (gR_1 5 94 95 124 150 68 O R Q a b c d e),.s λa => .s λb => .s λc => .s λd => .z (gR_2 5 94 95 124 150 68 O R Q a b c d)]
theorem o124(O:Oracle)(R:Jump)(q:Nat):HoldsAll c124 O R q 0 (d124 O R q):=⟨e124_0 O R q,e124_1 O R q,e124_2 O R q,trivial⟩
def c125:MFunc:=mkM (compF Tryd.prog (globs2 tabs opq) (λ_=>false) true Tryd.f125) (.s .n (.s .n (.s (.k (.l 1 [0,2,4,10,11] .n)) (.m 2 [0,2,4,10] .n))))
theorem e125_0(O R q x0 x1 x2 x3 x4 h):gR_0 6 96 97 125 151 70 O R q x0 x1 x2 x3 x4 h=stepF c125 O R q 0 [x0,x1,x2,x3,x4] h:=by kernel_rfl
theorem e125_1(O R q x0 x2 x4 x10 x11 h):gR_1 6 96 97 125 151 70 O R q x0 x2 x4 x10 x11 h=stepF c125 O R q 1 [x0,x2,x4,x10,x11] h:=by kernel_rfl
theorem e125_2(O R q x0 x2 x4 x10 h):gR_2 6 96 97 125 151 70 O R q x0 x2 x4 x10 h=stepF c125 O R q 2 [x0,x2,x4,x10] h:=by kernel_rfl
def d125:BlkF:=λO R Q=>[.s λa => .s λb => .s λc => .s λd => .s λe => .z (gR_0 6 96 97 125 151 70 O R Q a b c d e),.s λa => .s λb => .s λc => .s λd => .s λe => .z (gR_1 6 96 97 125 151 70 O R Q a b c d e),.s λa => .s λb => .s λc => .s λd => .z (gR_2 6 96 97 125 151 70 O R Q a b c d)]
theorem o125(O:Oracle)(R:Jump)(q:Nat):HoldsAll c125 O R q 0 (d125 O R q):=⟨e125_0 O R q,e125_1 O R q,e125_2 O R q,trivial⟩
def c130:MFunc:=mkM (compF Tryd.prog (globs2 tabs opq) (λ_=>false) true Tryd.f130) .n
def b130_0(O:Oracle)(R:Jump)(q:Nat)(x0 x1:TVal)(h:Heap):Res1 :=
 vlen O 0 x0 h 6 λx6 h =>
 vlen O 0 x1 h 8 λx8 h =>
 vbin .geq 0 x6 x8 h λx9 h =>
 vguard x9 true (λkk=>kk x0 h) h λx11 h =>
 vguard x9 true (λkk=>kk x1 h) h λx12 h =>
 vguard x9 true (λkk=>vlen O 0 x12 h 13 kk) h λx13 h =>
 vguard x9 true (λkk=>vop O (.slice 0 true (.k x11) none (some (.k x13)) none) h 14 kk) h λx14 h =>
 vguard x9 true (λkk=>kk x1 h) h λx15 h =>
 vguard x9 true (λkk=>vbin .eql 0 x14 x15 h kk) h λx16 h =>
 vop O (.pick (.k x9) (.k x16) (.k (kB false))) h 17 λx17 h =>
 tcomp x17 λc0=>vfin true q [c0] h
theorem e130_0(O R q x0 x1 h):b130_0 O R q x0 x1 h=stepF c130 O R q 0 [x0,x1] h:=by kernel_rfl
def d130:BlkF:=λO R Q=>[.s λa => .s λb => .z (b130_0 O R Q a b)]
theorem o130(O:Oracle)(R:Jump)(q:Nat):HoldsAll c130 O R q 0 (d130 O R q):=⟨e130_0 O R q,trivial⟩
def c137:MFunc:=mkM (compF Tryd.prog (globs2 tabs opq) (λ_=>false) true Tryd.f137) (.s .n (.s (.s .n (.k (.l 1 [0,1,7] .n))) (.m 2 [0] .n)))
def b137_0(O:Oracle)(R:Jump)(q:Nat)(x0 x1:TVal)(h:Heap):Res1 :=
 vop O (.rangeS (.k x0)) h 7 λx7 h =>
 R 1 [x0,x1,x7] h
theorem e137_0(O R q x0 x1 h):b137_0 O R q x0 x1 h=stepF c137 O R q 0 [x0,x1] h:=by kernel_rfl
def b137_1(O:Oracle)(R:Jump)(q:Nat)(x0 x1 x7:TVal)(h:Heap):Res1 :=
 vop O (.nextS (.k x7)) h 8 λx8 h =>
 vext x8 0 h λx9 h =>
 vif x9 (
 vext x8 1 h λx10 h =>
 vindex x0 x10 h λx14 h =>
 vcall O x1 [x14] h 15 λx15 h =>
 vop O (.un .not (.k x15)) h 16 λx16 h =>
 vif x16 (
 tcomp x10 λc0=>vfin true q [c0] h)
 (R 1 [x0,x1,x7] h))
 (R 2 [x0] h)
theorem e137_1(O R q x0 x1 x7 h):b137_1 O R q x0 x1 x7 h=stepF c137 O R q 1 [x0,x1,x7] h:=by kernel_rfl
def b137_2(O:Oracle)(R:Jump)(q:Nat)(x0:TVal)(h:Heap):Res1 :=
 vlen O 0 x0 h 19 λx19 h =>
 tcomp x19 λc0=>vfin true q [c0] h
theorem e137_2(O R q x0 h):b137_2 O R q x0 h=stepF c137 O R q 2 [x0] h:=by kernel_rfl
def d137:BlkF:=λO R Q=>[.s λa => .s λb => .z (b137_0 O R Q a b),.s λa => .s λb => .s λc => .z (b137_1 O R Q a b c),.s λa => .z (b137_2 O R Q a)]
theorem o137(O:Oracle)(R:Jump)(q:Nat):HoldsAll c137 O R q 0 (d137 O R q):=⟨e137_0 O R q,e137_1 O R q,e137_2 O R q,trivial⟩
def c138:MFunc:=mkM (compF Tryd.prog (globs2 tabs opq) (λ_=>false) true Tryd.f138) .n
def b138_0(O:Oracle)(R:Jump)(q:Nat)(x0:TVal)(h:Heap):Res1 :=
 vcall O (.v (.c (.func 118 []))) [x0] h 4 λx4 h =>
 vguard x4 false (λkk=>kk x0 h) h λx6 h =>
 vguard x4 false (λkk=>vcall O (.v (.c (.func 107 []))) [x6] h 7 kk) h λx7 h =>
 vop O (.pick (.k x4) (.k (kB true)) (.k x7)) h 8 λx8 h =>
 tcomp x8 λc0=>vfin true q [c0] h
theorem e138_0(O R q x0 h):b138_0 O R q x0 h=stepF c138 O R q 0 [x0] h:=by kernel_rfl
def d138:BlkF:=λO R Q=>[.s λa => .z (b138_0 O R Q a)]
theorem o138(O:Oracle)(R:Jump)(q:Nat):HoldsAll c138 O R q 0 (d138 O R q):=⟨e138_0 O R q,trivial⟩
def c145:MFunc:=mkM (compF Tryd.prog (globs2 tabs opq) (λ_=>false) true Tryd.f145) .n
def b145_0(O:Oracle)(R:Jump)(q:Nat)(x0 x1:TVal)(h:Heap):Res1 :=
 vcall O (.v (.c (.func 161 []))) [x0,x1] h 7 λx7 h =>
 tcomp x7 λc0=>vfin true q [c0] h
theorem e145_0(O R q x0 x1 h):b145_0 O R q x0 x1 h=stepF c145 O R q 0 [x0,x1] h:=by kernel_rfl
def d145:BlkF:=λO R Q=>[.s λa => .s λb => .z (b145_0 O R Q a b)]
theorem o145(O:Oracle)(R:Jump)(q:Nat):HoldsAll c145 O R q 0 (d145 O R q):=⟨e145_0 O R q,trivial⟩
def c146:MFunc:=mkM (compF Tryd.prog (globs2 tabs opq) (λ_=>false) true Tryd.f146) .n
def b146_0(O:Oracle)(R:Jump)(q:Nat)(x0:TVal)(h:Heap):Res1 :=
 vbin .eql 0 x0 (.v (.c (.p (.int .u8 110)))) h λx6 h =>
 vif x6 (
 tcomp (.v (.c (.p (.int .u8 10)))) λc0=>tcomp (kB true) λc1=>vfin true q [c0,c1] h)
 (vbin .eql 0 x0 (.v (.c (.p (.int .u8 116)))) h λx8 h =>
 vif x8 (
 tcomp (.v (.c (.p (.int .u8 9)))) λc0=>tcomp (kB true) λc1=>vfin true q [c0,c1] h)
 (vbin .eql 0 x0 (.v (.c (.p (.int .u8 34)))) h λx10 h =>
 vif x10 (
 tcomp x0 λc0=>tcomp (kB true) λc1=>vfin true q [c0,c1] h)
 (vbin .eql 0 x0 (.v (.c (.p (.int .u8 92)))) h λx12 h =>
 vif x12 (
 tcomp x0 λc0=>tcomp (kB true) λc1=>vfin true q [c0,c1] h)
 (tcomp (.v (.c (.p (.int .u8 0)))) λc0=>tcomp (kB false) λc1=>vfin true q [c0,c1] h))))
theorem e146_0(O R q x0 h):b146_0 O R q x0 h=stepF c146 O R q 0 [x0] h:=by kernel_rfl
def d146:BlkF:=λO R Q=>[.s λa => .z (b146_0 O R Q a)]
theorem o146(O:Oracle)(R:Jump)(q:Nat):HoldsAll c146 O R q 0 (d146 O R q):=⟨e146_0 O R q,trivial⟩
def c147:MFunc:=mkM (compF Tryd.prog (globs2 tabs opq) (λ_=>false) true Tryd.f147) (.s .n (.s .n (.s .n (.s .n (.s (.s .n (.k (.l 1 [0,3,4,5,6] .n))) (.m 2 [0,3,5] (.s .n (.s .n (.s .n (.s .n (.s .n (.s (.k (.l 3 [0,9,10,12] .n)) (.m 4 [0,9,10,12] (.s .n (.s (.k (.l 5 [0,9,10,11,12] (.s .n (.k (.s .n (.s .n (.s .n (.s .n (.s (.k (.l 6 [0,9,10,12] .n)) .n))))))))) (.m 7 [0,9,10,11] .n))))))))))))))))
def b147_0(O:Oracle)(R:Jump)(q:Nat)(x0:TVal)(h:Heap):Res1 :=
 R 1 [x0,(kI 0),(kI 1),(.v (.c (.p (.int .u8 0)))),(kI 0)] h
theorem e147_0(O R q x0 h):b147_0 O R q x0 h=stepF c147 O R q 0 [x0] h:=by kernel_rfl
def b147_1(O:Oracle)(R:Jump)(q:Nat)(x0 x3 x4 x5 x6:TVal)(h:Heap):Res1 :=
 vlen O 0 x0 h 15 λx15 h =>
 vbin .lss 0 x6 x15 h λx16 h =>
 vif x16 (
 vindex x0 x6 h λx21 h =>
 vbin .or 0 x5 x21 h λx24 h =>
 vop O (.iaddrA 256 1 (.k (.v (.c (.p (.pptr [(.int .u8 0),(.int .u8 0),(.int .u8 0),(.int .u8 0),(.int .u8 0),(.int .u8 0),(.int .u8 0),(.int .u8 0),(.int .u8 0),(.int .u8 1),(.int .u8 1),(.int .u8 1),(.int .u8 1),(.int .u8 1),(.int .u8 0),(.int .u8 0),(.int .u8 0),(.int .u8 0),(.int .u8 0),(.int .u8 0),(.int .u8 0),(.int .u8 0),(.int .u8 0),(.int .u8 0),(.int .u8 0),(.int .u8 0),(.int .u8 0),(.int .u8 0),(.int .u8 0),(.int .u8 0),(.int .u8 0),(.int .u8 0),(.int .u8 1),(.int .u8 0),(.int .u8 0),(.int .u8 0),(.int .u8 0),(.int .u8 0),(.int .u8 0),(.int .u8 0),(.int .u8 0),(.int .u8 0),(.int .u8 0),(.int .u8 0),(.int .u8 0),(.int .u8 0),(.int .u8 0),(.int .u8 0),(.int .u8 0),(.int .u8 0),(.int .u8 0),(.int .u8 0),(.int .u8 0),(.int .u8 0),(.int .u8 0),(.int .u8 0),(.int .u8 0),(.int .u8 0),(.int .u8 0),(.int .u8 0),(.int .u8 0),(.int .u8 0),(.int .u8 0),(.int .u8 0),(.int .u8 0),(.int .u8 0),(.int .u8 0),(.int .u8 0),(.int .u8 0),(.int .u8 0),(.int .u8 0),(.int .u8 0),(.int .u8 0),(.int .u8 0),(.int .u8 0),(.int .u8 0),(.int .u8 0),(.int .u8 0),(.int .u8 0),(.int .u8 0),(.int .u8 0),(.int .u8 0),(.int .u8 0),(.int .u8 0),(.int .u8 0),(.int .u8 0),(.int .u8 0),(.int .u8 0),(.int .u8 0),(.int .u8 0),(.int .u8 0),(.int .u8 0),(.int .u8 0),(.int .u8 0),(.int .u8 0),(.int .u8 0),(.int .u8 0),(.int .u8 0),(.int .u8 0),(.int .u8 0),(.int .u8 0),(.int .u8 0),(.int .u8 0),(.int .u8 0),(.int .u8 0),(.int .u8 0),(.int .u8 0),(.int .u8 0),(.int .u8 0),(.int .u8 0),(.int .u8 0),(.int .u8 0),(.int .u8 0),(.int .u8 0),(.int .u8 0),(.int .u8 0),(.int .u8 0),(.int .u8 0),(.int .u8 0),(.int .u8 0),(.int .u8 0),(.int .u8 0),(.int .u8 0),(.int .u8 0),(.int .u8 0),(.int .u8 0),(.int .u8 0),(.int .u8 0),(.int .u8 0),(.int .u8 0),(.int .u8 0),(.int .u8 0),(.int .u8 0),(.int .u8 0),(.int .u8 0),(.int .u8 0),(.int .u8 0),(.int .u8 0),(.int .u8 0),(.int .u8 0),(.int .u8 0),(.int .u8 0),(.int .u8 0),(.int .u8 0),(.int .u8 0),(.int .u8 0),(.int .u8 0),(.int .u8 0),(.int .u8 0),(.int .u8 0),(.int .u8 0),(.int .u8 0),(.int .u8 0),(.int .u8 0),(.int .u8 0),(.int .u8 0),(.int .u8 0),(.int .u8 0),(.int .u8 0),(.int .u8 0),(.int .u8 0),(.int .u8 0),(.int .u8 0),(.int .u8 0),(.int .u8 0),(.int .u8 0),(.int .u8 0),(.int .u8 0),(.int .u8 0),(.int .u8 0),(.int .u8 0),(.int .u8 0),(.int .u8 0),(.int .u8 0),(.int .u8 0),(.int .u8 0),(.int .u8 0),(.int .u8 0),(.int .u8 0),(.int .u8 0),(.int .u8 0),(.int .u8 0),(.int .u8 0),(.int .u8 0),(.int .u8 0),(.int .u8 0),(.int .u8 0),(.int .u8 0),(.int .u8 0),(.int .u8 0),(.int .u8 0),(.int .u8 0),(.int .u8 0),(.int .u8 0),(.int .u8 0),(.int .u8 0),(.int .u8 0),(.int .u8 0),(.int .u8 0),(.int .u8 0),(.int .u8 0),(.int .u8 0),(.int .u8 0),(.int .u8 0),(.int .u8 0),(.int .u8 0),(.int .u8 0),(.int .u8 0),(.int .u8 0),(.int .u8 0),(.int .u8 0),(.int .u8 0),(.int .u8 0),(.int .u8 0),(.int .u8 0),(.int .u8 0),(.int .u8 0),(.int .u8 0),(.int .u8 0),(.int .u8 0),(.int .u8 0),(.int .u8 0),(.int .u8 0),(.int .u8 0),(.int .u8 0),(.int .u8 0),(.int .u8 0),(.int .u8 0),(.int .u8 0),(.int .u8 0),(.int .u8 0),(.int .u8 0),(.int .u8 0),(.int .u8 0),(.int .u8 0),(.int .u8 0),(.int .u8 0),(.int .u8 0),(.int .u8 0),(.int .u8 0),(.int .u8 0),(.int .u8 0),(.int .u8 0),(.int .u8 0),(.int .u8 0),(.int .u8 0),(.int .u8 0),(.int .u8 0),(.int .u8 0),(.int .u8 0),(.int .u8 0),(.int .u8 0),(.int .u8 0),(.int .u8 0),(.int .u8 0),(.int .u8 0)] 0))))) (.k x21)) h 26 λx26 h =>
 vload false 1 x26 h λx27 h =>
 vtoInt .i64 x27 h λx28 h =>
 vop O (.un .xor (.k x28)) h 32 λx32 h =>
 vbin .and 0 x4 x32 h λx33 h =>
 vbin .add 0 x3 x33 h λx34 h =>
 vbin .add 0 x6 (kI 1) h λx18 h =>
 R 1 [x0,x34,x28,x24,x18] h)
 (R 2 [x0,x3,x5] h)
theorem e147_1(O R q x0 x3 x4 x5 x6 h):b147_1 O R q x0 x3 x4 x5 x6 h=stepF c147 O R q 1 [x0,x3,x4,x5,x6] h:=by kernel_rfl
def b147_2(O:Oracle)(R:Jump)(q:Nat)(x0 x3 x5:TVal)(h:Heap):Res1 :=
 vbin .geq 0 x5 (.v (.c (.p (.int .u8 128)))) h λx37 h =>
 vif x37 (
 vcall O (.v (.c (.func 162 []))) [x0,(.v (.c (.func 163 [])))] h 39 λx39 h =>
 tcomp x39 λc0=>vfin true q [c0] h)
 (vop O (.mkslice 1 16 [(.p (.str []))] (.k x3) (.k x3) false) h 41 λx41 h =>
 R 3 [x0,x41,(kI 0),(kI 0)] h)
theorem e147_2(O R q x0 x3 x5 h):b147_2 O R q x0 x3 x5 h=stepF c147 O R q 2 [x0,x3,x5] h:=by kernel_rfl
def b147_3(O:Oracle)(R:Jump)(q:Nat)(x0 x9 x10 x12:TVal)(h:Heap):Res1 :=
 vlen O 0 x0 h 44 λx44 h =>
 vbin .lss 0 x12 x44 h λx45 h =>
 vguard x45 true (λkk=>kk x0 h) h λx47 h =>
 vguard x45 true (λkk=>kk x12 h) h λx48 h =>
 vguard x45 true (λkk=>vindex x47 x48 h kk) h λx49 h =>
 vguard x45 true (λkk=>vop O (.iaddrA 256 1 (.k (.v (.c (.p (.pptr [(.int .u8 0),(.int .u8 0),(.int .u8 0),(.int .u8 0),(.int .u8 0),(.int .u8 0),(.int .u8 0),(.int .u8 0),(.int .u8 0),(.int .u8 1),(.int .u8 1),(.int .u8 1),(.int .u8 1),(.int .u8 1),(.int .u8 0),(.int .u8 0),(.int .u8 0),(.int .u8 0),(.int .u8 0),(.int .u8 0),(.int .u8 0),(.int .u8 0),(.int .u8 0),(.int .u8 0),(.int .u8 0),(.int .u8 0),(.int .u8 0),(.int .u8 0),(.int .u8 0),(.int .u8 0),(.int .u8 0),(.int .u8 0),(.int .u8 1),(.int .u8 0),(.int .u8 0),(.int .u8 0),(.int .u8 0),(.int .u8 0),(.int .u8 0),(.int .u8 0),(.int .u8 0),(.int .u8 0),(.int .u8 0),(.int .u8 0),(.int .u8 0),(.int .u8 0),(.int .u8 0),(.int .u8 0),(.int .u8 0),(.int .u8 0),(.int .u8 0),(.int .u8 0),(.int .u8 0),(.int .u8 0),(.int .u8 0),(.int .u8 0),(.int .u8 0),(.int .u8 0),(.int .u8 0),(.int .u8 0),(.int .u8 0),(.int .u8 0),(.int .u8 0),(.int .u8 0),(.int .u8 0),(.int .u8 0),(.int .u8 0),(.int .u8 0),(.int .u8 0),(.int .u8 0),(.int .u8 0),(.int .u8 0),(.int .u8 0),(.int .u8 0),(.int .u8 0),(.int .u8 0),(.int .u8 0),(.int .u8 0),(.int .u8 0),(.int .u8 0),(.int .u8 0),(.int .u8 0),(.int .u8 0),(.int .u8 0),(.int .u8 0),(.int .u8 0),(.int .u8 0),(.int .u8 0),(.int .u8 0),(.int .u8 0),(.int .u8 0),(.int .u8 0),(.int .u8 0),(.int .u8 0),(.int .u8 0),(.int .u8 0),(.int .u8 0),(.int .u8 0),(.int .u8 0),(.int .u8 0),(.int .u8 0),(.int .u8 0),(.int .u8 0),(.int .u8 0),(.int .u8 0),(.int .u8 0),(.int .u8 0),(.int .u8 0),(.int .u8 0),(.int .u8 0),(.int .u8 0),(.int .u8 0),(.int .u8 0),(.int .u8 0),(.int .u8 0),(.int .u8 0),(.int .u8 0),(.int .u8 0),(.int .u8 0),(.int .u8 0),(.int .u8 0),(.int .u8 0),(.int .u8 0),(.int .u8 0),(.int .u8 0),(.int .u8 0),(.int .u8 0),(.int .u8 0),(.int .u8 0),(.int .u8 0),(.int .u8 0),(.int .u8 0),(.int .u8 0),(.int .u8 0),(.int .u8 0),(.int .u8 0),(.int .u8 0),(.int .u8 0),(.int .u8 0),(.int .u8 0),(.int .u8 0),(.int .u8 0),(.int .u8 0),(.int .u8 0),(.int .u8 0),(.int .u8 0),(.int .u8 0),(.int .u8 0),(.int .u8 0),(.int .u8 0),(.int .u8 0),(.int .u8 0),(.int .u8 0),(.int .u8 0),(.int .u8 0),(.int .u8 0),(.int .u8 0),(.int .u8 0),(.int .u8 0),(.int .u8 0),(.int .u8 0),(.int .u8 0),(.int .u8 0),(.int .u8 0),(.int .u8 0),(.int .u8 0),(.int .u8 0),(.int .u8 0),(.int .u8 0),(.int .u8 0),(.int .u8 0),(.int .u8 0),(.int .u8 0),(.int .u8 0),(.int .u8 0),(.int .u8 0),(.int .u8 0),(.int .u8 0),(.int .u8 0),(.int .u8 0),(.int .u8 0),(.int .u8 0),(.int .u8 0),(.int .u8 0),(.int .u8 0),(.int .u8 0),(.int .u8 0),(.int .u8 0),(.int .u8 0),(.int .u8 0),(.int .u8 0),(.int .u8 0),(.int .u8 0),(.int .u8 0),(.int .u8 0),(.int .u8 0),(.int .u8 0),(.int .u8 0),(.int .u8 0),(.int .u8 0),(.int .u8 0),(.int .u8 0),(.int .u8 0),(.int .u8 0),(.int .u8 0),(.int .u8 0),(.int .u8 0),(.int .u8 0),(.int .u8 0),(.int .u8 0),(.int .u8 0),(.int .u8 0),(.int .u8 0),(.int .u8 0),(.int .u8 0),(.int .u8 0),(.int .u8 0),(.int .u8 0),(.int .u8 0),(.int .u8 0),(.int .u8 0),(.int .u8 0),(.int .u8 0),(.int .u8 0),(.int .u8 0),(.int .u8 0),(.int .u8 0),(.int .u8 0),(.int .u8 0),(.int .u8 0),(.int .u8 0),(.int .u8 0),(.int .u8 0),(.int .u8 0),(.int .u8 0),(.int .u8 0),(.int .u8 0),(.int .u8 0),(.int .u8 0),(.int .u8 0),(.int .u8 0),(.int .u8 0),(.int .u8 0),(.int .u8 0),(.int .u8 0),(.int .u8 0),(.int .u8 0),(.int .u8 0),(.int .u8 0),(.int .u8 0),(.int .u8 0),(.int .u8 0),(.int .u8 0),(.int .u8 0),(.int .u8 0),(.int .u8 0)] 0))))) (.k x49)) h 50 kk) h λx50 h =>
 vguard x45 true (λkk=>vload false 1 x50 h kk) h λx51 h =>
 vguard x45 true (λkk=>vbin .neq 0 x51 (.v (.c (.p (.int .u8 0)))) h kk) h λx52 h =>
 vop O (.pick (.k x45) (.k x52) (.k (kB false))) h 53 λx53 h =>
 vif x53 (
 vbin .add 0 x12 (kI 1) h λx55 h =>
 R 3 [x0,x9,x10,x55] h)
 (R 4 [x0,x9,x10,x12] h)
theorem e147_3(O R q x0 x9 x10 x12 h):b147_3 O R q x0 x9 x10 x12 h=stepF c147 O R q 3 [x0,x9,x10,x12] h:=by kernel_rfl
def b147_4(O:Oracle)(R:Jump)(q:Nat)(x0 x9 x10 x12:TVal)(h:Heap):Res1 :=
 R 5 [x0,x9,x10,x12,x12] h
theorem e147_4(O R q x0 x9 x10 x12 h):b147_4 O R q x0 x9 x10 x12 h=stepF c147 O R q 4 [x0,x9,x10,x12] h:=by kernel_rfl
def b147_5(O:Oracle)(R:Jump)(q:Nat)(x0 x9 x10 x11 x12:TVal)(h:Heap):Res1 :=
 vlen O 0 x0 h 59 λx59 h =>
 vbin .lss 0 x12 x59 h λx60 h =>
 vif x60 (
 vindex x0 x12 h λx63 h =>
 vop O (.iaddrA 256 1 (.k (.v (.c (.p (.pptr [(.int .u8 0),(.int .u8 0),(.int .u8 0),(.int .u8 0),(.int .u8 0),(.int .u8 0),(.int .u8 0),(.int .u8 0),(.int .u8 0),(.int .u8 1),(.int .u8 1),(.int .u8 1),(.int .u8 1),(.int .u8 1),(.int .u8 0),(.int .u8 0),(.int .u8 0),(.int .u8 0),(.int .u8 0),(.int .u8 0),(.int .u8 0),(.int .u8 0),(.int .u8 0),(.int .u8 0),(.int .u8 0),(.int .u8 0),(.int .u8 0),(.int .u8 0),(.int .u8 0),(.int .u8 0),(.int .u8 0),(.int .u8 0),(.int .u8 1),(.int .u8 0),(.int .u8 0),(.int .u8 0),(.int .u8 0),(.int .u8 0),(.int .u8 0),(.int .u8 0),(.int .u8 0),(.int .u8 0),(.int .u8 0),(.int .u8 0),(.int .u8 0),(.int .u8 0),(.int .u8 0),(.int .u8 0),(.int .u8 0),(.int .u8 0),(.int .u8 0),(.int .u8 0),(.int .u8 0),(.int .u8 0),(.int .u8 0),(.int .u8 0),(.int .u8 0),(.int .u8 0),(.int .u8 0),(.int .u8 0),(.int .u8 0),(.int .u8 0),(.int .u8 0),(.int .u8 0),(.int .u8 0),(.int .u8 0),(.int .u8 0),(.int .u8 0),(.int .u8 0),(.int .u8 0),(.int .u8 0),(.int .u8 0),(.int .u8 0),(.int .u8 0),(.int .u8 0),(.int .u8 0),(.int .u8 0),(.int .u8 0),(.int .u8 0),(.int .u8 0),(.int .u8 0),(.int .u8 0),(.int .u8 0),(.int .u8 0),(.int .u8 0),(.int .u8 0),(.int .u8 0),(.int .u8 0),(.int .u8 0),(.int .u8 0),(.int .u8 0),(.int .u8 0),(.int .u8 0),(.int .u8 0),(.int .u8 0),(.int .u8 0),(.int .u8 0),(.int .u8 0),(.int .u8 0),(.int .u8 0),(.int .u8 0),(.int .u8 0),(.int .u8 0),(.int .u8 0),(.int .u8 0),(.int .u8 0),(.int .u8 0),(.int .u8 0),(.int .u8 0),(.int .u8 0),(.int .u8 0),(.int .u8 0),(.int .u8 0),(.int .u8 0),(.int .u8 0),(.int .u8 0),(.int .u8 0),(.int .u8 0),(.int .u8 0),(.int .u8 0),(.int .u8 0),(.int .u8 0),(.int .u8 0),(.int .u8 0),(.int .u8 0),(.int .u8 0),(.int .u8 0),(.int .u8 0),(.int .u8 0),(.int .u8 0),(.int .u8 0),(.int .u8 0),(.int .u8 0),(.int .u8 0),(.int .u8 0),(.int .u8 0),(.int .u8 0),(.int .u8 0),(.int .u8 0),(.int .u8 0),(.int .u8 0),(.int .u8 0),(.int .u8 0),(.int .u8 0),(.int .u8 0),(.int .u8 0),(.int .u8 0),(.int .u8 0),(.int .u8 0),(.int .u8 0),(.int .u8 0),(.int .u8 0),(.int .u8 0),(.int .u8 0),(.int .u8 0),(.int .u8 0),(.int .u8 0),(.int .u8 0),(.int .u8 0),(.int .u8 0),(.int .u8 0),(.int .u8 0),(.int .u8 0),(.int .u8 0),(.int .u8 0),(.int .u8 0),(.int .u8 0),(.int .u8 0),(.int .u8 0),(.int .u8 0),(.int .u8 0),(.int .u8 0),(.int .u8 0),(.int .u8 0),(.int .u8 0),(.int .u8 0),(.int .u8 0),(.int .u8 0),(.int .u8 0),(.int .u8 0),(.int .u8 0),(.int .u8 0),(.int .u8 0),(.int .u8 0),(.int .u8 0),(.int .u8 0),(.int .u8 0),(.int .u8 0),(.int .u8 0),(.int .u8 0),(.int .u8 0),(.int .u8 0),(.int .u8 0),(.int .u8 0),(.int .u8 0),(.int .u8 0),(.int .u8 0),(.int .u8 0),(.int .u8 0),(.int .u8 0),(.int .u8 0),(.int .u8 0),(.int .u8 0),(.int .u8 0),(.int .u8 0),(.int .u8 0),(.int .u8 0),(.int .u8 0),(.int .u8 0),(.int .u8 0),(.int .u8 0),(.int .u8 0),(.int .u8 0),(.int .u8 0),(.int .u8 0),(.int .u8 0),(.int .u8 0),(.int .u8 0),(.int .u8 0),(.int .u8 0),(.int .u8 0),(.int .u8 0),(.int .u8 0),(.int .u8 0),(.int .u8 0),(.int .u8 0),(.int .u8 0),(.int .u8 0),(.int .u8 0),(.int .u8 0),(.int .u8 0),(.int .u8 0),(.int .u8 0),(.int .u8 0),(.int .u8 0),(.int .u8 0),(.int .u8 0),(.int .u8 0),(.int .u8 0),(.int .u8 0),(.int .u8 0),(.int .u8 0),(.int .u8 0),(.int .u8 0),(.int .u8 0),(.int .u8 0),(.int .u8 0),(.int .u8 0),(.int .u8 0),(.int .u8 0),(.int .u8 0),(.int .u8 0),(.int .u8 0),(.int .u8 0),(.int .u8 0),(.int .u8 0)] 0))))) (.k x63)) h 64 λx64 h =>
 vload false 1 x64 h λx65 h =>
 vbin .eql 0 x65 (.v (.c (.p (.int .u8 0)))) h λx66 h =>
 vif x66 (
 vbin .add 0 x12 (kI 1) h λx68 h =>
 R 5 [x0,x9,x10,x11,x68] h)
 (vop O (.slice 0 true (.k x0) (some (.k x11)) (some (.k x12)) none) h 74 λx74 h =>
 viaddr 1 x9 x10 h λx75 h =>
 vstore 1 x75 x74 h λ_ h =>
 vbin .add 0 x10 (kI 1) h λx77 h =>
 vbin .add 0 x12 (kI 1) h λx79 h =>
 R 6 [x0,x9,x77,x79] h))
 (R 7 [x0,x9,x10,x11] h)
theorem e147_5(O R q x0 x9 x10 x11 x12 h):b147_5 O R q x0 x9 x10 x11 x12 h=stepF c147 O R q 5 [x0,x9,x10,x11,x12] h:=by kernel_rfl
def b147_6(O:Oracle)(R:Jump)(q:Nat)(x0 x9 x10 x12:TVal)(h:Heap):Res1 :=
 vlen O 0 x0 h 82 λx82 h =>
 vbin .lss 0 x12 x82 h λx83 h =>
 vguard x83 true (λkk=>kk x0 h) h λx85 h =>
 vguard x83 true (λkk=>kk x12 h) h λx86 h =>
 vguard x83 true (λkk=>vindex x85 x86 h kk) h λx87 h =>
 vguard x83 true (λkk=>vop O (.iaddrA 256 1 (.k (.v (.c (.p (.pptr [(.int .u8 0),(.int .u8 0),(.int .u8 0),(.int .u8 0),(.int .u8 0),(.int .u8 0),(.int .u8 0),(.int .u8 0),(.int .u8 0),(.int .u8 1),(.int .u8 1),(.int .u8 1),(.int .u8 1),(.int .u8 1),(.int .u8 0),(.int .u8 0),(.int .u8 0),(.int .u8 0),(.int .u8 0),(.int .u8 0),(.int .u8 0),(.int .u8 0),(.int .u8 0),(.int .u8 0),(.int .u8 0),(.int .u8 0),(.int .u8 0),(.int .u8 0),(.int .u8 0),(.int .u8 0),(.int .u8 0),(.int .u8 0),(.int .u8 1),(.int .u8 0),(.int .u8 0),(.int .u8 0),(.int .u8 0),(.int .u8 0),(.int .u8 0),(.int .u8 0),(.int .u8 0),(.int .u8 0),(.int .u8 0),(.int .u8 0),(.int .u8 0),(.int .u8 0),(.int .u8 0),(.int .u8 0),(.int .u8 0),(.int .u8 0),(.int .u8 0),(.int .u8 0),(.int .u8 0),(.int .u8 0),(.int .u8 0),(.int .u8 0),(.int .u8 0),(.int .u8 0),(.int .u8 0),(.int .u8 0),(.int .u8 0),(.int .u8 0),(.int .u8 0),(.int .u8 0),(.int .u8 0),(.int .u8 0),(.int .u8 0),(.int .u8 0),(.int .u8 0),(.int .u8 0),(.int .u8 0),(.int .u8 0),(.int .u8 0),(.int .u8 0),(.int .u8 0),(.int .u8 0),(.int .u8 0),(.int .u8 0),(.int .u8 0),(.int .u8 0),(.int .u8 0),(.int .u8 0),(.int .u8 0),(.int .u8 0),(.int .u8 0),(.int .u8 0),(.int .u8 0),(.int .u8 0),(.int .u8 0),(.int .u8 0),(.int .u8 0),(.int .u8 0),(.int .u8 0),(.int .u8 0),(.int .u8 0),(.int .u8 0),(.int .u8 0),(.int .u8 0),(.int .u8 0),(.int .u8 0),(.int .u8 0),(.int .u8 0),(.int .u8 0),(.int .u8 0),(.int .u8 0),(.int .u8 0),(.int .u8 0),(.int .u8 0),(.int .u8 0),(.int .u8 0),(.int .u8 0),(.int .u8 0),(.int .u8 0),(.int .u8 0),(.int .u8 0),(.int .u8 0),(.int .u8 0),(.int .u8 0),(.int .u8 0),(.int .u8 0),(.int .u8 0),(.int .u8 0),(.int .u8 0),(.int .u8 0),(.int .u8 0),(.int .u8 0),(.int .u8 0),(.int .u8 0),(.int .u8 0),(.int .u8 0),(.int .u8 0),(.int .u8 0),(.int .u8 0),(.int .u8 0),(.int .u8 0),(.int .u8 0),(.int .u8 0),(.int .u8 0),(.int .u8 0),(.int .u8 0),(.int .u8 0),(.int .u8 0),(.int .u8 0),(.int .u8 0),(.int .u8 0),(.int .u8 0),(.int .u8 0),(.int .u8 0),(.int .u8 0),(.int .u8 0),(.int .u8 0),(.int .u8 0),(.int .u8 0),(.int .u8 0),(.int .u8 0),(.int .u8 0),(.int .u8 0),(.int .u8 0),(.int .u8 0),(.int .u8 0),(.int .u8 0),(.int .u8 0),(.int .u8 0),(.int .u8 0),(.int .u8 0),(.int .u8 0),(.int .u8 0),(.int .u8 0),(.int .u8 0),(.int .u8 0),(.int .u8 0),(.int .u8 0),(.int .u8 0),(.int .u8 0),(.int .u8 0),(.int .u8 0),(.int .u8 0),(.int .u8 0),(.int .u8 0),(.int .u8 0),(.int .u8 0),(.int .u8 0),(.int .u8 0),(.int .u8 0),(.int .u8 0),(.int .u8 0),(.int .u8 0),(.int .u8 0),(.int .u8 0),(.int .u8 0),(.int .u8 0),(.int .u8 0),(.int .u8 0),(.int .u8 0),(.int .u8 0),(.int .u8 0),(.int .u8 0),(.int .u8 0),(.int .u8 0),(.int .u8 0),(.int .u8 0),(.int .u8 0),(.int .u8 0),(.int .u8 0),(.int .u8 0),(.int .u8 0),(.int .u8 0),(.int .u8 0),(.int .u8 0),(.int .u8 0),(.int .u8 0),(.int .u8 0),(.int .u8 0),(.int .u8 0),(.int .u8 0),(.int .u8 0),(.int .u8 0),(.int .u8 0),(.int .u8 0),(.int .u8 0),(.int .u8 0),(.int .u8 0),(.int .u8 0),(.int .u8 0),(.int .u8 0),(.int .u8 0),(.int .u8 0),(.int .u8 0),(.int .u8 0),(.int .u8 0),(.int .u8 0),(.int .u8 0),(.int .u8 0),(.int .u8 0),(.int .u8 0),(.int .u8 0),(.int .u8 0),(.int .u8 0),(.int .u8 0),(.int .u8 0),(.int .u8 0),(.int .u8 0),(.int .u8 0),(.int .u8 0),(.int .u8 0),(.int .u8 0),(.int .u8 0),(.int .u8 0),(.int .u8 0),(.int .u8 0),(.int .u8 0),(.int .u8 0),(.int .u8 0),(.int .u8 0),(.int .u8 0),(.int .u8 0)] 0))))) (.k x87)) h 88 kk) h λx88 h =>
 vguard x83 true (λkk=>vload false 1 x88 h kk) h λx89 h =>
 vguard x83 true (λkk=>vbin .neq 0 x89 (.v (.c (.p (.int .u8 0)))) h kk) h λx90 h =>
 vop O (.pick (.k x83) (.k x90) (.k (kB false))) h 91 λx91 h =>
 vif x91 (
 vbin .add 0 x12 (kI 1) h λx93 h =>
 R 6 [x0,x9,x10,x93] h)
 (R 5 [x0,x9,x10,x12,x12] h)
theorem e147_6(O R q x0 x9 x10 x12 h):b147_6 O R q x0 x9 x10 x12 h=stepF c147 O R q 6 [x0,x9,x10,x12] h:=by kernel_rfl
def b147_7(O:Oracle)(R:Jump)(q:Nat)(x0 x9 x10 x11:TVal)(h:Heap):Res1 :=
 vlen O 0 x0 h 97 λx97 h =>
 vbin .lss 0 x11 x97 h λx98 h =>
 vif x98 (
 vop O (.slice 0 true (.k x0) (some (.k x11)) none none) h 103 λx103 h =>
 viaddr 1 x9 x10 h λx104 h =>
 vstore 1 x104 x103 h λ_ h =>
 tcomp x9 λc0=>vfin true q [c0] h)
 (tcomp x9 λc0=>vfin true q [c0] h)
theorem e147_7(O R q x0 x9 x10 x11 h):b147_7 O R q x0 x9 x10 x11 h=stepF c147 O R q 7 [x0,x9,x10,x11] h:=by kernel_rfl
def d147:BlkF:=λO R Q=>[.s λa => .z (b147_0 O R Q a),.s λa => .s λb => .s λc => .s λd => .s λe => .z (b147_1 O R Q a b c d e),.s λa => .s λb => .s λc => .z (b147_2 O R Q a b c),.s λa => .s λb => .s λc => .s λd => .z (b147_3 O R Q a b c d),.s λa => .s λb => .s λc => .s λd => .z (b147_4 O R Q a b c d),.s λa => .s λb => .s λc => .s λd => .s λe => .z (b147_5 O R Q a b c d e),.s λa => .s λb => .s λc => .s λd => .z (b147_6 O R Q a b c d),.s λa => .s λb => .s λc => .s λd => .z (b147_7 O R Q a b c d)]
theorem o147(O:Oracle)(R:Jump)(q:Nat):HoldsAll c147 O R q 0 (d147 O R q):=⟨e147_0 O R q,e147_1 O R q,e147_2 O R q,e147_3 O R q,e147_4 O R q,e147_5 O R q,e147_6 O R q,e147_7 O R q,trivial⟩
def c148:MFunc:=mkM (compF Tryd.prog (globs2 tabs opq) (λ_=>false) true Tryd.f148) (.s .n (.k (.l 1 [0,1,2,3,8] (.s .n (.s (.k (.s .n (.k (.l 2 [0,1,2,3,8,9] .n)))) (.m 3 [0,1,2,3,8] .n))))))
theorem e148_0(O R q x0 x1 x2 x3 h):gI_0 5 148 149 164 170 123 O R q x0 x1 x2 x3 h=stepF c148 O R q 0 [x0,x1,x2,x3] h:=by kernel_rfl
theorem e148_1(O R q x0 x1 x2 x3 x8 h):gI_1 5 148 149 164 170 123 O R q x0 x1 x2 x3 x8 h=stepF c148 O R q 1 [x0,x1,x2,x3,x8] h:=by kernel_rfl
theorem e148_2(O R q x0 x1 x2 x3 x8 x9 h):gI_2 5 148 149 164 170 123 O R q x0 x1 x2 x3 x8 x9 h=stepF c148 O R q 2 [x0,x1,x2,x3,x8,x9] h:=by kernel_rfl
theorem e148_3(O R q x0 x1 x2 x3 x8 h):gI_3 5 148 149 164 170 123 O R q x0 x1 x2 x3 x8 h=stepF c148 O R q 3 [x0,x1,x2,x3,x8] h:=by kernel_rfl
def d148:BlkF:=λO R Q=>[.s λa => .s λb => .s λc => .s λd => .z (gI_0 5 148 149 164 170 123 O R Q a b c d),.s λa => .s λb => .s λc => .s λd => .s λe => .z (gI_1 5 148 149 164 170 123 O R Q a b c d e),.s λa => .s λb => .s λc => .s λd => .s λe => .s λf => .z (gI_2 5 148 149 164 170 123 O R Q a b c d e f),.s λa => .s λb => .s λc => .s λd => .s λe => .z (gI_3 5 148 149 164 170 123 O R Q a b c d e)]
theorem o148(O:Oracle)(R:Jump)(q:Nat):HoldsAll c148 O R q 0 (d148 O R q):=⟨e148_0 O R q,e148_1 O R q,e148_2 O R q,e148_3 O R q,trivial⟩
end
end Go.Proofs.YtnlmlcfipbnpgaaDoor.Ab
