/- Own work. Condition: what each theorem names. -/
import Derived.Test.YtnlmlcfipbnpgaaDoorTabT
namespace Go.Proofs.YtnlmlcfipbnpgaaDoor.Ab
open Go Go.AI
set_option linter.all false
set_option maxRecDepth 100000
theorem qW{f l:Nat}{c:MFunc}{v:List TVal}{b:Oracle->Jump->Nat->Heap->Res1}(k:tab.get f=some c)(e:∀ O R q h,b O R q h=stepF c O R q l v h)(S q h):lim tab.get S f q l v h=b (orc S (lim tab.get S)) (lim tab.get S f q) q h:=(qAA k q l v h).trans (e ..).symm
def k5:tab.get 5=some c5:=by kernel_rfl
def w5_0:=λx0 x1 x2 x3=>qW k5 (b:=λO R q=>b5_0 O R q x0 x1 x2 x3) (l:=0) (v:=[x0,x1,x2,x3]) λ_ _ _ _=>by kernel_rfl
def w5_1:=λx0 x1=>qW k5 (b:=λO R q=>b5_1 O R q x0 x1) (l:=1) (v:=[x0,x1]) λ_ _ _ _=>by kernel_rfl
def k10:tab.get 10=some c10:=by kernel_rfl
def w10_0:=qW k10 (e10_0 · · · ·)
def k11:tab.get 11=some c11:=by kernel_rfl
def w11_0:=λx0 x1=>qW k11 (b:=λO R q=>b11_0 O R q x0 x1) (l:=0) (v:=[x0,x1]) λ_ _ _ _=>by kernel_rfl
def w11_1:=λx0 x1 x2=>qW k11 (b:=λO R q=>b11_1 O R q x0 x1 x2) (l:=1) (v:=[x0,x1,x2]) λ_ _ _ _=>by kernel_rfl
def k12:tab.get 12=some c12:=by kernel_rfl
def w12_0:=λx0 x1 x2=>qW k12 (b:=λO R q=>b12_0 O R q x0 x1 x2) (l:=0) (v:=[x0,x1,x2]) λ_ _ _ _=>by kernel_rfl
def w12_1:=λx0 x1 x2 x3 x4=>qW k12 (b:=λO R q=>b12_1 O R q x0 x1 x2 x3 x4) (l:=1) (v:=[x0,x1,x2,x3,x4]) λ_ _ _ _=>by kernel_rfl
def w12_2:=λx0 x1 x2 x3 x4 x5 x6 x7=>qW k12 (b:=λO R q=>b12_2 O R q x0 x1 x2 x3 x4 x5 x6 x7) (l:=2) (v:=[x0,x1,x2,x3,x4,x5,x6,x7]) λ_ _ _ _=>by kernel_rfl
def w12_3:=λx0 x1 x2 x3 x4 x5 x6=>qW k12 (b:=λO R q=>b12_3 O R q x0 x1 x2 x3 x4 x5 x6) (l:=3) (v:=[x0,x1,x2,x3,x4,x5,x6]) λ_ _ _ _=>by kernel_rfl
def w12_4:=λx0 x1 x2 x3 x4 x5 x6=>qW k12 (b:=λO R q=>b12_4 O R q x0 x1 x2 x3 x4 x5 x6) (l:=4) (v:=[x0,x1,x2,x3,x4,x5,x6]) λ_ _ _ _=>by kernel_rfl
def w12_5:=λx0 x1 x2 x3 x4 x5 x6 x7=>qW k12 (b:=λO R q=>b12_5 O R q x0 x1 x2 x3 x4 x5 x6 x7) (l:=5) (v:=[x0,x1,x2,x3,x4,x5,x6,x7]) λ_ _ _ _=>by kernel_rfl
def w12_6:=λx0 x1=>qW k12 (b:=λO R q=>b12_6 O R q x0 x1) (l:=6) (v:=[x0,x1]) λ_ _ _ _=>by kernel_rfl
def k13:tab.get 13=some c13:=by kernel_rfl
def w13_0:=λx0 x1=>qW k13 (b:=λO R q=>b13_0 O R q x0 x1) (l:=0) (v:=[x0,x1]) λ_ _ _ _=>by kernel_rfl
def k14:tab.get 14=some c14:=by kernel_rfl
def w14_0:=λx0=>qW k14 (e14_0 · · · x0 ·)
def w14_1:=λx0 x1 x2 x3=>qW k14 (e14_1 · · · x0 x1 x2 x3 ·)
def k15:tab.get 15=some c15:=by kernel_rfl
def w15_0:=λx0=>qW k15 (b:=λO R q=>b15_0 O R q x0) (l:=0) (v:=[x0]) λ_ _ _ _=>by kernel_rfl
def w15_1:=λx0 x1 x2 x3=>qW k15 (b:=λO R q=>b15_1 O R q x0 x1 x2 x3) (l:=1) (v:=[x0,x1,x2,x3]) λ_ _ _ _=>by kernel_rfl
def k16:tab.get 16=some c16:=by kernel_rfl
def w16_0:=λx0=>qW k16 (e16_0 · · · x0 ·)
def k17:tab.get 17=some c17:=by kernel_rfl
def w17_0:=λx0 x1=>qW k17 (b:=λO R q=>b17_0 O R q x0 x1) (l:=0) (v:=[x0,x1]) λ_ _ _ _=>by kernel_rfl
def w17_1:=λx0 x1 x2=>qW k17 (b:=λO R q=>b17_1 O R q x0 x1 x2) (l:=1) (v:=[x0,x1,x2]) λ_ _ _ _=>by kernel_rfl
def w17_2:=λx0 x1=>qW k17 (b:=λO R q=>b17_2 O R q x0 x1) (l:=2) (v:=[x0,x1]) λ_ _ _ _=>by kernel_rfl
def w17_3:=λx0 x1 x2=>qW k17 (b:=λO R q=>b17_3 O R q x0 x1 x2) (l:=3) (v:=[x0,x1,x2]) λ_ _ _ _=>by kernel_rfl
def k18:tab.get 18=some c18:=by kernel_rfl
def w18_0:=λx0=>qW k18 (b:=λO R q=>b18_0 O R q x0) (l:=0) (v:=[x0]) λ_ _ _ _=>by kernel_rfl
def w18_1:=λx0 x1=>qW k18 (b:=λO R q=>b18_1 O R q x0 x1) (l:=1) (v:=[x0,x1]) λ_ _ _ _=>by kernel_rfl
def w18_2:=λx0 x1 x2=>qW k18 (b:=λO R q=>b18_2 O R q x0 x1 x2) (l:=2) (v:=[x0,x1,x2]) λ_ _ _ _=>by kernel_rfl
def w18_3:=λx0 x1 x2=>qW k18 (b:=λO R q=>b18_3 O R q x0 x1 x2) (l:=3) (v:=[x0,x1,x2]) λ_ _ _ _=>by kernel_rfl
def w18_4:=λx0=>qW k18 (b:=λO R q=>b18_4 O R q x0) (l:=4) (v:=[x0]) λ_ _ _ _=>by kernel_rfl
def k19:tab.get 19=some c19:=by kernel_rfl
def w19_0:=λx0 x1=>qW k19 (e19_0 · · · x0 x1 ·)
def k20:tab.get 20=some c20:=by kernel_rfl
def w20_0:=λx0=>qW k20 (b:=λO R q=>b20_0 O R q x0) (l:=0) (v:=[x0]) λ_ _ _ _=>by kernel_rfl
def k21:tab.get 21=some c21:=by kernel_rfl
def w21_0:=λx0=>qW k21 (b:=λO R q=>b21_0 O R q x0) (l:=0) (v:=[x0]) λ_ _ _ _=>by kernel_rfl
def k27:tab.get 27=some c27:=by kernel_rfl
def w27_0:=λx0 x1=>qW k27 (b:=λO R q=>b27_0 O R q x0 x1) (l:=0) (v:=[x0,x1]) λ_ _ _ _=>by kernel_rfl
def k28:tab.get 28=some c28:=by kernel_rfl
def w28_0:=λx0 x1 x2=>qW k28 (b:=λO R q=>b28_0 O R q x0 x1 x2) (l:=0) (v:=[x0,x1,x2]) λ_ _ _ _=>by kernel_rfl
def w28_1:=λx0 x1 x2 x3 x4=>qW k28 (b:=λO R q=>b28_1 O R q x0 x1 x2 x3 x4) (l:=1) (v:=[x0,x1,x2,x3,x4]) λ_ _ _ _=>by kernel_rfl
def w28_2:=λx0 x1 x2 x3 x4=>qW k28 (b:=λO R q=>b28_2 O R q x0 x1 x2 x3 x4) (l:=2) (v:=[x0,x1,x2,x3,x4]) λ_ _ _ _=>by kernel_rfl
def k29:tab.get 29=some c29:=by kernel_rfl
def w29_0:=λx0 x1=>qW k29 (b:=λO R q=>b29_0 O R q x0 x1) (l:=0) (v:=[x0,x1]) λ_ _ _ _=>by kernel_rfl
def w29_1:=λx0 x1 x2 x3=>qW k29 (b:=λO R q=>b29_1 O R q x0 x1 x2 x3) (l:=1) (v:=[x0,x1,x2,x3]) λ_ _ _ _=>by kernel_rfl
def k30:tab.get 30=some c30:=by kernel_rfl
def w30_0:=λx0 x1 x2=>qW k30 (b:=λO R q=>b30_0 O R q x0 x1 x2) (l:=0) (v:=[x0,x1,x2]) λ_ _ _ _=>by kernel_rfl
def w30_1:=λx0 x1 x2 x3 x4=>qW k30 (b:=λO R q=>b30_1 O R q x0 x1 x2 x3 x4) (l:=1) (v:=[x0,x1,x2,x3,x4]) λ_ _ _ _=>by kernel_rfl
def k31:tab.get 31=some c31:=by kernel_rfl
def w31_0:=λx0=>qW k31 (e31_0 · · · x0 ·)
def w31_1:=λx0 x1 x2 x3 x4=>qW k31 (e31_1 · · · x0 x1 x2 x3 x4 ·)
def w31_2:=λx0 x1 x2 x3 x4=>qW k31 (e31_2 · · · x0 x1 x2 x3 x4 ·)
def w31_3:=λx0=>qW k31 (e31_3 · · · x0 ·)
def k32:tab.get 32=some c32:=by kernel_rfl
def w32_0:=λx0=>qW k32 (e32_0 · · · x0 ·)
def k33:tab.get 33=some c33:=by kernel_rfl
def w33_0:=λx0=>qW k33 (e33_0 · · · x0 ·)
def k34:tab.get 34=some c34:=by kernel_rfl
def w34_0:=λx0 x1=>qW k34 (e34_0 · · · x0 x1 ·)
def w34_1:=λx0 x1 x2 x3=>qW k34 (e34_1 · · · x0 x1 x2 x3 ·)
def w34_2:=λx0 x1 x2 x3 x4=>qW k34 (e34_2 · · · x0 x1 x2 x3 x4 ·)
def w34_3:=λx0 x1=>qW k34 (e34_3 · · · x0 x1 ·)
def k35:tab.get 35=some c35:=by kernel_rfl
def w35_0:=λx0=>qW k35 (e35_0 · · · x0 ·)
def k36:tab.get 36=some c36:=by kernel_rfl
def w36_0:=λx0=>qW k36 (b:=λO R q=>b36_0 O R q x0) (l:=0) (v:=[x0]) λ_ _ _ _=>by kernel_rfl
def w36_1:=λx0 x1 x2=>qW k36 (b:=λO R q=>b36_1 O R q x0 x1 x2) (l:=1) (v:=[x0,x1,x2]) λ_ _ _ _=>by kernel_rfl
def w36_2:=λx0=>qW k36 (b:=λO R q=>b36_2 O R q x0) (l:=2) (v:=[x0]) λ_ _ _ _=>by kernel_rfl
def k37:tab.get 37=some c37:=by kernel_rfl
def w37_0:=λx0 x1=>qW k37 (b:=λO R q=>b37_0 O R q x0 x1) (l:=0) (v:=[x0,x1]) λ_ _ _ _=>by kernel_rfl
def k38:tab.get 38=some c38:=by kernel_rfl
def w38_0:=λx0=>qW k38 (b:=λO R q=>b38_0 O R q x0) (l:=0) (v:=[x0]) λ_ _ _ _=>by kernel_rfl
def w38_1:=λx0=>qW k38 (b:=λO R q=>b38_1 O R q x0) (l:=1) (v:=[x0]) λ_ _ _ _=>by kernel_rfl
def w38_2:=λx0=>qW k38 (b:=λO R q=>b38_2 O R q x0) (l:=2) (v:=[x0]) λ_ _ _ _=>by kernel_rfl
def k39:tab.get 39=some c39:=by kernel_rfl
def w39_0:=λx0 x1=>qW k39 (e39_0 · · · x0 x1 ·)
def k41:tab.get 41=some c41:=by kernel_rfl
def w41_0:=λx0 x1=>qW k41 (e41_0 · · · x0 x1 ·)
def k46:tab.get 46=some c46:=by kernel_rfl
def w46_0:=λx0 x1=>qW k46 (e46_0 · · · x0 x1 ·)
def k54:tab.get 54=some c54:=by kernel_rfl
def w54_0:=λx0=>qW k54 (e54_0 · · · x0 ·)
def w54_1:=λx0 x1 x2=>qW k54 (e54_1 · · · x0 x1 x2 ·)
def w54_2:=λx0 x1 x2=>qW k54 (e54_2 · · · x0 x1 x2 ·)
def w54_3:=λx0 x1 x2=>qW k54 (e54_3 · · · x0 x1 x2 ·)
def w54_4:=λx0=>qW k54 (e54_4 · · · x0 ·)
def k55:tab.get 55=some c55:=by kernel_rfl
def w55_0:=λx0=>qW k55 (e55_0 · · · x0 ·)
def k56:tab.get 56=some c56:=by kernel_rfl
def w56_0:=λx0 x1=>qW k56 (e56_0 · · · x0 x1 ·)
def k57:tab.get 57=some c57:=by kernel_rfl
def w57_0:=λx0 x1 x2=>qW k57 (e57_0 · · · x0 x1 x2 ·)
def w57_1:=λx0 x1 x2 x3 x4 x5 x6=>qW k57 (e57_1 · · · x0 x1 x2 x3 x4 x5 x6 ·)
def w57_2:=λx0 x1=>qW k57 (e57_2 · · · x0 x1 ·)
def k58:tab.get 58=some c58:=by kernel_rfl
def w58_0:=λx0=>qW k58 (e58_0 · · · x0 ·)
def k59:tab.get 59=some c59:=by kernel_rfl
def w59_0:=λx0 x1=>qW k59 (b:=λO R q=>b59_0 O R q x0 x1) (l:=0) (v:=[x0,x1]) λ_ _ _ _=>by kernel_rfl
def w59_1:=λx0 x1 x2 x3=>qW k59 (b:=λO R q=>b59_1 O R q x0 x1 x2 x3) (l:=1) (v:=[x0,x1,x2,x3]) λ_ _ _ _=>by kernel_rfl
def w59_2:=λx0 x1 x2 x3=>qW k59 (b:=λO R q=>b59_2 O R q x0 x1 x2 x3) (l:=2) (v:=[x0,x1,x2,x3]) λ_ _ _ _=>by kernel_rfl
def w59_3:=λx0 x1 x2 x3=>qW k59 (b:=λO R q=>b59_3 O R q x0 x1 x2 x3) (l:=3) (v:=[x0,x1,x2,x3]) λ_ _ _ _=>by kernel_rfl
def w59_4:=λx0 x1 x2 x3=>qW k59 (b:=λO R q=>b59_4 O R q x0 x1 x2 x3) (l:=4) (v:=[x0,x1,x2,x3]) λ_ _ _ _=>by kernel_rfl
def w59_5:=λx0 x1 x2=>qW k59 (b:=λO R q=>b59_5 O R q x0 x1 x2) (l:=5) (v:=[x0,x1,x2]) λ_ _ _ _=>by kernel_rfl
def w59_6:=λx0 x1 x2 x3 x4=>qW k59 (b:=λO R q=>b59_6 O R q x0 x1 x2 x3 x4) (l:=6) (v:=[x0,x1,x2,x3,x4]) λ_ _ _ _=>by kernel_rfl
def w59_7:=λx0=>qW k59 (b:=λO R q=>b59_7 O R q x0) (l:=7) (v:=[x0]) λ_ _ _ _=>by kernel_rfl
def k60:tab.get 60=some c60:=by kernel_rfl
def w60_0:=λx0 x1=>qW k60 (b:=λO R q=>b60_0 O R q x0 x1) (l:=0) (v:=[x0,x1]) λ_ _ _ _=>by kernel_rfl
def k61:tab.get 61=some c61:=by kernel_rfl
def w61_0:=λx0 x1=>qW k61 (b:=λO R q=>b61_0 O R q x0 x1) (l:=0) (v:=[x0,x1]) λ_ _ _ _=>by kernel_rfl
def k62:tab.get 62=some c62:=by kernel_rfl
def w62_0:=λx0 x1 x2=>qW k62 (b:=λO R q=>b62_0 O R q x0 x1 x2) (l:=0) (v:=[x0,x1,x2]) λ_ _ _ _=>by kernel_rfl
def w62_1:=λx0 x1 x2 x3=>qW k62 (b:=λO R q=>b62_1 O R q x0 x1 x2 x3) (l:=1) (v:=[x0,x1,x2,x3]) λ_ _ _ _=>by kernel_rfl
def w62_2:=λx0 x1 x2 x3 x4 x5 x6=>qW k62 (b:=λO R q=>b62_2 O R q x0 x1 x2 x3 x4 x5 x6) (l:=2) (v:=[x0,x1,x2,x3,x4,x5,x6]) λ_ _ _ _=>by kernel_rfl
def w62_3:=λx0 x1 x2 x3 x4 x5 x6=>qW k62 (b:=λO R q=>b62_3 O R q x0 x1 x2 x3 x4 x5 x6) (l:=3) (v:=[x0,x1,x2,x3,x4,x5,x6]) λ_ _ _ _=>by kernel_rfl
def w62_4:=λx0 x1 x2=>qW k62 (b:=λO R q=>b62_4 O R q x0 x1 x2) (l:=4) (v:=[x0,x1,x2]) λ_ _ _ _=>by kernel_rfl
def k63:tab.get 63=some c63:=by kernel_rfl
def w63_0:=λx0=>qW k63 (b:=λO R q=>b63_0 O R q x0) (l:=0) (v:=[x0]) λ_ _ _ _=>by kernel_rfl
def k64:tab.get 64=some c64:=by kernel_rfl
def w64_0:=λx0 x1 x2=>qW k64 (b:=λO R q=>b64_0 O R q x0 x1 x2) (l:=0) (v:=[x0,x1,x2]) λ_ _ _ _=>by kernel_rfl
def k65:tab.get 65=some c65:=by kernel_rfl
def w65_0:=λx0=>qW k65 (e65_0 · · · x0 ·)
def k66:tab.get 66=some c66:=by kernel_rfl
def w66_0:=λx0 x1 x2=>qW k66 (e66_0 · · · x0 x1 x2 ·)
def w66_1:=λx0 x1 x2=>qW k66 (e66_1 · · · x0 x1 x2 ·)
def w66_2:=λx0 x1=>qW k66 (e66_2 · · · x0 x1 ·)
def k69:tab.get 69=some c69:=by kernel_rfl
def w69_0:=λx0=>qW k69 (e69_0 · · · x0 ·)
def k71:tab.get 71=some c71:=by kernel_rfl
def w71_0:=λx0 x1=>qW k71 (e71_0 · · · x0 x1 ·)
def k84:tab.get 84=some c84:=by kernel_rfl
def w84_0:=λx0 x1=>qW k84 (e84_0 · · · x0 x1 ·)
def k85:tab.get 85=some c85:=by kernel_rfl
def w85_0:=λx0=>qW k85 (e85_0 · · · x0 ·)
def w85_1:=λx0 x1 x2 x3=>qW k85 (e85_1 · · · x0 x1 x2 x3 ·)
def k86:tab.get 86=some c86:=by kernel_rfl
def w86_0:=λx0 x1 x2=>qW k86 (e86_0 · · · x0 x1 x2 ·)
def k87:tab.get 87=some c87:=by kernel_rfl
def w87_0:=λx0 x1=>qW k87 (e87_0 · · · x0 x1 ·)
def k88:tab.get 88=some c88:=by kernel_rfl
def w88_0:=λx0 x1=>qW k88 (e88_0 · · · x0 x1 ·)
def k89:tab.get 89=some c89:=by kernel_rfl
def w89_0:=λx0=>qW k89 (e89_0 · · · x0 ·)
def k90:tab.get 90=some c90:=by kernel_rfl
def w90_0:=λx0=>qW k90 (e90_0 · · · x0 ·)
def k91:tab.get 91=some c91:=by kernel_rfl
def w91_0:=λx0=>qW k91 (b:=λO R q=>b91_0 O R q x0) (l:=0) (v:=[x0]) λ_ _ _ _=>by kernel_rfl
def w91_1:=λx0 x1=>qW k91 (b:=λO R q=>b91_1 O R q x0 x1) (l:=1) (v:=[x0,x1]) λ_ _ _ _=>by kernel_rfl
def w91_2:=λx0 x1 x2 x3=>qW k91 (b:=λO R q=>b91_2 O R q x0 x1 x2 x3) (l:=2) (v:=[x0,x1,x2,x3]) λ_ _ _ _=>by kernel_rfl
def w91_3:=λx0 x1=>qW k91 (b:=λO R q=>b91_3 O R q x0 x1) (l:=3) (v:=[x0,x1]) λ_ _ _ _=>by kernel_rfl
def k92:tab.get 92=some c92:=by kernel_rfl
def w92_0:=λx0 x1=>qW k92 (b:=λO R q=>b92_0 O R q x0 x1) (l:=0) (v:=[x0,x1]) λ_ _ _ _=>by kernel_rfl
def w92_1:=λx0 x1 x2=>qW k92 (b:=λO R q=>b92_1 O R q x0 x1 x2) (l:=1) (v:=[x0,x1,x2]) λ_ _ _ _=>by kernel_rfl
def w92_2:=λx0 x1 x2 x3 x4=>qW k92 (b:=λO R q=>b92_2 O R q x0 x1 x2 x3 x4) (l:=2) (v:=[x0,x1,x2,x3,x4]) λ_ _ _ _=>by kernel_rfl
def w92_3:=λx0 x1 x2=>qW k92 (b:=λO R q=>b92_3 O R q x0 x1 x2) (l:=3) (v:=[x0,x1,x2]) λ_ _ _ _=>by kernel_rfl
def k93:tab.get 93=some c93:=by kernel_rfl
def w93_0:=λx0 x1=>qW k93 (b:=λO R q=>b93_0 O R q x0 x1) (l:=0) (v:=[x0,x1]) λ_ _ _ _=>by kernel_rfl
def k99:tab.get 99=some c99:=by kernel_rfl
def w99_0:=λx0 x1=>qW k99 (e99_0 · · · x0 x1 ·)
def k107:tab.get 107=some c107:=by kernel_rfl
def w107_0:=λx0=>qW k107 (e107_0 · · · x0 ·)
def k108:tab.get 108=some c108:=by kernel_rfl
def w108_0:=λx0=>qW k108 (e108_0 · · · x0 ·)
def k118:tab.get 118=some c118:=by kernel_rfl
def w118_0:=λx0=>qW k118 (e118_0 · · · x0 ·)
def k119:tab.get 119=some c119:=by kernel_rfl
def w119_0:=λx0=>qW k119 (e119_0 · · · x0 ·)
def k120:tab.get 120=some c120:=by kernel_rfl
def w120_0:=λx0=>qW k120 (e120_0 · · · x0 ·)
def w120_1:=λx0 x1 x2 x3 x4=>qW k120 (e120_1 · · · x0 x1 x2 x3 x4 ·)
def w120_2:=λx0 x1 x2 x3=>qW k120 (e120_2 · · · x0 x1 x2 x3 ·)
def k121:tab.get 121=some c121:=by kernel_rfl
def w121_0:=λx0=>qW k121 (e121_0 · · · x0 ·)
def w121_1:=λx0 x1 x2 x3=>qW k121 (e121_1 · · · x0 x1 x2 x3 ·)
def w121_2:=λx0 x1 x2 x3=>qW k121 (e121_2 · · · x0 x1 x2 x3 ·)
def w121_3:=λx0=>qW k121 (e121_3 · · · x0 ·)
def k122:tab.get 122=some c122:=by kernel_rfl
def w122_0:=λx0=>qW k122 (e122_0 · · · x0 ·)
def w122_1:=λx0 x1 x2 x3 x4=>qW k122 (e122_1 · · · x0 x1 x2 x3 x4 ·)
def w122_2:=λx0 x1=>qW k122 (e122_2 · · · x0 x1 ·)
def k123:tab.get 123=some c123:=by kernel_rfl
def w123_0:=λx0 x1 x2=>qW k123 (e123_0 · · · x0 x1 x2 ·)
def w123_1:=λx0 x1 x2 x3 x4 x5=>qW k123 (e123_1 · · · x0 x1 x2 x3 x4 x5 ·)
def w123_2:=λx0 x1 x2 x3 x4=>qW k123 (e123_2 · · · x0 x1 x2 x3 x4 ·)
def w123_3:=λx0 x1 x2 x3=>qW k123 (e123_3 · · · x0 x1 x2 x3 ·)
def w123_4:=λx0 x1 x2 x3 x4 x5=>qW k123 (e123_4 · · · x0 x1 x2 x3 x4 x5 ·)
def w123_5:=λx0 x1 x2 x3 x4=>qW k123 (e123_5 · · · x0 x1 x2 x3 x4 ·)
def w123_6:=λx0 x1 x2 x3=>qW k123 (e123_6 · · · x0 x1 x2 x3 ·)
def k130:tab.get 130=some c130:=by kernel_rfl
def w130_0:=λx0 x1=>qW k130 (e130_0 · · · x0 x1 ·)
def k137:tab.get 137=some c137:=by kernel_rfl
def w137_0:=λx0 x1=>qW k137 (e137_0 · · · x0 x1 ·)
def w137_1:=λx0 x1 x2=>qW k137 (e137_1 · · · x0 x1 x2 ·)
def w137_2:=λx0=>qW k137 (e137_2 · · · x0 ·)
def k138:tab.get 138=some c138:=by kernel_rfl
def w138_0:=λx0=>qW k138 (e138_0 · · · x0 ·)
def k145:tab.get 145=some c145:=by kernel_rfl
def w145_0:=λx0 x1=>qW k145 (e145_0 · · · x0 x1 ·)
def k146:tab.get 146=some c146:=by kernel_rfl
def w146_0:=λx0=>qW k146 (e146_0 · · · x0 ·)
def k147:tab.get 147=some c147:=by kernel_rfl
def w147_0:=λx0=>qW k147 (e147_0 · · · x0 ·)
def w147_1:=λx0 x1 x2 x3 x4=>qW k147 (e147_1 · · · x0 x1 x2 x3 x4 ·)
def w147_2:=λx0 x1 x2=>qW k147 (e147_2 · · · x0 x1 x2 ·)
def w147_3:=λx0 x1 x2 x3=>qW k147 (e147_3 · · · x0 x1 x2 x3 ·)
def w147_4:=λx0 x1 x2 x3=>qW k147 (e147_4 · · · x0 x1 x2 x3 ·)
def w147_5:=λx0 x1 x2 x3 x4=>qW k147 (e147_5 · · · x0 x1 x2 x3 x4 ·)
def w147_6:=λx0 x1 x2 x3=>qW k147 (e147_6 · · · x0 x1 x2 x3 ·)
def w147_7:=λx0 x1 x2 x3=>qW k147 (e147_7 · · · x0 x1 x2 x3 ·)
def k148:tab.get 148=some c148:=by kernel_rfl
def w148_0:=λx0 x1 x2 x3=>qW k148 (e148_0 · · · x0 x1 x2 x3 ·)
def w148_1:=λx0 x1 x2 x3 x4=>qW k148 (e148_1 · · · x0 x1 x2 x3 x4 ·)
def w148_2:=λx0 x1 x2 x3 x4 x5=>qW k148 (e148_2 · · · x0 x1 x2 x3 x4 x5 ·)
def w148_3:=λx0 x1 x2 x3 x4=>qW k148 (e148_3 · · · x0 x1 x2 x3 x4 ·)
def k149:tab.get 149=some c149:=by kernel_rfl
def w149_0:=λx0 x1 x2 x3 x4=>qW k149 (e149_0 · · · x0 x1 x2 x3 x4 ·)
def w149_1:=λx0 x1 x2 x3 x4=>qW k149 (e149_1 · · · x0 x1 x2 x3 x4 ·)
def w149_2:=λx0 x1 x2=>qW k149 (e149_2 · · · x0 x1 x2 ·)
def w149_3:=λx0 x1 x2=>qW k149 (e149_3 · · · x0 x1 x2 ·)
def w149_4:=qW k149 (e149_4 · · · ·)
def w149_5:=λx0 x1 x2 x3 x4=>qW k149 (e149_5 · · · x0 x1 x2 x3 x4 ·)
def w149_6:=λx0 x1 x2 x3 x4=>qW k149 (e149_6 · · · x0 x1 x2 x3 x4 ·)
def w149_7:=λx0 x1 x2=>qW k149 (e149_7 · · · x0 x1 x2 ·)
def w149_8:=λx0 x1 x2=>qW k149 (e149_8 · · · x0 x1 x2 ·)
def w149_9:=qW k149 (e149_9 · · · ·)
def w149_10:=λx0 x1 x2 x3 x4=>qW k149 (e149_10 · · · x0 x1 x2 x3 x4 ·)
def w149_11:=λx0 x1 x2 x3 x4 x5 x6 x7 x8=>qW k149 (e149_11 · · · x0 x1 x2 x3 x4 x5 x6 x7 x8 ·)
def w149_12:=λx0 x1 x2 x3 x4 x5 x6 x7 x8 x9=>qW k149 (e149_12 · · · x0 x1 x2 x3 x4 x5 x6 x7 x8 x9 ·)
def w149_13:=λx0 x1 x2 x3 x4 x5 x6 x7=>qW k149 (e149_13 · · · x0 x1 x2 x3 x4 x5 x6 x7 ·)
def w149_14:=λx0 x1 x2 x3 x4 x5 x6=>qW k149 (e149_14 · · · x0 x1 x2 x3 x4 x5 x6 ·)
def w149_15:=λx0 x1 x2 x3 x4=>qW k149 (e149_15 · · · x0 x1 x2 x3 x4 ·)
def k161:tab.get 161=some c161:=by kernel_rfl
def w161_0:=λx0 x1=>qW k161 (e161_0 · · · x0 x1 ·)
def k164:tab.get 164=some c164:=by kernel_rfl
def w164_0:=λx0 x1 x2 x3 x4=>qW k164 (e164_0 · · · x0 x1 x2 x3 x4 ·)
def w164_1:=λx0 x1 x2 x3 x4=>qW k164 (e164_1 · · · x0 x1 x2 x3 x4 ·)
def w164_2:=λx0 x1 x2 x3=>qW k164 (e164_2 · · · x0 x1 x2 x3 ·)
def k170:tab.get 170=some c170:=by kernel_rfl
def w170_0:=λx0 x1 x2 x3 x4=>qW k170 (e170_0 · · · x0 x1 x2 x3 x4 ·)
def w170_1:=λx0 x1 x2 x3 x4=>qW k170 (e170_1 · · · x0 x1 x2 x3 x4 ·)
end Go.Proofs.YtnlmlcfipbnpgaaDoor.Ab
