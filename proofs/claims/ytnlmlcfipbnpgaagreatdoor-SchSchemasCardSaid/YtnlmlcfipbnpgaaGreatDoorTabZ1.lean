/- Own work. Condition: what each theorem names. -/
import Derived.Test.YtnlmlcfipbnpgaaGreatDoorTabZ0
namespace Go.Proofs.YtnlmlcfipbnpgaaGreatDoor.Ab
open Go Go.AI
noncomputable section
set_option linter.all false
set_option maxRecDepth 100000
def Ct:cg:=cF Tryz.f119 (.s .n (.s .n (.s .n (.s (.k (.l 1 [0,2,6,7] (.s .n (.k (.s .n (.s .n (.s .n (.s .n (.s (.k (.l 2 [0,2,6,7,8,9,10] .n)) (.m 3 [0,2,6,7,8,9,10] .n)))))))))) (.m 4 [0,6,7] .n)))))
def EH:mc:=λO R q x0 x1 x2 h=>bQ O (.alloc lQ false) h 6 λx6 h=>bQ O (.build lQ [(0,1,.k x1)]) h 14 λA h=>bQ O (.alloc lQ false) h 7 λx7 h=>bK 4 x7 A h λ_ h=>bE O (F_ 57) [x0,(kS [123])] h 16 λM h=>R 1 [x0,x2,x6,x7] h
def Ad:tf:=λO R q x0 x2 x6 x7 h=>bQ O (.cO (.k x0)) h 18 λU h=>bC 2 U h λaa h=>bz false 1 aa h λab h=>bw .eql 0 ab (kI 0) h λA h=>bo A true (bC 2 x7 h) h λad h=>bo A true (bz false 1 ad h) h λae h=>bo A true (cP O 2 ae h 25) h λaf h=>bo A true (bw .eql 0 af (kI 0) h) h λag h=>bo A true (λkk=>kk ag h) h λM h=>bo M true (λkk=>kk x0 h) h λah h=>bo M true (bE O (F_ 59) [ah,(kS [125])] h 29) h λai h=>bo A true (bQ O (.pick (.k M) (.k ai) (.k (kB false))) h 30) h λaj h=>bo A true (bQ O (.un .not (.k aj)) h 31) h λak h=>bQ O (.pick (.k A) (.k ak) (.k (kB false))) h 32 λal h=>cY al (bE O (F_ 61) [x0] h 34 λan h=>bE O (F_ 57) [x0,(kS [58])] h 36 λar h=>bw .add 0 x2 (kI 1) h λao h=>bE O (F_ 58) [x0,ao] h 40 λaq h=>bQ O (.alloc lQ false) h 9 λx9 h=>bK 4 x9 aq h λ_ h=>R 2 [x0,x2,x6,x7,an,x9,(kI 0)] h) (R 4 [x0,x6,x7] h)
def xp:Ga:=λO R q x0 x2 x6 x7 x8 x9 M h=>bC 2 x7 h λU h=>bz false 1 U h λaa h=>cP O 2 aa h 44 λab h=>bw .lss 0 M ab h λA h=>bo A true (bC 2 x7 h) h λad h=>bo A true (bz false 1 ad h) h λae h=>bo A true (λkk=>kk M h) h λaf h=>bo A true (bU 1 ae af h) h λag h=>bo A true (bz false 1 ag h) h λah h=>bo A true (λkk=>kk x8 h) h λai h=>bo A true (bw .lss 0 ah ai h) h λaj h=>bQ O (.pick (.k A) (.k aj) (.k (kB false))) h 54 λak h=>cY ak (bw .add 0 M (kI 1) h λal h=>R 2 [x0,x2,x6,x7,x8,x9,al] h) (R 3 [x0,x2,x6,x7,x8,x9,M] h)
def EG:Ga:=λO R q x0 x2 x6 x7 x8 x9 U h=>bQ O (.cO (.k x0)) h 59 λar h=>bC 3 ar h λau h=>bz false 1 au h λA h=>bo A false (λkk=>kk U h) h λaw h=>bo A false (bC 2 x7 h) h λax h=>bo A false (bz false 1 ax h) h λay h=>bo A false (cP O 2 ay h 66) h λaz h=>bo A false (bw .lss 0 aw az h) h λaA h=>bo A false (λkk=>kk aA h) h λM h=>bo M true (bC 2 x7 h) h λaB h=>bo M true (bz false 1 aB h) h λaC h=>bo M true (λkk=>kk U h) h λaD h=>bo M true (bU 1 aC aD h) h λaE h=>bo M true (bz false 1 aE h) h λaF h=>bo M true (λkk=>kk x8 h) h λaG h=>bo M true (bw .eql 0 aF aG h) h λaH h=>bo A false (bQ O (.pick (.k M) (.k aH) (.k (kB false))) h 76) h λaI h=>bQ O (.pick (.k A) (.k (kB true)) (.k aI)) h 77 λaJ h=>bQ O (.cO (.k x0)) h 78 λaK h=>bC 3 aK h λaL h=>bK 1 aL aJ h λ_ h=>bQ O (.cm 1 0 AH [] false) h 80 λaM h=>bC 2 x7 h λaN h=>bz false 1 aN h λaO h=>bQ O (.slice 1 false (.k aO) none (some (.k U)) none) h 84 λaP h=>bQ O (.append 1 16 false (.k aM) (.k aP)) h 85 λaQ h=>bQ O (.cm 4 0 lQ [] false) h 86 λaR h=>bC 3 x7 h λaS h=>bz false 1 aS h λaT h=>bQ O (.slice 4 false (.k aT) none (some (.k U)) none) h 90 λaU h=>bQ O (.append 4 72 false (.k aR) (.k aU)) h 91 λaV h=>br O (.mv (.k aQ)) h 92 λaW h t0 =>br O (.mv (.k x8)) h 93 λaX h t1 =>br O (.cm 1 1 AH [(0,.k aX)] false) h 94 λaY h t2 =>br O (.append 1 16 false (.k aW) (.k aY)) h 95 λaZ h t3 =>br O (.dG 2 (.k x7)) h 96 λba h t4 =>br O (.load false 1 (.k ba)) h 97 λbb h t5 =>br O (.mv (.k U)) h 98 λbc h t6 =>br O (.slice 1 false (.k bb) (some (.k bc)) none none) h 99 λbd h t7 =>br O (.append 1 16 false (.k aZ) (.k bd)) h 100 λaa h t8 =>br O (.mv (.k aV)) h 101 λab h t9 =>br O (.load true 4 (.k x9)) h 102 λad h t10 =>br O (.cm 4 1 lQ [(0,.k ad)] false) h 103 λae h t11 =>br O (.append 4 72 false (.k ab) (.k ae)) h 104 λaf h t12 =>br O (.dG 3 (.k x7)) h 105 λag h t13 =>br O (.load false 1 (.k ag)) h 106 λah h t14 =>br O (.mv (.k U)) h 107 λai h t15 =>br O (.slice 4 false (.k ah) (some (.k ai)) none none) h 108 λaj h t16 =>br O (.append 4 72 false (.k af) (.k aj)) h 109 λak h t17 =>br O (.dG 2 (.k x7)) h 110 λal h t18 =>br O (.store 1 (.k al) (.k aa)) h 1000000 λ_ h t19 =>br O (.dG 3 (.k x7)) h 111 λan h t20 =>br O (.store 1 (.k an) (.k ak)) h 1000000 λ_ h t21 =>bif da [t0,t1,t2,t3,t4,t5,t6,t7,t8,t9,t10,t11,t12,t13,t14,t15,t16,t17,t18,t19,t20,t21] [(2,5),(3,5),(2,10),(3,10),(8,10),(2,11),(3,11),(5,11),(8,11),(2,14),(3,14),(8,14),(11,14),(12,14)] then bE O (F_ 59) [x0,(kS [44])] h 113 λao h=>bQ O (.un .not (.k ao)) h 114 λaq h=>cY aq (R 4 [x0,x6,x7] h) (bE O (F_ 57) [x0,(kS [44])] h 116 λbf h=>R 1 [x0,x2,x6,x7] h) else none
def EF:mc:=λO R q x0 x6 x7 h=>bE O (F_ 57) [x0,(kS [125])] h 118 λM h=>bz true 4 x7 h λA h=>bK 4 x6 A h λ_ h=>cJ true 4 x6 h λU=>bS true q [U] h
def Wx:cg:=cF Tryz.f120 .n
def EB:mc:=λO R q x0 x1 x2 h=>bQ O (.alloc lQ false) h 6 λx6 h=>bE O (F_ 57) [x0,(kS [60])] h 9 λx9 h=>bw .add 0 x2 (kI 1) h λA h=>bE O (F_ 58) [x0,A] h 13 λM h=>bQ O (.alloc lQ false) h 7 λx7 h=>bK 4 x7 M h λ_ h=>bE O (F_ 57) [x0,(kS [62])] h 15 λad h=>bz true 4 x7 h λU h=>bQ O (.cm 4 1 lQ [(0,.k U)] false) h 18 λaa h=>bQ O (.build lQ [(0,1,.k x1),(3,1,.k aa)]) h 19 λab h=>bK 4 x6 ab h λ_ h=>cJ true 4 x6 h λc0=>bS true q [c0] h
def Iq:cg:=cF Tryz.f162 .n
def Ac:mP:=λO R q x0 x1 h=>bE O (F_ 230) [x0,x1] h 7 λx7 h=>bw .geq 0 x7 (kI 0) h λx8 h=>bI x8 λA=>bS true q [A] h
def Q0(O R q x0 x1 h):Ac O R q x0 x1 h=bM Iq O R q 0 [x0,x1] h:=bT
def d162:eL:=λO R Q=>[S2 (Ac O R Q)]
def qaP(O R q):cd Iq O R q 0 (d162 O R q):=⟨Q0 O R q,bB⟩
def Cs:cg:=cF Tryz.f176 (.s .n (.s (.s .n (.k (.s .n (.s .n (.s .n (.m 1 [0,2,5,16] .n)))))) .n))
def xo:me:=λO R q x0 h=>bQ O (.alloc od false) h 2 λx2 h=>eX x0 (kI 0) h λx7 h=>bE O (F_ 237) [x7] h 10 λab h=>cY ab (bE O (F_ 238) [x0] h 12 λU h=>fV U 0 h λad h=>fV U 1 h λae h=>fV U 2 h λaf h=>bK 4 x2 ad h λ_ h=>cJ true 4 x2 h λc0=>bI ae λc1=>bI af λc2=>bS true q [c0,c1,c2] h) (bE O (F_ 228) [x7] h 18 λaa h=>cY aa (R 1 [x0,x2,x7,aa] h) (bw .eql 0 x7 (.v (.c (.p (.int .u8 45)))) h λA h=>bo A true (λkk=>kk x0 h) h λag h=>bo A true (cP O 0 ag h 23) h λah h=>bo A true (bw .gtr 0 ah (kI 1) h) h λai h=>bQ O (.pick (.k A) (.k ai) (.k (kB false))) h 25 λM h=>bo M true (λkk=>kk x0 h) h λaj h=>bo M true (eX aj (kI 1) h) h λak h=>bo M true (bE O (F_ 228) [ak] h 29) h λal h=>bQ O (.pick (.k M) (.k al) (.k (kB false))) h 30 λan h=>R 1 [x0,x2,x7,an] h))
def QZ(O R q x0 h):xo O R q x0 h=bM Cs O R q 0 [x0] h:=bT
def xn:tf:=λO R q x0 x2 x5 aa h=>cY aa (bE O (F_ 239) [x0] h 32 λA h=>fV A 0 h λab h=>fV A 1 h λad h=>fV A 2 h λae h=>bK 4 x2 ab h λ_ h=>cJ true 4 x2 h λc0=>bI ad λc1=>bI ae λc2=>bS true q [c0,c1,c2] h) (bw .eql 0 x5 (.v (.c (.p (.int .u8 34)))) h λaf h=>cY af (bE O (F_ 240) [x0] h 40 λM h=>fV M 0 h λag h=>fV M 1 h λah h=>fV M 2 h λai h=>bK 4 x2 ag h λ_ h=>cJ true 4 x2 h λc0=>bI ah λc1=>bI ai λc2=>bS true q [c0,c1,c2] h) (bE O (F_ 241) [x0] h 45 λU h=>fV U 0 h λaj h=>fV U 1 h λak h=>fV U 2 h λal h=>bK 4 x2 aj h λ_ h=>cJ true 4 x2 h λc0=>bI ak λc1=>bI al λc2=>bS true q [c0,c1,c2] h))
def QY(O R q x0 x2 x5 A h):xn O R q x0 x2 x5 A h=bM Cs O R q 1 [x0,x2,x5,A] h:=bT
def d176:eL:=λO R Q=>[S1 (xo O R Q),S4 (xn O R Q)]
def qaO(O R q):cd Cs O R q 0 (d176 O R q):=⟨QZ O R q,QY O R q,bB⟩
def Io:cg:=Kb (lS Tryz.prog (jV th FX) (λn=>Nat.blt n 1000000) true Tryz.f177) .n
def uY:mc:=λO R q x0 x1 x2 h=>bz false 1 x0 h λx4 h=>bE O (F_ 110) [x4] h 5 λx5 h=>bQ O (.build zd [(0,1,.k x5)]) h 6 λx6 h=>bQ O (.alloc zd true) h 3 λx3 h=>bK 5 x3 x6 h λ_ h=>br O (.load false 1 (.k x0)) h 7 λx7 h t0 =>br O (.load false 1 (.k x0)) h 8 λx8 h t1 =>br O (.call (.k (F_ 46)) [.k x8,.k (kS [58])]) h 9 λx9 h t2 =>br O (.call (.k (F_ 43)) [.k x7,.k x9]) h 10 λah h t3 =>bif da [t0,t1,t2,t3] [(0,2)] then bz false 1 x0 h λA h=>bz false 1 x1 h λM h=>bw .add 0 M (kI 1) h λU h=>bE O (F_ 45) [A,U] h 14 λaa h=>bC 1 x3 h λab h=>bK 4 ab aa h λ_ h=>bz false 1 x2 h λad h=>bz true 5 x3 h λae h=>bQ O (.cm 5 1 zd [(0,.k ae)] true) h 18 λaf h=>bQ O (.append 5 88 true (.k ad) (.k af)) h 19 λag h=>bK 1 x2 ag h λ_ h=>bS true q [] h else none
def QX(O R q x0 x1 x2 h):uY O R q x0 x1 x2 h=bM Io O R q 0 [x0,x1,x2] h:=bT
def d177:eL:=λO R Q=>[S3 (uY O R Q)]
def qaN(O R q):cd Io O R q 0 (d177 O R q):=⟨QX O R q,bB⟩
def Il:cg:=cF Tryz.f178 .n
def QW(O R q x0 x1 h):uI 5 273 274 300 306 242 O R q x0 x1 h=bM Il O R q 0 [x0,x1] h:=bT
def d178:eL:=λO R Q=>[.s λa=>.s λb=>.z (uI 5 273 274 300 306 242 O R Q a b)]
def qaM(O R q):cd Il O R q 0 (d178 O R q):=⟨QW O R q,bB⟩
def Ik:cg:=cF Tryz.f179 .n
def xm:mP:=λO R q x0 x1 h=>bQ O (.box (.k x0) false) h 2 λx2 h=>bQ O (.box (.k x1) false) h 3 λx3 h=>bC 0 x2 h λx5 h=>bz false 1 x5 h λx6 h=>bC 0 x3 h λx7 h=>bz false 1 x7 h λx8 h=>bE O (F_ 51) [x6,x8] h 9 λx9 h=>bI x9 λA=>bS true q [A] h
def QV(O R q x0 x1 h):xm O R q x0 x1 h=bM Ik O R q 0 [x0,x1] h:=bT
def d179:eL:=λO R Q=>[S2 (xm O R Q)]
def qaL(O R q):cd Ik O R q 0 (d179 O R q):=⟨QV O R q,bB⟩
def vP:cg:=cF Tryz.f180 (.s .n (.k (.l 1 [0,1,2,3,8] (.s .n (.s (.k (.s .n (.k (.l 2 [0,1,2,3,8,9] .n)))) (.m 3 [0,1,2,3,8] .n))))))
def QU(O R q x0 x1 x2 x3 h):tF 5 180 181 243 275 113 O R q x0 x1 x2 x3 h=bM vP O R q 0 [x0,x1,x2,x3] h:=bT
def QT(O R q x0 x1 x2 x3 x8 h):ss 5 180 181 243 275 113 O R q x0 x1 x2 x3 x8 h=bM vP O R q 1 [x0,x1,x2,x3,x8] h:=bT
def QS(O R q x0 x1 x2 x3 x8 x9 h):sr 5 180 181 243 275 113 O R q x0 x1 x2 x3 x8 x9 h=bM vP O R q 2 [x0,x1,x2,x3,x8,x9] h:=bT
def QR(O R q x0 x1 x2 x3 x8 h):uH 5 180 181 243 275 113 O R q x0 x1 x2 x3 x8 h=bM vP O R q 3 [x0,x1,x2,x3,x8] h:=bT
def d180:eL:=λO R Q=>[.s λa=>.s λb=>.s λc=>.s λd=>.z (tF 5 180 181 243 275 113 O R Q a b c d),.s λa=>.s λb=>.s λc=>.s λd=>.s λe=>.z (ss 5 180 181 243 275 113 O R Q a b c d e),.s λa=>.s λb=>.s λc=>.s λd=>.s λe=>.s λf=>.z (sr 5 180 181 243 275 113 O R Q a b c d e f),.s λa=>.s λb=>.s λc=>.s λd=>.s λe=>.z (uH 5 180 181 243 275 113 O R Q a b c d e)]
def qaK(O R q):cd vP O R q 0 (d180 O R q):=⟨QU O R q,QT O R q,QS O R q,QR O R q,bB⟩
def ju:cg:=cF Tryz.f181 (.s (.s .n (.s (.s .n (.s .n (.s (.k (.l 1 [0,1,4,10,11] .n)) (.m 2 [0,1,10] (.s (.s .n (.k (.l 3 [0,10,13] .n))) (.m 4 [] .n)))))) .n)) (.m 5 [0,1,2,3,4] (.s (.s .n (.s (.s .n (.s .n (.s (.k (.l 6 [0,2,4,14,15] .n)) (.m 7 [0,2,14] (.s (.s .n (.k (.l 8 [0,14,17] .n))) (.m 9 [] .n)))))) .n)) (.m 10 [0,1,2,3,4] (.s .n (.s .n (.s .n (.s .n (.m 11 [0,1,2,3,4,18,19,20,21] (.s .n (.s (.k (.l 12 [0,1,2,3,4,18,19,20,21,22] .n)) (.m 13 [0,1,2,3,4,18,19,20] (.s .n (.s .n (.m 14 [0,1,3,4,18,20,24] (.s .n (.m 15 [0,3,4,18,24] .n)))))))))))))))))
def QQ(O R q x0 x1 x2 x3 x4 h):sq 5 180 181 243 275 113 O R q x0 x1 x2 x3 x4 h=bM ju O R q 0 [x0,x1,x2,x3,x4] h:=bT
def QP(O R q x0 x1 x4 A M h):tE 5 180 181 243 275 113 O R q x0 x1 x4 A M h=bM ju O R q 1 [x0,x1,x4,A,M] h:=bT
def QO(O R q x0 x1 A h):uG 5 180 181 243 275 113 O R q x0 x1 A h=bM ju O R q 2 [x0,x1,A] h:=bT
def QN(O R q x0 A M h):tD 5 180 181 243 275 113 O R q x0 A M h=bM ju O R q 3 [x0,A,M] h:=bT
def QM(O R q h):uF 5 180 181 243 275 113 O R q  h=bM ju O R q 4 [] h:=bT
def QL(O R q x0 x1 x2 x3 x4 h):tB 5 180 181 243 275 113 O R q x0 x1 x2 x3 x4 h=bM ju O R q 5 [x0,x1,x2,x3,x4] h:=bT
def QK(O R q x0 x2 x4 A M h):tA 5 180 181 243 275 113 O R q x0 x2 x4 A M h=bM ju O R q 6 [x0,x2,x4,A,M] h:=bT
def QJ(O R q x0 x2 A h):uD 5 180 181 243 275 113 O R q x0 x2 A h=bM ju O R q 7 [x0,x2,A] h:=bT
def QI(O R q x0 A M h):tz 5 180 181 243 275 113 O R q x0 A M h=bM ju O R q 8 [x0,A,M] h:=bT
def QH(O R q h):uC 5 180 181 243 275 113 O R q  h=bM ju O R q 9 [] h:=bT
def HV(O R q x0 x1 x2 x3 x4 h):pz 5 180 181 243 275 113 O R q x0 x1 x2 x3 x4 h=bM ju O R q 10 [x0,x1,x2,x3,x4] h:=bT
def HU(O R q x0 x1 x2 x3 x4 A M U aa h):oR 5 180 181 243 275 113 O R q x0 x1 x2 x3 x4 A M U aa h=bM ju O R q 11 [x0,x1,x2,x3,x4,A,M,U,aa] h:=bT
def HS(O R q x0 x1 x2 x3 x4 A M U aa ab h):nP 5 180 181 243 275 113 O R q x0 x1 x2 x3 x4 A M U aa ab h=bM ju O R q 12 [x0,x1,x2,x3,x4,A,M,U,aa,ab] h:=bT
def HR(O R q x0 x1 x2 x3 x4 A M U h):nO 5 180 181 243 275 113 O R q x0 x1 x2 x3 x4 A M U h=bM ju O R q 13 [x0,x1,x2,x3,x4,A,M,U] h:=bT
def HQ(O R q x0 x1 x3 x4 A M U h):nN 5 180 181 243 275 113 O R q x0 x1 x3 x4 A M U h=bM ju O R q 14 [x0,x1,x3,x4,A,M,U] h:=bT
def HP(O R q x0 x3 x4 A M h):nL 5 180 181 243 275 113 O R q x0 x3 x4 A M h=bM ju O R q 15 [x0,x3,x4,A,M] h:=bT
def d181:eL:=λO R Q=>[.s λa=>.s λb=>.s λc=>.s λd=>.s λe=>.z (sq 5 180 181 243 275 113 O R Q a b c d e),.s λa=>.s λb=>.s λc=>.s λd=>.s λe=>.z (tE 5 180 181 243 275 113 O R Q a b c d e),.s λa=>.s λb=>.s λc=>.z (uG 5 180 181 243 275 113 O R Q a b c),.s λa=>.s λb=>.s λc=>.z (tD 5 180 181 243 275 113 O R Q a b c),.z (uF 5 180 181 243 275 113 O R Q ),.s λa=>.s λb=>.s λc=>.s λd=>.s λe=>.z (tB 5 180 181 243 275 113 O R Q a b c d e),.s λa=>.s λb=>.s λc=>.s λd=>.s λe=>.z (tA 5 180 181 243 275 113 O R Q a b c d e),.s λa=>.s λb=>.s λc=>.z (uD 5 180 181 243 275 113 O R Q a b c),.s λa=>.s λb=>.s λc=>.z (tz 5 180 181 243 275 113 O R Q a b c),.z (uC 5 180 181 243 275 113 O R Q ),.s λa=>.s λb=>.s λc=>.s λd=>.s λe=>.z (pz 5 180 181 243 275 113 O R Q a b c d e),.s λa=>.s λb=>.s λc=>.s λd=>.s λe=>.s λf=>.s λg=>.s λh=>.s λi=>.z (oR 5 180 181 243 275 113 O R Q a b c d e f g h i),.s λa=>.s λb=>.s λc=>.s λd=>.s λe=>.s λf=>.s λg=>.s λh=>.s λi=>.s λj=>.z (nP 5 180 181 243 275 113 O R Q a b c d e f g h i j),.s λa=>.s λb=>.s λc=>.s λd=>.s λe=>.s λf=>.s λg=>.s λh=>.z (nO 5 180 181 243 275 113 O R Q a b c d e f g h),.s λa=>.s λb=>.s λc=>.s λd=>.s λe=>.s λf=>.s λg=>.z (nN 5 180 181 243 275 113 O R Q a b c d e f g),.s λa=>.s λb=>.s λc=>.s λd=>.s λe=>.z (nL 5 180 181 243 275 113 O R Q a b c d e)]
def qaJ(O R q):cd ju O R q 0 (d181 O R q):=⟨QQ O R q,QP O R q,QO O R q,QN O R q,QM O R q,QL O R q,QK O R q,QJ O R q,QI O R q,QH O R q,HV O R q,HU O R q,HS O R q,HR O R q,HQ O R q,HP O R q,bB⟩
def vO:cg:=cF Tryz.f182 (.s .n (.k (.l 1 [0,1,2,3,8] (.s .n (.s (.k (.s .n (.k (.l 2 [0,1,2,3,8,9] .n)))) (.m 3 [0,1,2,3,8] .n))))))
def QG(O R q x0 x1 x2 x3 h):tF 6 182 183 244 276 115 O R q x0 x1 x2 x3 h=bM vO O R q 0 [x0,x1,x2,x3] h:=bT
def QF(O R q x0 x1 x2 x3 x8 h):ss 6 182 183 244 276 115 O R q x0 x1 x2 x3 x8 h=bM vO O R q 1 [x0,x1,x2,x3,x8] h:=bT
def QD(O R q x0 x1 x2 x3 x8 x9 h):sr 6 182 183 244 276 115 O R q x0 x1 x2 x3 x8 x9 h=bM vO O R q 2 [x0,x1,x2,x3,x8,x9] h:=bT
def QC(O R q x0 x1 x2 x3 x8 h):uH 6 182 183 244 276 115 O R q x0 x1 x2 x3 x8 h=bM vO O R q 3 [x0,x1,x2,x3,x8] h:=bT
def d182:eL:=λO R Q=>[.s λa=>.s λb=>.s λc=>.s λd=>.z (tF 6 182 183 244 276 115 O R Q a b c d),.s λa=>.s λb=>.s λc=>.s λd=>.s λe=>.z (ss 6 182 183 244 276 115 O R Q a b c d e),.s λa=>.s λb=>.s λc=>.s λd=>.s λe=>.s λf=>.z (sr 6 182 183 244 276 115 O R Q a b c d e f),.s λa=>.s λb=>.s λc=>.s λd=>.s λe=>.z (uH 6 182 183 244 276 115 O R Q a b c d e)]
def qaI(O R q):cd vO O R q 0 (d182 O R q):=⟨QG O R q,QF O R q,QD O R q,QC O R q,bB⟩
def jt:cg:=cF Tryz.f183 (.s (.s .n (.s (.s .n (.s .n (.s (.k (.l 1 [0,1,4,10,11] .n)) (.m 2 [0,1,10] (.s (.s .n (.k (.l 3 [0,10,13] .n))) (.m 4 [] .n)))))) .n)) (.m 5 [0,1,2,3,4] (.s (.s .n (.s (.s .n (.s .n (.s (.k (.l 6 [0,2,4,14,15] .n)) (.m 7 [0,2,14] (.s (.s .n (.k (.l 8 [0,14,17] .n))) (.m 9 [] .n)))))) .n)) (.m 10 [0,1,2,3,4] (.s .n (.s .n (.s .n (.s .n (.m 11 [0,1,2,3,4,18,19,20,21] (.s .n (.s (.k (.l 12 [0,1,2,3,4,18,19,20,21,22] .n)) (.m 13 [0,1,2,3,4,18,19,20] (.s .n (.s .n (.m 14 [0,1,3,4,18,20,24] (.s .n (.m 15 [0,3,4,18,24] .n)))))))))))))))))
def QB(O R q x0 x1 x2 x3 x4 h):sq 6 182 183 244 276 115 O R q x0 x1 x2 x3 x4 h=bM jt O R q 0 [x0,x1,x2,x3,x4] h:=bT
def QA(O R q x0 x1 x4 A M h):tE 6 182 183 244 276 115 O R q x0 x1 x4 A M h=bM jt O R q 1 [x0,x1,x4,A,M] h:=bT
def Qz(O R q x0 x1 A h):uG 6 182 183 244 276 115 O R q x0 x1 A h=bM jt O R q 2 [x0,x1,A] h:=bT
def Qy(O R q x0 A M h):tD 6 182 183 244 276 115 O R q x0 A M h=bM jt O R q 3 [x0,A,M] h:=bT
def Qx(O R q h):uF 6 182 183 244 276 115 O R q  h=bM jt O R q 4 [] h:=bT
def Qw(O R q x0 x1 x2 x3 x4 h):tB 6 182 183 244 276 115 O R q x0 x1 x2 x3 x4 h=bM jt O R q 5 [x0,x1,x2,x3,x4] h:=bT
def Qv(O R q x0 x2 x4 A M h):tA 6 182 183 244 276 115 O R q x0 x2 x4 A M h=bM jt O R q 6 [x0,x2,x4,A,M] h:=bT
def Qu(O R q x0 x2 A h):uD 6 182 183 244 276 115 O R q x0 x2 A h=bM jt O R q 7 [x0,x2,A] h:=bT
def Qt(O R q x0 A M h):tz 6 182 183 244 276 115 O R q x0 A M h=bM jt O R q 8 [x0,A,M] h:=bT
def Qs(O R q h):uC 6 182 183 244 276 115 O R q  h=bM jt O R q 9 [] h:=bT
def HO(O R q x0 x1 x2 x3 x4 h):pz 6 182 183 244 276 115 O R q x0 x1 x2 x3 x4 h=bM jt O R q 10 [x0,x1,x2,x3,x4] h:=bT
def HN(O R q x0 x1 x2 x3 x4 A M U aa h):oR 6 182 183 244 276 115 O R q x0 x1 x2 x3 x4 A M U aa h=bM jt O R q 11 [x0,x1,x2,x3,x4,A,M,U,aa] h:=bT
def HM(O R q x0 x1 x2 x3 x4 A M U aa ab h):nP 6 182 183 244 276 115 O R q x0 x1 x2 x3 x4 A M U aa ab h=bM jt O R q 12 [x0,x1,x2,x3,x4,A,M,U,aa,ab] h:=bT
def HL(O R q x0 x1 x2 x3 x4 A M U h):nO 6 182 183 244 276 115 O R q x0 x1 x2 x3 x4 A M U h=bM jt O R q 13 [x0,x1,x2,x3,x4,A,M,U] h:=bT
def HK(O R q x0 x1 x3 x4 A M U h):nN 6 182 183 244 276 115 O R q x0 x1 x3 x4 A M U h=bM jt O R q 14 [x0,x1,x3,x4,A,M,U] h:=bT
def HJ(O R q x0 x3 x4 A M h):nL 6 182 183 244 276 115 O R q x0 x3 x4 A M h=bM jt O R q 15 [x0,x3,x4,A,M] h:=bT
def d183:eL:=λO R Q=>[.s λa=>.s λb=>.s λc=>.s λd=>.s λe=>.z (sq 6 182 183 244 276 115 O R Q a b c d e),.s λa=>.s λb=>.s λc=>.s λd=>.s λe=>.z (tE 6 182 183 244 276 115 O R Q a b c d e),.s λa=>.s λb=>.s λc=>.z (uG 6 182 183 244 276 115 O R Q a b c),.s λa=>.s λb=>.s λc=>.z (tD 6 182 183 244 276 115 O R Q a b c),.z (uF 6 182 183 244 276 115 O R Q ),.s λa=>.s λb=>.s λc=>.s λd=>.s λe=>.z (tB 6 182 183 244 276 115 O R Q a b c d e),.s λa=>.s λb=>.s λc=>.s λd=>.s λe=>.z (tA 6 182 183 244 276 115 O R Q a b c d e),.s λa=>.s λb=>.s λc=>.z (uD 6 182 183 244 276 115 O R Q a b c),.s λa=>.s λb=>.s λc=>.z (tz 6 182 183 244 276 115 O R Q a b c),.z (uC 6 182 183 244 276 115 O R Q ),.s λa=>.s λb=>.s λc=>.s λd=>.s λe=>.z (pz 6 182 183 244 276 115 O R Q a b c d e),.s λa=>.s λb=>.s λc=>.s λd=>.s λe=>.s λf=>.s λg=>.s λh=>.s λi=>.z (oR 6 182 183 244 276 115 O R Q a b c d e f g h i),.s λa=>.s λb=>.s λc=>.s λd=>.s λe=>.s λf=>.s λg=>.s λh=>.s λi=>.s λj=>.z (nP 6 182 183 244 276 115 O R Q a b c d e f g h i j),.s λa=>.s λb=>.s λc=>.s λd=>.s λe=>.s λf=>.s λg=>.s λh=>.z (nO 6 182 183 244 276 115 O R Q a b c d e f g h),.s λa=>.s λb=>.s λc=>.s λd=>.s λe=>.s λf=>.s λg=>.z (nN 6 182 183 244 276 115 O R Q a b c d e f g),.s λa=>.s λb=>.s λc=>.s λd=>.s λe=>.z (nL 6 182 183 244 276 115 O R Q a b c d e)]
def qaH(O R q):cd jt O R q 0 (d183 O R q):=⟨QB O R q,QA O R q,Qz O R q,Qy O R q,Qx O R q,Qw O R q,Qv O R q,Qu O R q,Qt O R q,Qs O R q,HO O R q,HN O R q,HM O R q,HL O R q,HK O R q,HJ O R q,bB⟩
def Ij:cg:=cF Tryz.f184 .n
def Aa:me:=λO R q x0 h=>bw .geq 0 x0 (.v (.c (.p (.int .u8 97)))) h λx4 h=>bo x4 true (λA=>A x0 h) h λx6 h=>bo x4 true (bw .leq 0 x6 (.v (.c (.p (.int .u8 122)))) h) h λx7 h=>bQ O (.pick (.k x4) (.k x7) (.k (kB false))) h 8 λx8 h=>bo x8 false (λA=>A x0 h) h λaa h=>bo x8 false (bw .geq 0 aa (.v (.c (.p (.int .u8 65)))) h) h λab h=>bo x8 false (λA=>A ab h) h λM h=>bo M true (λA=>A x0 h) h λad h=>bo M true (bw .leq 0 ad (.v (.c (.p (.int .u8 90)))) h) h λae h=>bo x8 false (bQ O (.pick (.k M) (.k ae) (.k (kB false))) h 15) h λaf h=>bQ O (.pick (.k x8) (.k (kB true)) (.k af)) h 16 λU h=>bo U false (λA=>A x0 h) h λag h=>bo U false (bw .eql 0 ag (.v (.c (.p (.int .u8 95)))) h) h λah h=>bQ O (.pick (.k U) (.k (kB true)) (.k ah)) h 20 λai h=>bI ai λc0=>bS true q [c0] h
def Qr(O R q x0 h):Aa O R q x0 h=bM Ij O R q 0 [x0] h:=bT
def d184:eL:=λO R Q=>[S1 (Aa O R Q)]
def qaG(O R q):cd Ij O R q 0 (d184 O R q):=⟨Qr O R q,bB⟩
def Ii:cg:=cF Tryz.f185 .n
def z8:me:=λO R q x0 h=>bw .geq 0 x0 (.v (.c (.p (.int .u8 48)))) h λx4 h=>bo x4 true (λA=>A x0 h) h λx6 h=>bo x4 true (bw .leq 0 x6 (.v (.c (.p (.int .u8 57)))) h) h λx7 h=>bQ O (.pick (.k x4) (.k x7) (.k (kB false))) h 8 λx8 h=>bI x8 λM=>bS true q [M] h
def Qq(O R q x0 h):z8 O R q x0 h=bM Ii O R q 0 [x0] h:=bT
def d185:eL:=λO R Q=>[S1 (z8 O R Q)]
def qaF(O R q):cd Ii O R q 0 (d185 O R q):=⟨Qq O R q,bB⟩
def D5:cg:=cF Tryz.f186 (.s .n (.s .n (.s .n (.m 1 [0,4] (.s .n (.s .n (.s (.s .n (.k (.l 2 [0,4,5,6] .n))) (.m 3 [0,5] .n))))))))
def El:me:=λO R q x0 h=>eX x0 (kI 0) h λx9 h=>bw .eql 0 x9 (.v (.c (.p (.int .u8 45)))) h λA h=>cY A (bQ O (.slice 0 true (.k x0) (some (.k (kI 1))) none none) h 12 λM h=>R 1 [x0,M] h) (R 1 [x0,x0] h)
def Ek:mP:=λO R q x0 x4 h=>cP O 0 x4 h 14 λA h=>bw .gtr 0 A (kI 19) h λM h=>cY M (bI (kI 0) λU=>bI (kI 4) λc1=>bS true q [U,c1] h) (R 2 [x0,x4,(.v (.c (.p (.int .u64 0)))),(kI 0)] h)
def z7:tf:=λO R q x0 x4 x5 x6 h=>cP O 0 x4 h 18 λA h=>bw .lss 0 x6 A h λM h=>cY M (bw .mul 0 x5 (.v (.c (.p (.int .u64 10)))) h λU h=>eX x4 x6 h λaa h=>bw .sub 0 aa (.v (.c (.p (.int .u8 48)))) h λab h=>gI .u64 ab h λad h=>bw .add 0 U ad h λae h=>bw .add 0 x6 (kI 1) h λaf h=>R 2 [x0,x4,ae,af] h) (R 3 [x0,x5] h)
def Ej:mP:=λO R q x0 x5 h=>eX x0 (kI 0) h λM h=>bw .eql 0 M (.v (.c (.p (.int .u8 45)))) h λU h=>cY U (bw .gtr 0 x5 (.v (.c (.p (.int .u64 9223372036854775808)))) h λaa h=>cY aa (bI (kI 0) λA=>bI (kI 11) λc1=>bS true q [A,c1] h) (bQ O (.un .neg (.k x5)) h 36 λab h=>gI .i64 ab h λad h=>bI ad λA=>bI (kI 0) λc1=>bS true q [A,c1] h)) (bw .gtr 0 x5 (.v (.c (.p (.int .u64 9223372036854775807)))) h λae h=>cY ae (bI (kI 0) λA=>bI (kI 11) λc1=>bS true q [A,c1] h) (gI .i64 x5 h λaf h=>bI af λA=>bI (kI 0) λc1=>bS true q [A,c1] h))
def D4:cg:=cF Tryz.f187 (.s .n (.s .n (.s .n (.s (.k (.l 1 [0,1,6] (.s .n (.k (.s .n (.s .n (.s .n (.s (.s .n (.k (.s .n (.m 2 [0,1,6,46,47] .n)))) (.m 3 [0,1,6] .n))))))))) .n))))
def Ei:mP:=λO R q x0 x1 h=>bw .add 0 x1 (kI 1) h λx9 h=>R 1 [x0,x9,(kS [])] h
def zZ:mc:=λO R q x0 x1 x6 h=>cP O 0 x0 h 12 λab h=>bw .lss 0 x1 ab h λad h=>cY ad (eX x0 x1 h λM h=>bw .eql 0 M (.v (.c (.p (.int .u8 34)))) h λae h=>cY ae (bw .add 0 x1 (kI 1) h λaf h=>bI x6 λU=>bI af λc1=>bS true q [U,c1] h) (bw .lss 0 M (.v (.c (.p (.int .u8 32)))) h λag h=>cY ag (bI (kS []) λU=>bI (kI (-1)) λc1=>bS true q [U,c1] h) (bw .neq 0 M (.v (.c (.p (.int .u8 92)))) h λah h=>cY ah (bw .add 0 x1 (kI 1) h λai h=>bQ O (.slice 0 true (.k x0) (some (.k x1)) (some (.k ai)) none) h 34 λaj h=>bw .add 0 x6 aj h λak h=>bw .add 0 x1 (kI 1) h λal h=>R 1 [x0,al,ak] h) (bw .add 0 x1 (kI 1) h λan h=>cP O 0 x0 h 41 λao h=>bw .geq 0 an ao h λaq h=>cY aq (bI (kS []) λU=>bI (kI (-1)) λc1=>bS true q [U,c1] h) (bw .add 0 x1 (kI 1) h λar h=>eX x0 ar h λA h=>bw .eql 0 A (.v (.c (.p (.int .u8 92)))) h λaa h=>cY aa (R 2 [x0,x1,x6,A,aa] h) (bw .eql 0 A (.v (.c (.p (.int .u8 34)))) h λau h=>R 2 [x0,x1,x6,A,au] h)))))) (bI (kS []) λU=>bI (kI (-1)) λc1=>bS true q [U,c1] h)
def zY:pg:=λO R q x0 x1 x6 A M h=>cY M (bw .add 0 x1 (kI 1) h λU h=>bw .add 0 x1 (kI 2) h λaa h=>bQ O (.slice 0 true (.k x0) (some (.k U)) (some (.k aa)) none) h 56 λab h=>bw .add 0 x6 ab h λad h=>R 3 [x0,x1,ad] h) (bw .eql 0 A (.v (.c (.p (.int .u8 110)))) h λae h=>cY ae (bw .add 0 x6 (kS [10]) h λaf h=>R 3 [x0,x1,af] h) (bw .eql 0 A (.v (.c (.p (.int .u8 116)))) h λag h=>cY ag (bw .add 0 x6 (kS [9]) h λah h=>R 3 [x0,x1,ah] h) (bI (kS []) λc0=>bI (kI (-1)) λc1=>bS true q [c0,c1] h)))
def Eh:mc:=λO R q x0 x1 x6 h=>bw .add 0 x1 (kI 2) h λA h=>R 1 [x0,A,x6] h
def Ih:cg:=cF Tryz.f228 .n
def zX:me:=λO R q x0 h=>bw .geq 0 x0 (.v (.c (.p (.int .u8 48)))) h λx4 h=>bo x4 true (λA=>A x0 h) h λx6 h=>bo x4 true (bw .leq 0 x6 (.v (.c (.p (.int .u8 57)))) h) h λx7 h=>bQ O (.pick (.k x4) (.k x7) (.k (kB false))) h 8 λx8 h=>bI x8 λM=>bS true q [M] h
def Qp(O R q x0 h):zX O R q x0 h=bM Ih O R q 0 [x0] h:=bT
def d228:eL:=λO R Q=>[S1 (zX O R Q)]
def qaE(O R q):cd Ih O R q 0 (d228 O R q):=⟨Qp O R q,bB⟩
def Ig:cg:=cF Tryz.f229 .n
def xk:me:=λO R q x0 h=>bE O (F_ 262) [x0,(F_ 263)] h 4 λx4 h=>bI x4 λA=>bS true q [A] h
def Qo(O R q x0 h):xk O R q x0 h=bM Ig O R q 0 [x0] h:=bT
def d229:eL:=λO R Q=>[S1 (xk O R Q)]
def qaD(O R q):cd Ig O R q 0 (d229 O R q):=⟨Qo O R q,bB⟩
def Ic:cg:=cF Tryz.f230 .n
def zW:mP:=λO R q x0 x1 h=>bE O (F_ 264) [x0,x1] h 7 λx7 h=>bI x7 λA=>bS true q [A] h
def Qn(O R q x0 x1 h):zW O R q x0 x1 h=bM Ic O R q 0 [x0,x1] h:=bT
def d230:eL:=λO R Q=>[S2 (zW O R Q)]
def qaC(O R q):cd Ic O R q 0 (d230 O R q):=⟨Qn O R q,bB⟩
def H9:cg:=cF Tryz.f237 .n
def zV:me:=λO R q x0 h=>bw .eql 0 x0 (.v (.c (.p (.int .u8 95)))) h λx4 h=>bo x4 false (λA=>A x0 h) h λx6 h=>bo x4 false (bw .or 0 x6 (.v (.c (.p (.int .u8 32)))) h) h λx7 h=>bo x4 false (bw .geq 0 x7 (.v (.c (.p (.int .u8 97)))) h) h λx8 h=>bo x4 false (λA=>A x8 h) h λx9 h=>bo x9 true (λA=>A x0 h) h λM h=>bo x9 true (bw .or 0 M (.v (.c (.p (.int .u8 32)))) h) h λU h=>bo x9 true (bw .leq 0 U (.v (.c (.p (.int .u8 122)))) h) h λaa h=>bo x4 false (bQ O (.pick (.k x9) (.k aa) (.k (kB false))) h 13) h λab h=>bQ O (.pick (.k x4) (.k (kB true)) (.k ab)) h 14 λad h=>bI ad λc0=>bS true q [c0] h
def Qm(O R q x0 h):zV O R q x0 h=bM H9 O R q 0 [x0] h:=bT
def d237:eL:=λO R Q=>[S1 (zV O R Q)]
def qaB(O R q):cd H9 O R q 0 (d237 O R q):=⟨Qm O R q,bB⟩
def H8:cg:=cF Tryz.f238 .n
def xj:me:=λO R q x0 h=>bQ O (.alloc od false) h 2 λx2 h=>bE O (F_ 229) [x0] h 7 λx7 h=>bw .gtr 0 x7 (kI 16) h λx9 h=>cY x9 (bQ O (.build od []) h 10 λA h=>bK 4 x2 A h λ_ h=>cJ true 4 x2 h λM=>bI (kI 0) λc1=>bI (kI 4) λc2=>bS true q [M,c1,c2] h) (bQ O (.slice 0 true (.k x0) none (some (.k x7)) none) h 13 λU h=>bQ O (.build od [(0,1,.k (kI 1)),(1,1,.k U)]) h 14 λaa h=>bK 4 x2 aa h λ_ h=>cJ true 4 x2 h λM=>bI x7 λc1=>bI (kI 0) λc2=>bS true q [M,c1,c2] h)
def Ql(O R q x0 h):xj O R q x0 h=bM H8 O R q 0 [x0] h:=bT
def d238:eL:=λO R Q=>[S1 (xj O R Q)]
def qaA(O R q):cd H8 O R q 0 (d238 O R q):=⟨Ql O R q,bB⟩
def yL:cg:=cF Tryz.f239 (.s .n (.s .n (.s .n (.s .n (.s .n (.s (.s .n (.k (.l 1 [2,5,6,7,29] .n))) (.m 2 [2,5,6,7] .n)))))))
def xi:me:=λO R q x0 h=>bQ O (.alloc od false) h 2 λx2 h=>cP O 0 x0 h 11 λU h=>bE O (F_ 269) [x0,(kS [45])] h 13 λaa h=>cP O 0 aa h 14 λab h=>bw .sub 0 U ab h λA h=>bQ O (.slice 0 true (.k x0) (some (.k A)) none none) h 18 λad h=>bE O (F_ 262) [ad,(F_ 228)] h 19 λM h=>bw .gtr 0 M (kI 19) h λae h=>cY ae (bQ O (.build od []) h 22 λaf h=>bK 4 x2 af h λ_ h=>cJ true 4 x2 h λc0=>bI (kI 0) λc1=>bI (kI 4) λc2=>bS true q [c0,c1,c2] h) (bw .add 0 A M h λag h=>bQ O (.slice 0 true (.k x0) (some (.k A)) (some (.k ag)) none) h 28 λah h=>bQ O (.ng (.k ah)) h 29 λai h=>R 1 [x2,A,M,(.v (.c (.p (.int .u64 0)))),ai] h)
def Qk(O R q x0 h):xi O R q x0 h=bM yL O R q 0 [x0] h:=bT
def uX:pg:=λO R q x2 x5 x6 x7 A h=>bQ O (.mD (.k A)) h 30 λM h=>fV M 0 h λU h=>cY U (fV M 2 h λaa h=>bw .mul 0 (.v (.c (.p (.int .u64 10)))) x7 h λab h=>bw .sub 0 aa (.v (.c (.p (.int .i32 48)))) h λad h=>gI .u64 ad h λae h=>bw .add 0 ab ae h λaf h=>R 1 [x2,x5,x6,af,A] h) (R 2 [x2,x5,x6,x7] h)
def Qj(O R q x2 x5 x6 x7 A h):uX O R q x2 x5 x6 x7 A h=bM yL O R q 1 [x2,x5,x6,x7,A] h:=bT
def xh:tf:=λO R q x2 x5 x6 x7 h=>gI .u64 x5 h λM h=>bw .add 0 (.v (.c (.p (.int .u64 9223372036854775807)))) M h λU h=>bw .gtr 0 x7 U h λaa h=>cY aa (bQ O (.build od []) h 45 λab h=>bK 4 x2 ab h λ_ h=>cJ true 4 x2 h λA=>bI (kI 0) λc1=>bI (kI 11) λc2=>bS true q [A,c1,c2] h) (bw .gtr 0 x5 (kI 0) h λad h=>cY ad (gI .i64 x7 h λae h=>bQ O (.un .neg (.k ae)) h 51 λaf h=>bQ O (.build od [(0,1,.k (kI 3)),(2,1,.k af)]) h 52 λag h=>bw .add 0 x5 x6 h λah h=>bK 4 x2 ag h λ_ h=>cJ true 4 x2 h λA=>bI ah λc1=>bI (kI 0) λc2=>bS true q [A,c1,c2] h) (gI .i64 x7 h λai h=>bQ O (.build od [(0,1,.k (kI 3)),(2,1,.k ai)]) h 58 λaj h=>bK 4 x2 aj h λ_ h=>cJ true 4 x2 h λA=>bI x6 λc1=>bI (kI 0) λc2=>bS true q [A,c1,c2] h))
def Qi(O R q x2 x5 x6 x7 h):xh O R q x2 x5 x6 x7 h=bM yL O R q 2 [x2,x5,x6,x7] h:=bT
def d239:eL:=λO R Q=>[S1 (xi O R Q),S5 (uX O R Q),S4 (xh O R Q)]
def qaz(O R q):cd yL O R q 0 (d239 O R q):=⟨Qk O R q,Qj O R q,Qi O R q,bB⟩
def vN:cg:=cF Tryz.f240 (.s .n (.s .n (.s (.s .n (.k (.l 1 [0,2,5,6] (.s .n (.s .n (.m 2 [0,2,5,6] .n)))))) (.m 3 [2] .n))))
def xg:me:=λO R q x0 h=>bQ O (.alloc od false) h 2 λx2 h=>R 1 [x0,x2,(.v (.c (.p .bq))),(kI 1)] h
def Qh(O R q x0 h):xg O R q x0 h=bM vN O R q 0 [x0] h:=bT
def sE:tf:=λO R q x0 x2 x5 x6 h=>cP O 0 x0 h 12 λab h=>bw .lss 0 x6 ab h λad h=>cY ad (eX x0 x6 h λM h=>bw .lss 0 M (.v (.c (.p (.int .u8 32)))) h λae h=>cY ae (bQ O (.build od []) h 26 λaf h=>bK 4 x2 af h λ_ h=>cJ true 4 x2 h λc0=>bI (kI 0) λc1=>bI (kI 11) λc2=>bS true q [c0,c1,c2] h) (bw .eql 0 M (.v (.c (.p (.int .u8 34)))) h λU h=>bo U true (λkk=>kk x5 h) h λag h=>bo U true (cP O 2 ag h 32) h λah h=>bo U true (bw .gtr 0 ah (kI 200) h) h λai h=>bQ O (.pick (.k U) (.k ai) (.k (kB false))) h 34 λaj h=>cY aj (bQ O (.build od []) h 35 λak h=>bK 4 x2 ak h λ_ h=>cJ true 4 x2 h λc0=>bI (kI 0) λc1=>bI (kI 4) λc2=>bS true q [c0,c1,c2] h) (bw .eql 0 M (.v (.c (.p (.int .u8 34)))) h λal h=>cY al (bQ O (.toStr (.k x5)) h 40 λan h=>bQ O (.build od [(0,1,.k (kI 2)),(1,1,.k an)]) h 41 λao h=>bw .add 0 x6 (kI 1) h λaq h=>bK 4 x2 ao h λ_ h=>cJ true 4 x2 h λc0=>bI aq λc1=>bI (kI 0) λc2=>bS true q [c0,c1,c2] h) (bw .eql 0 M (.v (.c (.p (.int .u8 92)))) h λA h=>bo A true (λkk=>kk x6 h) h λar h=>bo A true (bw .add 0 ar (kI 1) h) h λau h=>bo A true (λkk=>kk x0 h) h λaw h=>bo A true (cP O 0 aw h 51) h λax h=>bo A true (bw .lss 0 au ax h) h λay h=>bQ O (.pick (.k A) (.k ay) (.k (kB false))) h 53 λaz h=>cY az (bw .add 0 x6 (kI 1) h λaA h=>eX x0 aA h λaB h=>bE O (F_ 270) [aB] h 59 λaa h=>fV aa 0 h λaC h=>fV aa 1 h λaD h=>bQ O (.un .not (.k aD)) h 63 λaE h=>cY aE (bQ O (.build od []) h 64 λaF h=>bK 4 x2 aF h λ_ h=>cJ true 4 x2 h λc0=>bI (kI 0) λc1=>bI (kI 11) λc2=>bS true q [c0,c1,c2] h) (bQ O (.cm 1 1 [(.p (.int .u8 0))] [(0,.k aC)] false) h 67 λaG h=>bQ O (.append 1 1 false (.k x5) (.k aG)) h 68 λaH h=>bw .add 0 x6 (kI 1) h λaI h=>R 2 [x0,x2,aH,aI] h)) (bQ O (.cm 1 1 [(.p (.int .u8 0))] [(0,.k M)] false) h 21 λaJ h=>bQ O (.append 1 1 false (.k x5) (.k aJ)) h 22 λaK h=>R 2 [x0,x2,aK,x6] h))))) (R 3 [x2] h)
def Qg(O R q x0 x2 x5 x6 h):sE O R q x0 x2 x5 x6 h=bM vN O R q 1 [x0,x2,x5,x6] h:=bT
def xf:tf:=λO R q x0 x2 x5 x6 h=>bw .add 0 x6 (kI 1) h λA h=>R 1 [x0,x2,x5,A] h
def Qf(O R q x0 x2 x5 x6 h):xf O R q x0 x2 x5 x6 h=bM vN O R q 2 [x0,x2,x5,x6] h:=bT
def uW:me:=λO R q x2 h=>bQ O (.build od []) h 71 λA h=>bK 4 x2 A h λ_ h=>cJ true 4 x2 h λM=>bI (kI 0) λc1=>bI (kI 11) λc2=>bS true q [M,c1,c2] h
def Qe(O R q x2 h):uW O R q x2 h=bM vN O R q 3 [x2] h:=bT
def d240:eL:=λO R Q=>[S1 (xg O R Q),S4 (sE O R Q),S4 (xf O R Q),S1 (uW O R Q)]
def qay(O R q):cd vN O R q 0 (d240 O R q):=⟨Qh O R q,Qg O R q,Qf O R q,Qe O R q,bB⟩
def yK:cg:=cF Tryz.f241 (.s .n (.s (.s .n (.k (.l 1 [0,2,7,8,9] .n))) (.m 2 [0,2] .n)))
def xe:me:=λO R q x0 h=>bQ O (.alloc od false) h 2 λx2 h=>bE O (F_ 271) [(kS [45,62,32,58,61])] h 7 λx7 h=>cP O 2 x7 h 8 λx8 h=>R 1 [x0,x2,x7,x8,(kI 0)] h
def Qd(O R q x0 h):xe O R q x0 h=bM yK O R q 0 [x0] h:=bT
def uV:pg:=λO R q x0 x2 x7 x8 x9 h=>bw .lss 0 x9 x8 h λM h=>cY M (bU 1 x7 x9 h λU h=>bz false 1 U h λA h=>bE O (F_ 272) [x0,A] h 15 λaa h=>cY aa (bQ O (.build od [(0,1,.k (kI 4)),(1,1,.k A)]) h 17 λab h=>cP O 0 A h 19 λad h=>bK 4 x2 ab h λ_ h=>cJ true 4 x2 h λc0=>bI ad λc1=>bI (kI 0) λc2=>bS true q [c0,c1,c2] h) (bw .add 0 x9 (kI 1) h λae h=>R 1 [x0,x2,x7,x8,ae] h)) (R 2 [x0,x2] h)
def Qb(O R q x0 x2 x7 x8 x9 h):uV O R q x0 x2 x7 x8 x9 h=bM yK O R q 1 [x0,x2,x7,x8,x9] h:=bT
def xd:mP:=λO R q x0 x2 h=>bQ O (.slice 0 true (.k x0) none (some (.k (kI 1))) none) h 22 λA h=>bE O (F_ 162) [(kS [123,125,60,62,44,58,40,41,46,36,124,61,59]),A] h 23 λM h=>bQ O (.un .not (.k M)) h 24 λU h=>cY U (bQ O (.build od []) h 25 λaa h=>bK 4 x2 aa h λ_ h=>cJ true 4 x2 h λc0=>bI (kI 0) λc1=>bI (kI 11) λc2=>bS true q [c0,c1,c2] h) (bQ O (.slice 0 true (.k x0) none (some (.k (kI 1))) none) h 27 λab h=>bQ O (.build od [(0,1,.k (kI 4)),(1,1,.k ab)]) h 28 λad h=>bK 4 x2 ad h λ_ h=>cJ true 4 x2 h λc0=>bI (kI 1) λc1=>bI (kI 0) λc2=>bS true q [c0,c1,c2] h)
def Qa(O R q x0 x2 h):xd O R q x0 x2 h=bM yK O R q 2 [x0,x2] h:=bT
def d241:eL:=λO R Q=>[S1 (xe O R Q),S5 (uV O R Q),S2 (xd O R Q)]
def qax(O R q):cd yK O R q 0 (d241 O R q):=⟨Qd O R q,Qb O R q,Qa O R q,bB⟩
def p7:cg:=cF Tryz.f242 (.s .n (.s .n (.s (.k (.l 1 [0,1,2,6,7,8] .n)) (.m 2 [0,1,2,6,7] (.s .n (.k (.l 3 [0,1,2,6] (.s .n (.k (.s .n (.s (.k (.l 4 [0,1,2,6,7,8] .n)) (.m 5 [0,1,2,6,7] (.s .n (.m 6 [0,1,2,6] .n))))))))))))))
def P9(O R q x0 x1 x2 h):ux 5 273 274 300 306 242 O R q x0 x1 x2 h=bM p7 O R q 0 [x0,x1,x2] h:=bT
def P8(O R q x0 x1 x2 x6 x7 x8 h):tv 5 273 274 300 306 242 O R q x0 x1 x2 x6 x7 x8 h=bM p7 O R q 1 [x0,x1,x2,x6,x7,x8] h:=bT
def P7(O R q x0 x1 x2 x6 x7 h):uw 5 273 274 300 306 242 O R q x0 x1 x2 x6 x7 h=bM p7 O R q 2 [x0,x1,x2,x6,x7] h:=bT
def PW(O R q x0 x1 x2 x6 h):tu 5 273 274 300 306 242 O R q x0 x1 x2 x6 h=bM p7 O R q 3 [x0,x1,x2,x6] h:=bT
def PV(O R q x0 x1 x2 x6 x7 x8 h):rz 5 273 274 300 306 242 O R q x0 x1 x2 x6 x7 x8 h=bM p7 O R q 4 [x0,x1,x2,x6,x7,x8] h:=bT
def PU(O R q x0 x1 x2 x6 x7 h):sk 5 273 274 300 306 242 O R q x0 x1 x2 x6 x7 h=bM p7 O R q 5 [x0,x1,x2,x6,x7] h:=bT
def PS(O R q x0 x1 x2 x6 h):uv 5 273 274 300 306 242 O R q x0 x1 x2 x6 h=bM p7 O R q 6 [x0,x1,x2,x6] h:=bT
def d242:eL:=λO R Q=>[.s λa=>.s λb=>.s λc=>.z (ux 5 273 274 300 306 242 O R Q a b c),.s λa=>.s λb=>.s λc=>.s λd=>.s λe=>.s λf=>.z (tv 5 273 274 300 306 242 O R Q a b c d e f),.s λa=>.s λb=>.s λc=>.s λd=>.s λe=>.z (uw 5 273 274 300 306 242 O R Q a b c d e),.s λa=>.s λb=>.s λc=>.s λd=>.z (tu 5 273 274 300 306 242 O R Q a b c d),.s λa=>.s λb=>.s λc=>.s λd=>.s λe=>.s λf=>.z (rz 5 273 274 300 306 242 O R Q a b c d e f),.s λa=>.s λb=>.s λc=>.s λd=>.s λe=>.z (sk 5 273 274 300 306 242 O R Q a b c d e),.s λa=>.s λb=>.s λc=>.s λd=>.z (uv 5 273 274 300 306 242 O R Q a b c d)]
def qaw(O R q):cd p7 O R q 0 (d242 O R q):=⟨P9 O R q,P8 O R q,P7 O R q,PW O R q,PV O R q,PU O R q,PS O R q,bB⟩
def yJ:cg:=cF Tryz.f243 (.s .n (.s .n (.s (.k (.l 1 [0,2,4,10,11] .n)) (.m 2 [0,2,4,10] .n))))
def PR(O R q x0 x1 x2 x3 x4 h):uB 5 180 181 243 275 113 O R q x0 x1 x2 x3 x4 h=bM yJ O R q 0 [x0,x1,x2,x3,x4] h:=bT
def PQ(O R q x0 x2 x4 A M h):sn 5 180 181 243 275 113 O R q x0 x2 x4 A M h=bM yJ O R q 1 [x0,x2,x4,A,M] h:=bT
def PO(O R q x0 x2 x4 A h):uA 5 180 181 243 275 113 O R q x0 x2 x4 A h=bM yJ O R q 2 [x0,x2,x4,A] h:=bT
def d243:eL:=λO R Q=>[.s λa=>.s λb=>.s λc=>.s λd=>.s λe=>.z (uB 5 180 181 243 275 113 O R Q a b c d e),.s λa=>.s λb=>.s λc=>.s λd=>.s λe=>.z (sn 5 180 181 243 275 113 O R Q a b c d e),.s λa=>.s λb=>.s λc=>.s λd=>.z (uA 5 180 181 243 275 113 O R Q a b c d)]
def qav(O R q):cd yJ O R q 0 (d243 O R q):=⟨PR O R q,PQ O R q,PO O R q,bB⟩
def yI:cg:=cF Tryz.f244 (.s .n (.s .n (.s (.k (.l 1 [0,2,4,10,11] .n)) (.m 2 [0,2,4,10] .n))))
def PN(O R q x0 x1 x2 x3 x4 h):uB 6 182 183 244 276 115 O R q x0 x1 x2 x3 x4 h=bM yI O R q 0 [x0,x1,x2,x3,x4] h:=bT
def PM(O R q x0 x2 x4 A M h):sn 6 182 183 244 276 115 O R q x0 x2 x4 A M h=bM yI O R q 1 [x0,x2,x4,A,M] h:=bT
def PL(O R q x0 x2 x4 A h):uA 6 182 183 244 276 115 O R q x0 x2 x4 A h=bM yI O R q 2 [x0,x2,x4,A] h:=bT
def d244:eL:=λO R Q=>[.s λa=>.s λb=>.s λc=>.s λd=>.s λe=>.z (uB 6 182 183 244 276 115 O R Q a b c d e),.s λa=>.s λb=>.s λc=>.s λd=>.s λe=>.z (sn 6 182 183 244 276 115 O R Q a b c d e),.s λa=>.s λb=>.s λc=>.s λd=>.z (uA 6 182 183 244 276 115 O R Q a b c d)]
def qau(O R q):cd yI O R q 0 (d244 O R q):=⟨PN O R q,PM O R q,PL O R q,bB⟩
def yH:cg:=cF Tryz.f262 (.s .n (.s (.s .n (.k (.l 1 [0,1,7] .n))) (.m 2 [0] .n)))
def xc:mP:=λO R q x0 x1 h=>bQ O (.ng (.k x0)) h 7 λx7 h=>R 1 [x0,x1,x7] h
def PK(O R q x0 x1 h):xc O R q x0 x1 h=bM yH O R q 0 [x0,x1] h:=bT
def uU:mc:=λO R q x0 x1 x7 h=>bQ O (.mD (.k x7)) h 8 λx8 h=>fV x8 0 h λx9 h=>cY x9 (fV x8 1 h λA h=>eX x0 A h λM h=>bE O x1 [M] h 15 λU h=>bQ O (.un .not (.k U)) h 16 λaa h=>cY aa (bI A λc0=>bS true q [c0] h) (R 1 [x0,x1,x7] h)) (R 2 [x0] h)
def PJ(O R q x0 x1 x7 h):uU O R q x0 x1 x7 h=bM yH O R q 1 [x0,x1,x7] h:=bT
def xb:me:=λO R q x0 h=>cP O 0 x0 h 19 λA h=>bI A λM=>bS true q [M] h
def PI(O R q x0 h):xb O R q x0 h=bM yH O R q 2 [x0] h:=bT
def d262:eL:=λO R Q=>[S2 (xc O R Q),S3 (uU O R Q),S1 (xb O R Q)]
def qat(O R q):cd yH O R q 0 (d262 O R q):=⟨PK O R q,PJ O R q,PI O R q,bB⟩
def H7:cg:=cF Tryz.f263 .n
def zU:me:=λO R q x0 h=>bE O (F_ 237) [x0] h 4 λx4 h=>bo x4 false (λA=>A x0 h) h λx6 h=>bo x4 false (bE O (F_ 228) [x6] h 7) h λx7 h=>bQ O (.pick (.k x4) (.k (kB true)) (.k x7)) h 8 λx8 h=>bI x8 λM=>bS true q [M] h
def PG(O R q x0 h):zU O R q x0 h=bM H7 O R q 0 [x0] h:=bT
def d263:eL:=λO R Q=>[S1 (zU O R Q)]
def qas(O R q):cd H7 O R q 0 (d263 O R q):=⟨PG O R q,bB⟩
def H6:cg:=cF Tryz.f269 .n
def xa:mP:=λO R q x0 x1 h=>bE O (F_ 296) [x0,x1] h 7 λx7 h=>bI x7 λA=>bS true q [A] h
def PF(O R q x0 x1 h):xa O R q x0 x1 h=bM H6 O R q 0 [x0,x1] h:=bT
def d269:eL:=λO R Q=>[S2 (xa O R Q)]
def qar(O R q):cd H6 O R q 0 (d269 O R q):=⟨PF O R q,bB⟩
def H3:cg:=cF Tryz.f270 .n
def w9:me:=λO R q x0 h=>bw .eql 0 x0 (.v (.c (.p (.int .u8 110)))) h λx6 h=>cY x6 (bI (.v (.c (.p (.int .u8 10)))) λA=>bI (kB true) λc1=>bS true q [A,c1] h) (bw .eql 0 x0 (.v (.c (.p (.int .u8 116)))) h λx8 h=>cY x8 (bI (.v (.c (.p (.int .u8 9)))) λA=>bI (kB true) λc1=>bS true q [A,c1] h) (bw .eql 0 x0 (.v (.c (.p (.int .u8 34)))) h λM h=>cY M (bI x0 λA=>bI (kB true) λc1=>bS true q [A,c1] h) (bw .eql 0 x0 (.v (.c (.p (.int .u8 92)))) h λU h=>cY U (bI x0 λA=>bI (kB true) λc1=>bS true q [A,c1] h) (bI (.v (.c (.p (.int .u8 0)))) λA=>bI (kB false) λc1=>bS true q [A,c1] h))))
def PE(O R q x0 h):w9 O R q x0 h=bM H3 O R q 0 [x0] h:=bT
def d270:eL:=λO R Q=>[S1 (w9 O R Q)]
def qaq(O R q):cd H3 O R q 0 (d270 O R q):=⟨PE O R q,bB⟩
def pf:cg:=cF Tryz.f271 (.s .n (.s .n (.s .n (.s .n (.s (.s .n (.k (.l 1 [0,3,4,5,6] .n))) (.m 2 [0,3,5] (.s .n (.s .n (.s .n (.s .n (.s .n (.s (.k (.l 3 [0,9,10,12] .n)) (.m 4 [0,9,10,12] (.s .n (.s (.k (.l 5 [0,9,10,11,12] (.s .n (.k (.s .n (.s .n (.s .n (.s .n (.s (.k (.l 6 [0,9,10,12] .n)) .n))))))))) (.m 7 [0,9,10,11] .n))))))))))))))))
def zS:me:=λO R q x0 h=>R 1 [x0,(kI 0),(kI 1),(.v (.c (.p (.int .u8 0)))),(kI 0)] h
def PD(O R q x0 h):zS O R q x0 h=bM pf O R q 0 [x0] h:=bT
def zR:pg:=λO R q x0 x3 x4 x5 x6 h=>cP O 0 x0 h 15 λU h=>bw .lss 0 x6 U h λaa h=>cY aa (eX x0 x6 h λA h=>bw .or 0 x5 A h λab h=>bQ O (.lE 256 1 (.k (.v (.c (.p (.dc WY 0))))) (.k A)) h 26 λad h=>bz false 1 ad h λae h=>gI .i64 ae h λM h=>bQ O (.un .xor (.k M)) h 32 λaf h=>bw .and 0 x4 af h λag h=>bw .add 0 x3 ag h λah h=>bw .add 0 x6 (kI 1) h λai h=>R 1 [x0,ah,M,ab,ai] h) (R 2 [x0,x3,x5] h)
def PC(O R q x0 x3 x4 x5 x6 h):zR O R q x0 x3 x4 x5 x6 h=bM pf O R q 1 [x0,x3,x4,x5,x6] h:=bT
def zQ:mc:=λO R q x0 x3 x5 h=>bw .geq 0 x5 (.v (.c (.p (.int .u8 128)))) h λA h=>cY A (bE O (F_ 297) [x0,(F_ 298)] h 39 λM h=>bI M λc0=>bS true q [c0] h) (bQ O (.mU 1 16 AH (.k x3) (.k x3) false) h 41 λU h=>R 3 [x0,U,(kI 0),(kI 0)] h)
def PB(O R q x0 x3 x5 h):zQ O R q x0 x3 x5 h=bM pf O R q 2 [x0,x3,x5] h:=bT
def zP:tf:=λO R q x0 x9 U M h=>cP O 0 x0 h 44 λaa h=>bw .lss 0 M aa h λA h=>bo A true (λkk=>kk x0 h) h λab h=>bo A true (λkk=>kk M h) h λad h=>bo A true (eX ab ad h) h λae h=>bo A true (bQ O (.lE 256 1 (.k (.v (.c (.p (.dc WY 0))))) (.k ae)) h 50) h λaf h=>bo A true (bz false 1 af h) h λag h=>bo A true (bw .neq 0 ag (.v (.c (.p (.int .u8 0)))) h) h λah h=>bQ O (.pick (.k A) (.k ah) (.k (kB false))) h 53 λai h=>cY ai (bw .add 0 M (kI 1) h λaj h=>R 3 [x0,x9,U,aj] h) (R 4 [x0,x9,U,M] h)
def Py(O R q x0 x9 A M h):zP O R q x0 x9 A M h=bM pf O R q 3 [x0,x9,A,M] h:=bT
def zO:tf:=λO R q x0 x9 M A h=>R 5 [x0,x9,M,A,A] h
def Px(O R q x0 x9 A M h):zO O R q x0 x9 A M h=bM pf O R q 4 [x0,x9,A,M] h:=bT
def zN:pg:=λO R q x0 x9 M U A h=>cP O 0 x0 h 59 λaa h=>bw .lss 0 A aa h λab h=>cY ab (eX x0 A h λad h=>bQ O (.lE 256 1 (.k (.v (.c (.p (.dc WY 0))))) (.k ad)) h 64 λae h=>bz false 1 ae h λaf h=>bw .eql 0 af (.v (.c (.p (.int .u8 0)))) h λag h=>cY ag (bw .add 0 A (kI 1) h λah h=>R 5 [x0,x9,M,U,ah] h) (bQ O (.slice 0 true (.k x0) (some (.k U)) (some (.k A)) none) h 74 λai h=>bU 1 x9 M h λaj h=>bK 1 aj ai h λ_ h=>bw .add 0 M (kI 1) h λak h=>bw .add 0 A (kI 1) h λal h=>R 6 [x0,x9,ak,al] h)) (R 7 [x0,x9,M,U] h)
def Pw(O R q x0 x9 A M U h):zN O R q x0 x9 A M U h=bM pf O R q 5 [x0,x9,A,M,U] h:=bT
def zM:tf:=λO R q x0 x9 U M h=>cP O 0 x0 h 82 λaa h=>bw .lss 0 M aa h λA h=>bo A true (λkk=>kk x0 h) h λab h=>bo A true (λkk=>kk M h) h λad h=>bo A true (eX ab ad h) h λae h=>bo A true (bQ O (.lE 256 1 (.k (.v (.c (.p (.dc WY 0))))) (.k ae)) h 88) h λaf h=>bo A true (bz false 1 af h) h λag h=>bo A true (bw .neq 0 ag (.v (.c (.p (.int .u8 0)))) h) h λah h=>bQ O (.pick (.k A) (.k ah) (.k (kB false))) h 91 λai h=>cY ai (bw .add 0 M (kI 1) h λaj h=>R 6 [x0,x9,U,aj] h) (R 5 [x0,x9,U,M,M] h)
def Pv(O R q x0 x9 A M h):zM O R q x0 x9 A M h=bM pf O R q 6 [x0,x9,A,M] h:=bT
def zL:tf:=λO R q x0 x9 aa A h=>cP O 0 x0 h 97 λab h=>bw .lss 0 A ab h λad h=>cY ad (bQ O (.slice 0 true (.k x0) (some (.k A)) none none) h 103 λM h=>bU 1 x9 aa h λU h=>bK 1 U M h λ_ h=>bI x9 λc0=>bS true q [c0] h) (bI x9 λc0=>bS true q [c0] h)
def Pu(O R q x0 x9 A M h):zL O R q x0 x9 A M h=bM pf O R q 7 [x0,x9,A,M] h:=bT
def d271:eL:=λO R Q=>[S1 (zS O R Q),S5 (zR O R Q),S3 (zQ O R Q),S4 (zP O R Q),S4 (zO O R Q),S5 (zN O R Q),S4 (zM O R Q),S4 (zL O R Q)]
def qap(O R q):cd pf O R q 0 (d271 O R q):=⟨PD O R q,PC O R q,PB O R q,Py O R q,Px O R q,Pw O R q,Pv O R q,Pu O R q,bB⟩
def HZ:cg:=cF Tryz.f272 .n
def w7:mP:=λO R q x0 x1 h=>bE O (F_ 299) [x0,x1] h 7 λx7 h=>bI x7 λA=>bS true q [A] h
def Pt(O R q x0 x1 h):w7 O R q x0 x1 h=bM HZ O R q 0 [x0,x1] h:=bT
def d272:eL:=λO R Q=>[S2 (w7 O R Q)]
def qao(O R q):cd HZ O R q 0 (d272 O R q):=⟨Pt O R q,bB⟩
def vM:cg:=cF Tryz.f273 (.s .n (.k (.l 1 [0,1,2,3,8] (.s .n (.s (.k (.s .n (.k (.l 2 [0,1,2,3,8,9] .n)))) (.m 3 [0,1,2,3,8] .n))))))
def Pr(O R q x0 x1 x2 x3 h):tF 5 273 274 300 306 242 O R q x0 x1 x2 x3 h=bM vM O R q 0 [x0,x1,x2,x3] h:=bT
def Pq(O R q x0 x1 x2 x3 x8 h):ss 5 273 274 300 306 242 O R q x0 x1 x2 x3 x8 h=bM vM O R q 1 [x0,x1,x2,x3,x8] h:=bT
def Pp(O R q x0 x1 x2 x3 x8 x9 h):sr 5 273 274 300 306 242 O R q x0 x1 x2 x3 x8 x9 h=bM vM O R q 2 [x0,x1,x2,x3,x8,x9] h:=bT
def Po(O R q x0 x1 x2 x3 x8 h):uH 5 273 274 300 306 242 O R q x0 x1 x2 x3 x8 h=bM vM O R q 3 [x0,x1,x2,x3,x8] h:=bT
def d273:eL:=λO R Q=>[.s λa=>.s λb=>.s λc=>.s λd=>.z (tF 5 273 274 300 306 242 O R Q a b c d),.s λa=>.s λb=>.s λc=>.s λd=>.s λe=>.z (ss 5 273 274 300 306 242 O R Q a b c d e),.s λa=>.s λb=>.s λc=>.s λd=>.s λe=>.s λf=>.z (sr 5 273 274 300 306 242 O R Q a b c d e f),.s λa=>.s λb=>.s λc=>.s λd=>.s λe=>.z (uH 5 273 274 300 306 242 O R Q a b c d e)]
def qan(O R q):cd vM O R q 0 (d273 O R q):=⟨Pr O R q,Pq O R q,Pp O R q,Po O R q,bB⟩
def js:cg:=cF Tryz.f274 (.s (.s .n (.s (.s .n (.s .n (.s (.k (.l 1 [0,1,4,10,11] .n)) (.m 2 [0,1,10] (.s (.s .n (.k (.l 3 [0,10,13] .n))) (.m 4 [] .n)))))) .n)) (.m 5 [0,1,2,3,4] (.s (.s .n (.s (.s .n (.s .n (.s (.k (.l 6 [0,2,4,14,15] .n)) (.m 7 [0,2,14] (.s (.s .n (.k (.l 8 [0,14,17] .n))) (.m 9 [] .n)))))) .n)) (.m 10 [0,1,2,3,4] (.s .n (.s .n (.s .n (.s .n (.m 11 [0,1,2,3,4,18,19,20,21] (.s .n (.s (.k (.l 12 [0,1,2,3,4,18,19,20,21,22] .n)) (.m 13 [0,1,2,3,4,18,19,20] (.s .n (.s .n (.m 14 [0,1,3,4,18,20,24] (.s .n (.m 15 [0,3,4,18,24] .n)))))))))))))))))
def Pn(O R q x0 x1 x2 x3 x4 h):sq 5 273 274 300 306 242 O R q x0 x1 x2 x3 x4 h=bM js O R q 0 [x0,x1,x2,x3,x4] h:=bT
def Pm(O R q x0 x1 x4 A M h):tE 5 273 274 300 306 242 O R q x0 x1 x4 A M h=bM js O R q 1 [x0,x1,x4,A,M] h:=bT
def Pj(O R q x0 x1 A h):uG 5 273 274 300 306 242 O R q x0 x1 A h=bM js O R q 2 [x0,x1,A] h:=bT
def Ph(O R q x0 A M h):tD 5 273 274 300 306 242 O R q x0 A M h=bM js O R q 3 [x0,A,M] h:=bT
def Pg(O R q h):uF 5 273 274 300 306 242 O R q  h=bM js O R q 4 [] h:=bT
def Pf(O R q x0 x1 x2 x3 x4 h):tB 5 273 274 300 306 242 O R q x0 x1 x2 x3 x4 h=bM js O R q 5 [x0,x1,x2,x3,x4] h:=bT
def Pe(O R q x0 x2 x4 A M h):tA 5 273 274 300 306 242 O R q x0 x2 x4 A M h=bM js O R q 6 [x0,x2,x4,A,M] h:=bT
def Pd(O R q x0 x2 A h):uD 5 273 274 300 306 242 O R q x0 x2 A h=bM js O R q 7 [x0,x2,A] h:=bT
def Pc(O R q x0 A M h):tz 5 273 274 300 306 242 O R q x0 A M h=bM js O R q 8 [x0,A,M] h:=bT
def Pb(O R q h):uC 5 273 274 300 306 242 O R q  h=bM js O R q 9 [] h:=bT
def HH(O R q x0 x1 x2 x3 x4 h):pz 5 273 274 300 306 242 O R q x0 x1 x2 x3 x4 h=bM js O R q 10 [x0,x1,x2,x3,x4] h:=bT
def HF(O R q x0 x1 x2 x3 x4 A M U aa h):oR 5 273 274 300 306 242 O R q x0 x1 x2 x3 x4 A M U aa h=bM js O R q 11 [x0,x1,x2,x3,x4,A,M,U,aa] h:=bT
def HE(O R q x0 x1 x2 x3 x4 A M U aa ab h):nP 5 273 274 300 306 242 O R q x0 x1 x2 x3 x4 A M U aa ab h=bM js O R q 12 [x0,x1,x2,x3,x4,A,M,U,aa,ab] h:=bT
def HD(O R q x0 x1 x2 x3 x4 A M U h):nO 5 273 274 300 306 242 O R q x0 x1 x2 x3 x4 A M U h=bM js O R q 13 [x0,x1,x2,x3,x4,A,M,U] h:=bT
def HC(O R q x0 x1 x3 x4 A M U h):nN 5 273 274 300 306 242 O R q x0 x1 x3 x4 A M U h=bM js O R q 14 [x0,x1,x3,x4,A,M,U] h:=bT
def HB(O R q x0 x3 x4 A M h):nL 5 273 274 300 306 242 O R q x0 x3 x4 A M h=bM js O R q 15 [x0,x3,x4,A,M] h:=bT
def d274:eL:=λO R Q=>[.s λa=>.s λb=>.s λc=>.s λd=>.s λe=>.z (sq 5 273 274 300 306 242 O R Q a b c d e),.s λa=>.s λb=>.s λc=>.s λd=>.s λe=>.z (tE 5 273 274 300 306 242 O R Q a b c d e),.s λa=>.s λb=>.s λc=>.z (uG 5 273 274 300 306 242 O R Q a b c),.s λa=>.s λb=>.s λc=>.z (tD 5 273 274 300 306 242 O R Q a b c),.z (uF 5 273 274 300 306 242 O R Q ),.s λa=>.s λb=>.s λc=>.s λd=>.s λe=>.z (tB 5 273 274 300 306 242 O R Q a b c d e),.s λa=>.s λb=>.s λc=>.s λd=>.s λe=>.z (tA 5 273 274 300 306 242 O R Q a b c d e),.s λa=>.s λb=>.s λc=>.z (uD 5 273 274 300 306 242 O R Q a b c),.s λa=>.s λb=>.s λc=>.z (tz 5 273 274 300 306 242 O R Q a b c),.z (uC 5 273 274 300 306 242 O R Q ),.s λa=>.s λb=>.s λc=>.s λd=>.s λe=>.z (pz 5 273 274 300 306 242 O R Q a b c d e),.s λa=>.s λb=>.s λc=>.s λd=>.s λe=>.s λf=>.s λg=>.s λh=>.s λi=>.z (oR 5 273 274 300 306 242 O R Q a b c d e f g h i),.s λa=>.s λb=>.s λc=>.s λd=>.s λe=>.s λf=>.s λg=>.s λh=>.s λi=>.s λj=>.z (nP 5 273 274 300 306 242 O R Q a b c d e f g h i j),.s λa=>.s λb=>.s λc=>.s λd=>.s λe=>.s λf=>.s λg=>.s λh=>.z (nO 5 273 274 300 306 242 O R Q a b c d e f g h),.s λa=>.s λb=>.s λc=>.s λd=>.s λe=>.s λf=>.s λg=>.z (nN 5 273 274 300 306 242 O R Q a b c d e f g),.s λa=>.s λb=>.s λc=>.s λd=>.s λe=>.z (nL 5 273 274 300 306 242 O R Q a b c d e)]
def qam(O R q):cd js O R q 0 (d274 O R q):=⟨Pn O R q,Pm O R q,Pj O R q,Ph O R q,Pg O R q,Pf O R q,Pe O R q,Pd O R q,Pc O R q,Pb O R q,HH O R q,HF O R q,HE O R q,HD O R q,HC O R q,HB O R q,bB⟩
def Cr:cg:=cF Tryz.f275 (.s .n (.k (.l 1 [0,1,2,3,10] .n)))
def Pa(O R q x0 x1 x2 x3 x4 h):uz 5 180 181 243 275 113 O R q x0 x1 x2 x3 x4 h=bM Cr O R q 0 [x0,x1,x2,x3,x4] h:=bT
def O9(O R q x0 x1 x2 x3 A h):tx 5 180 181 243 275 113 O R q x0 x1 x2 x3 A h=bM Cr O R q 1 [x0,x1,x2,x3,A] h:=bT
def d275:eL:=λO R Q=>[.s λa=>.s λb=>.s λc=>.s λd=>.s λe=>.z (uz 5 180 181 243 275 113 O R Q a b c d e),.s λa=>.s λb=>.s λc=>.s λd=>.s λe=>.z (tx 5 180 181 243 275 113 O R Q a b c d e)]
def qal(O R q):cd Cr O R q 0 (d275 O R q):=⟨Pa O R q,O9 O R q,bB⟩
def Cq:cg:=cF Tryz.f276 (.s .n (.k (.l 1 [0,1,2,3,10] .n)))
def O8(O R q x0 x1 x2 x3 x4 h):uz 6 182 183 244 276 115 O R q x0 x1 x2 x3 x4 h=bM Cq O R q 0 [x0,x1,x2,x3,x4] h:=bT
def O7(O R q x0 x1 x2 x3 A h):tx 6 182 183 244 276 115 O R q x0 x1 x2 x3 A h=bM Cq O R q 1 [x0,x1,x2,x3,A] h:=bT
def d276:eL:=λO R Q=>[.s λa=>.s λb=>.s λc=>.s λd=>.s λe=>.z (uz 6 182 183 244 276 115 O R Q a b c d e),.s λa=>.s λb=>.s λc=>.s λd=>.s λe=>.z (tx 6 182 183 244 276 115 O R Q a b c d e)]
def qak(O R q):cd Cq O R q 0 (d276 O R q):=⟨O8 O R q,O7 O R q,bB⟩
def HY:cg:=cF Tryz.f296 .n
def wZ:mP:=λO R q x0 x1 h=>bE O (F_ 299) [x0,x1] h 7 λx7 h=>cY x7 (cP O 0 x1 h 10 λA h=>bQ O (.slice 0 true (.k x0) (some (.k A)) none none) h 11 λM h=>bI M λU=>bS true q [U] h) (bI x0 λU=>bS true q [U] h)
def O3(O R q x0 x1 h):wZ O R q x0 x1 h=bM HY O R q 0 [x0,x1] h:=bT
def d296:eL:=λO R Q=>[S2 (wZ O R Q)]
def qaj(O R q):cd HY O R q 0 (d296 O R q):=⟨O3 O R q,bB⟩
def HX:cg:=cF Tryz.f299 .n
def wY:mP:=λO R q x0 x1 h=>cP O 0 x0 h 6 λx6 h=>cP O 0 x1 h 8 λx8 h=>bw .geq 0 x6 x8 h λx9 h=>bo x9 true (λA=>A x0 h) h λM h=>bo x9 true (λA=>A x1 h) h λU h=>bo x9 true (cP O 0 U h 13) h λaa h=>bo x9 true (bQ O (.slice 0 true (.k M) none (some (.k aa)) none) h 14) h λab h=>bo x9 true (λA=>A x1 h) h λad h=>bo x9 true (bw .eql 0 ab ad h) h λae h=>bQ O (.pick (.k x9) (.k ae) (.k (kB false))) h 17 λaf h=>bI af λc0=>bS true q [c0] h
def O2(O R q x0 x1 h):wY O R q x0 x1 h=bM HX O R q 0 [x0,x1] h:=bT
def d299:eL:=λO R Q=>[S2 (wY O R Q)]
def qai(O R q):cd HX O R q 0 (d299 O R q):=⟨O2 O R q,bB⟩
def yG:cg:=cF Tryz.f300 (.s .n (.s .n (.s (.k (.l 1 [0,2,4,10,11] .n)) (.m 2 [0,2,4,10] .n))))
def O1(O R q x0 x1 x2 x3 x4 h):uB 5 273 274 300 306 242 O R q x0 x1 x2 x3 x4 h=bM yG O R q 0 [x0,x1,x2,x3,x4] h:=bT
def O0(O R q x0 x2 x4 A M h):sn 5 273 274 300 306 242 O R q x0 x2 x4 A M h=bM yG O R q 1 [x0,x2,x4,A,M] h:=bT
def OZ(O R q x0 x2 x4 A h):uA 5 273 274 300 306 242 O R q x0 x2 x4 A h=bM yG O R q 2 [x0,x2,x4,A] h:=bT
def d300:eL:=λO R Q=>[.s λa=>.s λb=>.s λc=>.s λd=>.s λe=>.z (uB 5 273 274 300 306 242 O R Q a b c d e),.s λa=>.s λb=>.s λc=>.s λd=>.s λe=>.z (sn 5 273 274 300 306 242 O R Q a b c d e),.s λa=>.s λb=>.s λc=>.s λd=>.z (uA 5 273 274 300 306 242 O R Q a b c d)]
def qah(O R q):cd yG O R q 0 (d300 O R q):=⟨O1 O R q,O0 O R q,OZ O R q,bB⟩
def Cp:cg:=cF Tryz.f306 (.s .n (.k (.l 1 [0,1,2,3,10] .n)))
def OY(O R q x0 x1 x2 x3 x4 h):uz 5 273 274 300 306 242 O R q x0 x1 x2 x3 x4 h=bM Cp O R q 0 [x0,x1,x2,x3,x4] h:=bT
def OX(O R q x0 x1 x2 x3 A h):tx 5 273 274 300 306 242 O R q x0 x1 x2 x3 A h=bM Cp O R q 1 [x0,x1,x2,x3,A] h:=bT
def d306:eL:=λO R Q=>[.s λa=>.s λb=>.s λc=>.s λd=>.s λe=>.z (uz 5 273 274 300 306 242 O R Q a b c d e),.s λa=>.s λb=>.s λc=>.s λd=>.s λe=>.z (tx 5 273 274 300 306 242 O R Q a b c d e)]
def qag(O R q):cd Cp O R q 0 (d306 O R q):=⟨OY O R q,OX O R q,bB⟩
end
end Go.Proofs.YtnlmlcfipbnpgaaGreatDoor.Ab
