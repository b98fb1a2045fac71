/- Plain forms of the functions that FnExactMsgText reaches, part 0. No conditions. -/
import Derived.Test.YtameehmkoglkeaaDoorFnExactMsgTextTab
set_option linter.all false
namespace Go.Proofs.YtameehmkoglkeaaDoor.M
open Go Go.Eng Go.Proofs
set_option linter.unusedVariables false
noncomputable section
def YY:rF Yd:=fun D L (a0,a1,a2,a3,a4,a5,a6,a7,a8,a9,a10,a11)=>
 (JX D (a0,a1,a2,a3,a4,a5,a6,a7,a8,a9,a10,a11,1048576)).bind fun r1=>
 bif (decide (r1<0))then(some true)
 else((YK D (a0,a1,a2,a3,a4,a5,a6,a7,a8,a9,a10,a11)).bind fun r2=>
 (Vx D r2).bind fun r3=>
 (YK D (a0,a1,a2,a3,a4,a5,a6,a7,a8,a9,a10,a11)).bind fun r4=>
 (K6 D r4).bind fun r5=>
 bif (!X1 r5 r3)then(some false)
 else((YK D (a0,a1,a2,a3,a4,a5,a6,a7,a8,a9,a10,a11)).bind fun r6=>
 (JT D (r4.1,r4.2.1,r4.2.2.1,r4.2.2.2.1,r4.2.2.2.2.1,r4.2.2.2.2.2.1,r4.2.2.2.2.2.2.1,r4.2.2.2.2.2.2.2.1,r4.2.2.2.2.2.2.2.2.1,r4.2.2.2.2.2.2.2.2.2.1,r4.2.2.2.2.2.2.2.2.2.2.1,r4.2.2.2.2.2.2.2.2.2.2.2,r6)).bind fun r7=>
 bif (!r7)then(some false)
 else(some true)))
theorem zb:OfF Yd YY:=ofF 5
def zC:rF JX:=fun D L (a0,a1,a2,a3,a4,a5,a6,a7,a8,a9,a10,a11,a12)=>
 (V5 D (a5,a6,a12)).bind fun r1=>
 bif (decide (r1<0))then(some (-1))
 else((Z4 D (a7,r1)).bind fun r2=>
 bif (decide (r2<0))then(some (-1))
 else((Z4 D (a8,r2)).bind fun r3=>
 bif (decide (r3<0))then(some (-1))
 else((KZ D (a9,a10,r3)).bind fun r4=>
 bif (decide (r4<0))then(some (-1))
 else((KR D (a11,r4)).bind fun r5=>
 bif (decide (r5<0))then(some (-1))
 else(some r5)))))
theorem QcQ:OfF JX zC:=ofF 18
def qG:rF Vx:=fun D L (a0,a1,a2,a3,a4,a5,a6,a7,a8,a9,a10,a11)=>
 (YD D (a0,a1,a2,a3,a4,a5,a6,a7,a8,a9,a10,a11)).bind fun r1=>
 bif (!r1)then(some (⟨#[63]⟩:ByteArray))
 else(bif inb a0 (List.length [(⟨#[112,117,115,104]⟩:ByteArray),(⟨#[97,99,107]⟩:ByteArray),(⟨#[115,121,110]⟩:ByteArray),(⟨#[114,101,112,108,121]⟩:ByteArray),(⟨#[108,97,115,116]⟩:ByteArray),(⟨#[98,117,115,121]⟩:ByteArray)])then
 bif fits (ByteArray.size (rd1 (ByteArray.empty:ByteArray) ([(⟨#[112,117,115,104]⟩:ByteArray),(⟨#[97,99,107]⟩:ByteArray),(⟨#[115,121,110]⟩:ByteArray),(⟨#[114,101,112,108,121]⟩:ByteArray),(⟨#[108,97,115,116]⟩:ByteArray),(⟨#[98,117,115,121]⟩:ByteArray)]:List ByteArray) a0)+ByteArray.size (⟨#[32]⟩:ByteArray)) 1 then
 (Qv D a1).bind fun r2=>
 bif fits (ByteArray.size ((rd1 (ByteArray.empty:ByteArray) ([(⟨#[112,117,115,104]⟩:ByteArray),(⟨#[97,99,107]⟩:ByteArray),(⟨#[115,121,110]⟩:ByteArray),(⟨#[114,101,112,108,121]⟩:ByteArray),(⟨#[108,97,115,116]⟩:ByteArray),(⟨#[98,117,115,121]⟩:ByteArray)]:List ByteArray) a0)++(⟨#[32]⟩:ByteArray))+ByteArray.size r2) 1 then
 bif fits (ByteArray.size (((rd1 (ByteArray.empty:ByteArray) ([(⟨#[112,117,115,104]⟩:ByteArray),(⟨#[97,99,107]⟩:ByteArray),(⟨#[115,121,110]⟩:ByteArray),(⟨#[114,101,112,108,121]⟩:ByteArray),(⟨#[108,97,115,116]⟩:ByteArray),(⟨#[98,117,115,121]⟩:ByteArray)]:List ByteArray) a0)++(⟨#[32]⟩:ByteArray))++r2)+ByteArray.size (⟨#[62]⟩:ByteArray)) 1 then
 (Qv D a2).bind fun r3=>
 bif fits (ByteArray.size ((((rd1 (ByteArray.empty:ByteArray) ([(⟨#[112,117,115,104]⟩:ByteArray),(⟨#[97,99,107]⟩:ByteArray),(⟨#[115,121,110]⟩:ByteArray),(⟨#[114,101,112,108,121]⟩:ByteArray),(⟨#[108,97,115,116]⟩:ByteArray),(⟨#[98,117,115,121]⟩:ByteArray)]:List ByteArray) a0)++(⟨#[32]⟩:ByteArray))++r2)++(⟨#[62]⟩:ByteArray))+ByteArray.size r3) 1 then
 bif fits (ByteArray.size (((((rd1 (ByteArray.empty:ByteArray) ([(⟨#[112,117,115,104]⟩:ByteArray),(⟨#[97,99,107]⟩:ByteArray),(⟨#[115,121,110]⟩:ByteArray),(⟨#[114,101,112,108,121]⟩:ByteArray),(⟨#[108,97,115,116]⟩:ByteArray),(⟨#[98,117,115,121]⟩:ByteArray)]:List ByteArray) a0)++(⟨#[32]⟩:ByteArray))++r2)++(⟨#[62]⟩:ByteArray))++r3)+ByteArray.size (⟨#[35]⟩:ByteArray)) 1 then
 (Qv D a3).bind fun r4=>
 bif fits (ByteArray.size ((((((rd1 (ByteArray.empty:ByteArray) ([(⟨#[112,117,115,104]⟩:ByteArray),(⟨#[97,99,107]⟩:ByteArray),(⟨#[115,121,110]⟩:ByteArray),(⟨#[114,101,112,108,121]⟩:ByteArray),(⟨#[108,97,115,116]⟩:ByteArray),(⟨#[98,117,115,121]⟩:ByteArray)]:List ByteArray) a0)++(⟨#[32]⟩:ByteArray))++r2)++(⟨#[62]⟩:ByteArray))++r3)++(⟨#[35]⟩:ByteArray))+ByteArray.size r4) 1 then
 (YT D (a9,a10)).bind fun r5=>
 (YX D r5).bind fun r6=>
 bif fits (ByteArray.size (((((((rd1 (ByteArray.empty:ByteArray) ([(⟨#[112,117,115,104]⟩:ByteArray),(⟨#[97,99,107]⟩:ByteArray),(⟨#[115,121,110]⟩:ByteArray),(⟨#[114,101,112,108,121]⟩:ByteArray),(⟨#[108,97,115,116]⟩:ByteArray),(⟨#[98,117,115,121]⟩:ByteArray)]:List ByteArray) a0)++(⟨#[32]⟩:ByteArray))++r2)++(⟨#[62]⟩:ByteArray))++r3)++(⟨#[35]⟩:ByteArray))++r4)+ByteArray.size r6) 1 then
 some ((((((((rd1 (ByteArray.empty:ByteArray) ([(⟨#[112,117,115,104]⟩:ByteArray),(⟨#[97,99,107]⟩:ByteArray),(⟨#[115,121,110]⟩:ByteArray),(⟨#[114,101,112,108,121]⟩:ByteArray),(⟨#[108,97,115,116]⟩:ByteArray),(⟨#[98,117,115,121]⟩:ByteArray)]:List ByteArray) a0)++(⟨#[32]⟩:ByteArray))++r2)++(⟨#[62]⟩:ByteArray))++r3)++(⟨#[35]⟩:ByteArray))++r4)++r6)else none else none else none else none else none else none else none else none)
theorem Qao:OfF Vx qG:=ofF 19
def zf:rF YK:=fun D L (a0,a1,a2,a3,a4,a5,a6,a7,a8,a9,a10,a11)=>
 (VX D (a5,a6)).bind fun r1=>
 (Z6 D a7).bind fun r2=>
 (Z6 D a8).bind fun r3=>
 (Vb D (a9,a10)).bind fun r4=>
 (Vk D a11).bind fun r5=>
 some (a0,a1,a2,a3,a4,r1.1,r1.2,r2,r3,r4.1,r4.2,r5)
theorem QcT:OfF YK zf:=ofF 20
def qB:rF K6:=fun D L (a0,a1,a2,a3,a4,a5,a6,a7,a8,a9,a10,a11)=>
 (ZU D (a0,a1,a2,a3,a4,a5,a6,a7,a8,a9,a10,a11)).bind fun r1=>
 bif (!r1)then(some (⟨#[63]⟩:ByteArray))
 else(bif inb a0 (List.length [(⟨#[112,117,115,104]⟩:ByteArray),(⟨#[97,99,107]⟩:ByteArray),(⟨#[115,121,110]⟩:ByteArray),(⟨#[114,101,112,108,121]⟩:ByteArray),(⟨#[108,97,115,116]⟩:ByteArray),(⟨#[98,117,115,121]⟩:ByteArray)])then
 bif fits (ByteArray.size (rd1 (ByteArray.empty:ByteArray) ([(⟨#[112,117,115,104]⟩:ByteArray),(⟨#[97,99,107]⟩:ByteArray),(⟨#[115,121,110]⟩:ByteArray),(⟨#[114,101,112,108,121]⟩:ByteArray),(⟨#[108,97,115,116]⟩:ByteArray),(⟨#[98,117,115,121]⟩:ByteArray)]:List ByteArray) a0)+ByteArray.size (⟨#[32]⟩:ByteArray)) 1 then
 (QD D a1).bind fun r2=>
 bif fits (ByteArray.size ((rd1 (ByteArray.empty:ByteArray) ([(⟨#[112,117,115,104]⟩:ByteArray),(⟨#[97,99,107]⟩:ByteArray),(⟨#[115,121,110]⟩:ByteArray),(⟨#[114,101,112,108,121]⟩:ByteArray),(⟨#[108,97,115,116]⟩:ByteArray),(⟨#[98,117,115,121]⟩:ByteArray)]:List ByteArray) a0)++(⟨#[32]⟩:ByteArray))+ByteArray.size r2) 1 then
 bif fits (ByteArray.size (((rd1 (ByteArray.empty:ByteArray) ([(⟨#[112,117,115,104]⟩:ByteArray),(⟨#[97,99,107]⟩:ByteArray),(⟨#[115,121,110]⟩:ByteArray),(⟨#[114,101,112,108,121]⟩:ByteArray),(⟨#[108,97,115,116]⟩:ByteArray),(⟨#[98,117,115,121]⟩:ByteArray)]:List ByteArray) a0)++(⟨#[32]⟩:ByteArray))++r2)+ByteArray.size (⟨#[62]⟩:ByteArray)) 1 then
 (QD D a2).bind fun r3=>
 bif fits (ByteArray.size ((((rd1 (ByteArray.empty:ByteArray) ([(⟨#[112,117,115,104]⟩:ByteArray),(⟨#[97,99,107]⟩:ByteArray),(⟨#[115,121,110]⟩:ByteArray),(⟨#[114,101,112,108,121]⟩:ByteArray),(⟨#[108,97,115,116]⟩:ByteArray),(⟨#[98,117,115,121]⟩:ByteArray)]:List ByteArray) a0)++(⟨#[32]⟩:ByteArray))++r2)++(⟨#[62]⟩:ByteArray))+ByteArray.size r3) 1 then
 bif fits (ByteArray.size (((((rd1 (ByteArray.empty:ByteArray) ([(⟨#[112,117,115,104]⟩:ByteArray),(⟨#[97,99,107]⟩:ByteArray),(⟨#[115,121,110]⟩:ByteArray),(⟨#[114,101,112,108,121]⟩:ByteArray),(⟨#[108,97,115,116]⟩:ByteArray),(⟨#[98,117,115,121]⟩:ByteArray)]:List ByteArray) a0)++(⟨#[32]⟩:ByteArray))++r2)++(⟨#[62]⟩:ByteArray))++r3)+ByteArray.size (⟨#[35]⟩:ByteArray)) 1 then
 (QD D a3).bind fun r4=>
 bif fits (ByteArray.size ((((((rd1 (ByteArray.empty:ByteArray) ([(⟨#[112,117,115,104]⟩:ByteArray),(⟨#[97,99,107]⟩:ByteArray),(⟨#[115,121,110]⟩:ByteArray),(⟨#[114,101,112,108,121]⟩:ByteArray),(⟨#[108,97,115,116]⟩:ByteArray),(⟨#[98,117,115,121]⟩:ByteArray)]:List ByteArray) a0)++(⟨#[32]⟩:ByteArray))++r2)++(⟨#[62]⟩:ByteArray))++r3)++(⟨#[35]⟩:ByteArray))+ByteArray.size r4) 1 then
 (YV D (a9,a10)).bind fun r5=>
 bif (!X1 r5 (⟨#[]⟩:ByteArray))then(bif fits (ByteArray.size (⟨#[32]⟩:ByteArray)+ByteArray.size r5) 1 then
 bif fits (ByteArray.size (((((((rd1 (ByteArray.empty:ByteArray) ([(⟨#[112,117,115,104]⟩:ByteArray),(⟨#[97,99,107]⟩:ByteArray),(⟨#[115,121,110]⟩:ByteArray),(⟨#[114,101,112,108,121]⟩:ByteArray),(⟨#[108,97,115,116]⟩:ByteArray),(⟨#[98,117,115,121]⟩:ByteArray)]:List ByteArray) a0)++(⟨#[32]⟩:ByteArray))++r2)++(⟨#[62]⟩:ByteArray))++r3)++(⟨#[35]⟩:ByteArray))++r4)+ByteArray.size ((⟨#[32]⟩:ByteArray)++r5)) 1 then
 some ((((((((rd1 (ByteArray.empty:ByteArray) ([(⟨#[112,117,115,104]⟩:ByteArray),(⟨#[97,99,107]⟩:ByteArray),(⟨#[115,121,110]⟩:ByteArray),(⟨#[114,101,112,108,121]⟩:ByteArray),(⟨#[108,97,115,116]⟩:ByteArray),(⟨#[98,117,115,121]⟩:ByteArray)]:List ByteArray) a0)++(⟨#[32]⟩:ByteArray))++r2)++(⟨#[62]⟩:ByteArray))++r3)++(⟨#[35]⟩:ByteArray))++r4)++((⟨#[32]⟩:ByteArray)++r5))else none else none)
 else(some (((((((rd1 (ByteArray.empty:ByteArray) ([(⟨#[112,117,115,104]⟩:ByteArray),(⟨#[97,99,107]⟩:ByteArray),(⟨#[115,121,110]⟩:ByteArray),(⟨#[114,101,112,108,121]⟩:ByteArray),(⟨#[108,97,115,116]⟩:ByteArray),(⟨#[98,117,115,121]⟩:ByteArray)]:List ByteArray) a0)++(⟨#[32]⟩:ByteArray))++r2)++(⟨#[62]⟩:ByteArray))++r3)++(⟨#[35]⟩:ByteArray))++r4))else none else none else none else none else none else none else none)
theorem Qai:OfF K6 qB:=ofF 21
def zD:rF JT:=fun D L (a0,a1,a2,a3,a4,a5,a6,a7,a8,a9,a10,a11,a12,a13,a14,a15,a16,a17,a18,a19,a20,a21,a22,a23)=>
 bif (!decide (a0=a12))then(some false)
 else(bif (!decide (a1=a13))then(some false)
 else(bif (!decide (a2=a14))then(some false)
 else(bif (!decide (a3=a15))then(some false)
 else(bif (!decide (a4=a16))then(some false)
 else((V1 D (a5,a6,a17,a18)).bind fun r1=>
 bif (!r1)then(some false)
 else((Ya D (a7,a19)).bind fun r2=>
 bif (!r2)then(some false)
 else((Ya D (a8,a20)).bind fun r3=>
 bif (!r3)then(some false)
 else((Vs D (a9,a10,a21,a22)).bind fun r4=>
 bif (!r4)then(some false)
 else((KV D (a11,a23)).bind fun r5=>
 bif (!r5)then(some false)
 else(some true))))))))))
theorem QcL:OfF JT zD:=ofF 22
def yR:rF QS:=fun D L (a0,a1,a2)=>
 bif (decide (a1<=a0))then(some (decide (a0<=a2)))
 else(some false)
theorem Qd4:OfF QS yR:=ofF 34
def YP:rL Xr:=fun D L (y0,y1,y2)=>
 bif (!decide (y0=0))then(bif decide ((10:Int)≠0)then
 bif (decide ((Int.tmod y0 10)<0))then(bif fits (ByteArray.size (YM [(IntKind.wrap .u8 (wR (48+(wR (0 - (Int.tmod y0 10))))))])+ByteArray.size y2) 1 then
 bif decide ((10:Int)≠0)then
 Xr L ((wR (Int.tdiv y0 10)),y1,((YM [(IntKind.wrap .u8 (wR (48+(wR (0 - (Int.tmod y0 10))))))])++y2))else none else none)
 else(bif fits (ByteArray.size (YM [(IntKind.wrap .u8 (wR (48+(Int.tmod y0 10))))])+ByteArray.size y2) 1 then
 bif decide ((10:Int)≠0)then
 Xr L ((wR (Int.tdiv y0 10)),y1,((YM [(IntKind.wrap .u8 (wR (48+(Int.tmod y0 10))))])++y2))else none else none)else none)
 else(some (y1,y2))
theorem JO:OfL Xr YP:=ofL 36 0
def xR:rF Qv:=fun D L a0=>
 bif (decide (a0=0))then(some (⟨#[48]⟩:ByteArray))
 else((Xr L (a0,(decide (a0<0)),(⟨#[]⟩:ByteArray))).bind fun z1=>
 bif z1.1 then(bif fits (ByteArray.size (⟨#[45]⟩:ByteArray)+ByteArray.size z1.2) 1 then
 some ((⟨#[45]⟩:ByteArray)++z1.2)else none)
 else(some z1.2))
theorem Qca:OfF Qv xR:=ofF 36
def xG:rF QG:=fun D L (a0,a1,a2)=>
 bif (decide (a1<=a0))then(some (decide (a0<=a2)))
 else(some false)
theorem Qb6:OfF QG xG:=ofF 37
def xp:rF QD:=fun D L a0=>
 (strconv_Itoa D a0).bind fun r1=>
 some r1
theorem QbT:OfF QD xp:=ofF 39
def qQ:rF strings_Join:=fun _ _=>QaN
theorem QaH:OfF strings_Join qQ:=ofF 40
def xu:rF V5:=fun D L (a0,a1,a2)=>
 (Z4 D (a0,a2)).bind fun r1=>
 bif (decide (r1<0))then(some (-1))
 else(some r1)
theorem Qbv:OfF V5 xu:=ofF 41
def xM:rF Z4:=fun D L (a0,a1)=>
 bif (decide ((wR (a1 - (a0.length:Int)))<0))then(some (-1))
 else(some (wR (a1 - (a0.length:Int))))
theorem Qbt:OfF Z4 xM:=ofF 42
def xk:rF KZ:=fun D L (a0,a1,a2)=>
 (K2 D (a0,a2)).bind fun r1=>
 bif (decide (r1<0))then(some (-1))
 else((Kf D (a1,r1)).bind fun r2=>
 bif (decide (r2<0))then(some (-1))
 else(some r2))
theorem Qa9:OfF KZ xk:=ofF 43
def qH:rF KR:=fun D L (a0,a1)=>
 bif (decide ((wR (a1 - (a0.length:Int)))<0))then(some (-1))
 else(some (wR (a1 - (a0.length:Int))))
theorem QaS:OfF KR qH:=ofF 44
def Ke:rL X9:=fun D L (y0,y1,y2,y3,y4,y5,y6,y7,y8,y9,y10,y11,y12)=>
 bif (decide (y0<(y9.length:Int)))then(bif inb y0 y9.length then
 bif inb (wR (y0 - 1)) y9.length then
 bif (decide ((rd1 (0:Int) y9 y0)<=(rd1 (0:Int) y9 (wR (y0 - 1)))))then(some (Sum.inl false))
 else(X9 L ((wR (y0+1)),y1,y2,y3,y4,y5,y6,y7,y8,y9,y10,y11,y12))else none else none)
 else(some (Sum.inr ()))
theorem Kq:OfL X9 Ke:=ofL 45 0
def zA:rF YD:=fun D L (a0,a1,a2,a3,a4,a5,a6,a7,a8,a9,a10,a11)=>
 (QS D (a0,0,5)).bind fun r1=>
 bif (!r1)then(some false)
 else((XS D a1).bind fun r2=>
 bif (!r2)then(some false)
 else((XS D a2).bind fun r3=>
 bif (!r3)then(some false)
 else(bif (decide (a1=a2))then(some false)
 else((QS D (a3,0,100000)).bind fun r4=>
 bif (!r4)then(some false)
 else((QS D (a4,0,100000)).bind fun r5=>
 bif (!r5)then(some false)
 else((KH D (a5,a6)).bind fun r6=>
 bif (!r6)then(some false)
 else((ZG D (a7,5,100000)).bind fun r7=>
 bif (!r7)then(some false)
 else((ZG D (a8,4,3)).bind fun r8=>
 bif (!r8)then(some false)
 else((K3 D (a9,a10)).bind fun r9=>
 bif (!r9)then(some false)
 else((KO D a11).bind fun r10=>
 bif (!r10)then(some false)
 else((X9 L (1,a0,a1,a2,a3,a4,a5,a6,a7,a8,a9,a10,a11)).bind fun z11=>
 QK z11 (fun u12=>
 some u12)
 (fun z13=>
 some true))))))))))))
theorem QcR:OfF YD zA:=ofF 45
def Jm:rF YX:=fun D L a0=>
 bif (X1 a0 (⟨#[]⟩:ByteArray))then(some (⟨#[]⟩:ByteArray))
 else(bif fits (ByteArray.size (⟨#[32]⟩:ByteArray)+ByteArray.size a0) 1 then
 some ((⟨#[32]⟩:ByteArray)++a0)else none)
theorem vj:OfF YX Jm:=ofF 46
def Y0:rL Q7:=fun D L (y0,y1,y2,y3)=>
 bif (decide (y1<(y2.length:Int)))then(bif (!X1 y0 (⟨#[]⟩:ByteArray))then(bif fits (ByteArray.size y0+ByteArray.size (⟨#[32]⟩:ByteArray)) 1 then
 bif inb y1 y2.length then
 let e1:=(rd1 Yk y2 y1);
 (Qv D e1.1).bind fun r2=>
 bif fits (ByteArray.size (y0++(⟨#[32]⟩:ByteArray))+ByteArray.size r2) 1 then
 bif fits (ByteArray.size ((y0++(⟨#[32]⟩:ByteArray))++r2)+ByteArray.size (⟨#[61]⟩:ByteArray)) 1 then
 bif inb y1 y2.length then
 let e3:=(rd1 Yk y2 y1);
 (ZF D e3.2).bind fun r4=>
 bif fits (ByteArray.size (((y0++(⟨#[32]⟩:ByteArray))++r2)++(⟨#[61]⟩:ByteArray))+ByteArray.size r4) 1 then
 Q7 L (((((y0++(⟨#[32]⟩:ByteArray))++r2)++(⟨#[61]⟩:ByteArray))++r4),(wR (y1+1)),y2,y3)else none else none else none else none else none else none)
 else(bif inb y1 y2.length then
 let e5:=(rd1 Yk y2 y1);
 (Qv D e5.1).bind fun r6=>
 bif fits (ByteArray.size y0+ByteArray.size r6) 1 then
 bif fits (ByteArray.size (y0++r6)+ByteArray.size (⟨#[61]⟩:ByteArray)) 1 then
 bif inb y1 y2.length then
 let e7:=(rd1 Yk y2 y1);
 (ZF D e7.2).bind fun r8=>
 bif fits (ByteArray.size ((y0++r6)++(⟨#[61]⟩:ByteArray))+ByteArray.size r8) 1 then
 Q7 L ((((y0++r6)++(⟨#[61]⟩:ByteArray))++r8),(wR (y1+1)),y2,y3)else none else none else none else none else none))
 else(some (y0,y2,y3))
theorem Vy:OfL Q7 Y0:=ofL 47 0
def Y1:rL Xn:=fun D L (y0,y1,y2,y3)=>
 bif (decide (y1<(y3.length:Int)))then(bif (!X1 y0 (⟨#[]⟩:ByteArray))then(bif fits (ByteArray.size y0+ByteArray.size (⟨#[32]⟩:ByteArray)) 1 then
 bif fits (ByteArray.size (y0++(⟨#[32]⟩:ByteArray))+ByteArray.size (⟨#[45]⟩:ByteArray)) 1 then
 bif inb y1 y3.length then
 let e10:=(rd1 QV y3 y1);
 (Qv D e10.1).bind fun r11=>
 bif fits (ByteArray.size ((y0++(⟨#[32]⟩:ByteArray))++(⟨#[45]⟩:ByteArray))+ByteArray.size r11) 1 then
 bif fits (ByteArray.size (((y0++(⟨#[32]⟩:ByteArray))++(⟨#[45]⟩:ByteArray))++r11)+ByteArray.size (⟨#[60]⟩:ByteArray)) 1 then
 bif inb y1 y3.length then
 let e12:=(rd1 QV y3 y1);
 (Qv D e12.2).bind fun r13=>
 bif fits (ByteArray.size ((((y0++(⟨#[32]⟩:ByteArray))++(⟨#[45]⟩:ByteArray))++r11)++(⟨#[60]⟩:ByteArray))+ByteArray.size r13) 1 then
 Xn L ((((((y0++(⟨#[32]⟩:ByteArray))++(⟨#[45]⟩:ByteArray))++r11)++(⟨#[60]⟩:ByteArray))++r13),(wR (y1+1)),y2,y3)else none else none else none else none else none else none else none)
 else(bif fits (ByteArray.size y0+ByteArray.size (⟨#[45]⟩:ByteArray)) 1 then
 bif inb y1 y3.length then
 let e14:=(rd1 QV y3 y1);
 (Qv D e14.1).bind fun r15=>
 bif fits (ByteArray.size (y0++(⟨#[45]⟩:ByteArray))+ByteArray.size r15) 1 then
 bif fits (ByteArray.size ((y0++(⟨#[45]⟩:ByteArray))++r15)+ByteArray.size (⟨#[60]⟩:ByteArray)) 1 then
 bif inb y1 y3.length then
 let e16:=(rd1 QV y3 y1);
 (Qv D e16.2).bind fun r17=>
 bif fits (ByteArray.size (((y0++(⟨#[45]⟩:ByteArray))++r15)++(⟨#[60]⟩:ByteArray))+ByteArray.size r17) 1 then
 Xn L (((((y0++(⟨#[45]⟩:ByteArray))++r15)++(⟨#[60]⟩:ByteArray))++r17),(wR (y1+1)),y2,y3)else none else none else none else none else none else none))
 else(some y0)
theorem KY:OfL Xn Y1:=ofL 47 2
def JB:rF YT:=fun D L (a0,a1)=>
 (Q7 L ((⟨#[]⟩:ByteArray),0,a0,a1)).bind fun z9=>
 (Xn L (z9.1,0,z9.2)).bind fun z18=>
 some z18
theorem vn:OfF YT JB:=ofF 47
def xr:rF VX:=fun D L (a0,a1)=>
 (Z6 D a0).bind fun r1=>
 some (r1,a1)
theorem QbJ:OfF VX xr:=ofF 48
def VG:rL Zy:=fun D L (y0,y1,y2)=>
 bif (decide (y1<(y0.length:Int)))then(bif inb y1 y0.length then
 bif inb y1 y2.length then
 let l1:=List.set y2 (Int.toNat y1) (rd1 (0:Int) y0 y1);
 Zy L (y0,(wR (y1+1)),l1)else none else none)
 else(some y2)
theorem JS:OfL Zy VG:=ofL 49 0
def xx:rF Z6:=fun D L a0=>
 bif (decide ((0:Int)<=(a0.length:Int)/\((a0.length:Int):Int)=(a0.length:Int))&&fits (Int.toNat (a0.length:Int)) 8)then
 (Zy L (a0,0,(List.replicate (Int.toNat (a0.length:Int)) 0))).bind fun z2=>
 some z2 else none
theorem Qbs:OfF Z6 xx:=ofF 49
def xb:rF Vb:=fun D L (a0,a1)=>
 (KE D a0).bind fun r1=>
 (Kg D a1).bind fun r2=>
 some (r1,r2)
theorem Qbj:OfF Vb xb:=ofF 50
def Vd:rL Zm:=fun D L (y0,y1,y2)=>
 bif (decide (y1<(y0.length:Int)))then(bif inb y1 y0.length then
 let e1:=(rd1 QV y0 y1);
 (VW D e1).bind fun r2=>
 bif inb y1 y2.length then
 let l3:=List.set y2 (Int.toNat y1) r2;
 Zm L (y0,(wR (y1+1)),l3)else none else none)
 else(some y2)
theorem Ju:OfL Zm Vd:=ofL 51 0
def qZ:rF Vk:=fun D L a0=>
 bif (decide ((0:Int)<=(a0.length:Int)/\((a0.length:Int):Int)=(a0.length:Int))&&fits (Int.toNat (a0.length:Int)) 16)then
 (Zm L (a0,0,(List.replicate (Int.toNat (a0.length:Int)) (0,0)))).bind fun z4=>
 some z4 else none
theorem QaF:OfF Vk qZ:=ofF 51
def JL:rL X8:=fun D L (y0,y1,y2,y3,y4,y5,y6,y7,y8,y9,y10,y11,y12,y13,y14)=>
 bif (decide (y2<y1))then(bif inb y2 y0.length then
 (QG D ((rd1 (0:Int) y0 y2),0,3)).bind fun r4=>
 bif (!r4)then(some (Sum.inl false))
 else(bif (decide (0<y2))then(bif inb (wR (y2 - 1)) y11.length then
 bif (decide ((rd1 (0:Int) y0 y2)<=(rd1 (0:Int) y11 (wR (y2 - 1)))))then(some (Sum.inl false))
 else(X8 L (y0,y1,(wR (y2+1)),y3,y4,y5,y6,y7,y8,y9,y10,y11,y12,y13,y14))else none)
 else(X8 L (y0,y1,(wR (y2+1)),y3,y4,y5,y6,y7,y8,y9,y10,y11,y12,y13,y14)))else none)
 else(some (Sum.inr (y3,y4,y5,y6,y7,y8,y9,y10,y11,y12,y13,y14)))
theorem xl:OfL X8 JL:=ofL 52 0
def JI:rL ZY:=fun D L (y0,y1,y2,y3,y4,y5,y6,y7,y8,y9,y10,y11,y12,y13,y14)=>
 bif (decide (y2<y1))then(bif inb y2 y0.length then
 (QG D ((rd1 (0:Int) y0 y2),0,100000)).bind fun r8=>
 bif (!r8)then(some (Sum.inl false))
 else(ZY L (y0,y1,(wR (y2+1)),y3,y4,y5,y6,y7,y8,y9,y10,y11,y12,y13,y14))else none)
 else(some (Sum.inr (y3,y4,y5,y6,y7,y8,y9,y10,y11,y12,y13,y14)))
theorem qW:OfL ZY JI:=ofL 52 2
def zl:rF ZU:=fun D L (a0,a1,a2,a3,a4,a5,a6,a7,a8,a9,a10,a11)=>
 (QG D (a0,0,5)).bind fun r1=>
 bif (!r1)then(some false)
 else((XP D a1).bind fun r2=>
 bif (!r2)then(some false)
 else((XP D a2).bind fun r3=>
 bif (!r3)then(some false)
 else(bif (decide (a1=a2))then(some false)
 else((X8 L (a8,(a8.length:Int),0,a0,a1,a2,a3,a4,a5,a6,a7,a8,a9,a10,a11)).bind fun z5=>
 QK z5 (fun u6=>
 some u6)
 (fun z7=>
 (ZY L (z7.2.2.2.2.2.2.2.1,(z7.2.2.2.2.2.2.2.1.length:Int),0,z7)).bind fun z9=>
 QK z9 (fun u10=>
 some u10)
 (fun z11=>
 (QG D (z11.2.2.2.1,0,100000)).bind fun r12=>
 bif r12 then((QG D (z11.2.2.2.2.1,0,100000)).bind fun r13=>
 bif r13 then((VZ D (z11.2.2.2.2.2.1,z11.2.2.2.2.2.2.1)).bind fun r14=>
 bif r14 then(bif (decide ((z11.2.2.2.2.2.2.2.1.length:Int)<=5))then((Va D (z11.2.2.2.2.2.2.2.2.2.1,z11.2.2.2.2.2.2.2.2.2.2.1)).bind fun r15=>
 bif r15 then((KS D z11.2.2.2.2.2.2.2.2.2.2.2).bind fun r16=>
 some r16)
 else(some false))
 else(some false))
 else(some false))
 else(some false))
 else(some false)))))))
theorem QcN:OfF ZU zl:=ofF 52
def Y3:rL XH:=fun D L (y0,y1,y2,y3,y4,y5)=>
 bif (decide (y2<y1))then(bif inb y2 y0.length then
 let e1:=(rd1 Yk y0 y2);
 (QD D e1.1).bind fun r2=>
 bif fits (ByteArray.size r2+ByteArray.size (⟨#[61]⟩:ByteArray)) 1 then
 (YR D e1.2).bind fun r3=>
 bif fits (ByteArray.size (r2++(⟨#[61]⟩:ByteArray))+ByteArray.size r3) 1 then
 bif fits (y5.length+List.length ([((r2++(⟨#[61]⟩:ByteArray))++r3)]:List ByteArray)) 16 then
 XH L (y0,y1,(wR (y2+1)),y3,y4,(y5++([((r2++(⟨#[61]⟩:ByteArray))++r3)]:List ByteArray)))else none else none else none else none)
 else(some (y3,y4,y5))
theorem Vc:OfL XH Y3:=ofL 53 0
def Y4:rL XI:=fun D L (y0,y1,y2,y3)=>
 bif (decide (y2<y1))then(bif inb y2 y0.length then
 let e5:=(rd1 QV y0 y2);
 (QD D e5.1).bind fun r6=>
 bif fits (ByteArray.size (⟨#[45]⟩:ByteArray)+ByteArray.size r6) 1 then
 bif fits (ByteArray.size ((⟨#[45]⟩:ByteArray)++r6)+ByteArray.size (⟨#[60]⟩:ByteArray)) 1 then
 (QD D e5.2).bind fun r7=>
 bif fits (ByteArray.size (((⟨#[45]⟩:ByteArray)++r6)++(⟨#[60]⟩:ByteArray))+ByteArray.size r7) 1 then
 bif fits (y3.length+List.length ([((((⟨#[45]⟩:ByteArray)++r6)++(⟨#[60]⟩:ByteArray))++r7)]:List ByteArray)) 16 then
 XI L (y0,y1,(wR (y2+1)),(y3++([((((⟨#[45]⟩:ByteArray)++r6)++(⟨#[60]⟩:ByteArray))++r7)]:List ByteArray)))else none else none else none else none else none)
 else(some y3)
theorem K5:OfL XI Y4:=ofL 53 2
def Ji:rF YV:=fun D L (a0,a1)=>
 (XH L (a0,(a0.length:Int),0,a0,a1,[])).bind fun z4=>
 (XI L (z4.2.1,(z4.2.1.length:Int),0,z4.2.2)).bind fun z8=>
 (strings_Join D (z8,(⟨#[32]⟩:ByteArray))).bind fun r9=>
 some r9
theorem vm:OfF YV Ji:=ofF 53
def xC:rF V1:=fun D L (a0,a1,a2,a3)=>
 (Ya D (a0,a2)).bind fun r1=>
 bif (!r1)then(some false)
 else(bif (!decide (a1=a3))then(some false)
 else(some true))
theorem Qb9:OfF V1 xC:=ofF 54
end
end Go.Proofs.YtameehmkoglkeaaDoor.M
