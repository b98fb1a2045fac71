/- Plain forms of the functions that FnExactStep reaches, part 5. No conditions. -/
import Derived.Test.YtjenicbpdklpbaaGreatFnExactStepTab
set_option linter.all false
namespace Go.Proofs.YtjenicbpdklpbaaGreat.M
open Go Go.Eng Go.Proofs
set_option linter.unusedVariables false
noncomputable section
def yp:rL Z9:=fun D L (y0,y1,y2)=>
 bif (decide (y1<(y2.length:Int)))then(bif inb y1 y2.length then
 let e1:=(rd1 Y8 y2 y1);
 (Vw D ((rd1 Y8 y2 y1).1,y0)).bind fun r2=>
 let e3:=(rd1 Y8 y2 y1);
 let l4:=List.set y2 (Int.toNat y1) (r2.2,e3.2);
 bif inb y1 l4.length then
 let e5:=(rd1 Y8 l4 y1);
 (KR D ((rd1 Y8 l4 y1).2,r2.1)).bind fun r6=>
 let e7:=(rd1 Y8 l4 y1);
 let l8:=List.set l4 (Int.toNat y1) (e7.1,r6.2);
 Z9 L (r6.1,(wR (y1+1)),l8)else none else none)
 else(some (y0,y2))
theorem Qal:OfL Z9 yp:=ofL 181 0
def Qdv:rF zP:=fun D L (a0,a1)=>
 (Z9 L (a1,0,a0)).bind fun z9=>
 some z9
theorem Qpg:OfF zP Qdv:=ofF 181
def yk:rL Ye:=fun D L (y0,y1,y2)=>
 bif (decide (y2<(y0.length:Int)))then(bif inb y2 y0.length then
 let e1:=(rd1 XN y0 y2);
 bif (!decide (e1.1=y1))then(some (Sum.inl (-1)))
 else(bif inb y2 y0.length then
 let e2:=(rd1 XN y0 y2);
 bif (!decide (e2.2=(wR (y1+1))))then(some (Sum.inl (-1)))
 else(Ye L (y0,(wR ((wR (y1+1))+1)),(wR (y2+1))))else none)else none)
 else(some (Sum.inr y1))
theorem v8:OfL Ye yk:=ofL 182 0
def Qdx:rF KT:=fun D L (a0,a1)=>
 (Ye L (a0,a1,0)).bind fun z3=>
 Qn z3 (fun u4=>
 some u4)
 (fun z5=>
 some z5)
theorem QpT:OfF KT Qdx:=ofF 182
def zX:rL Yd:=fun D L (y0,y1,y2)=>
 bif (decide (y2<(y0.length:Int)))then(bif inb y2 y0.length then
 let e1:=(rd1 Y8 y0 y2);
 (Vy D (e1.1,y1)).bind fun r2=>
 bif (decide (r2<0))then(some (Sum.inl (-1)))
 else(bif inb y2 y0.length then
 let e3:=(rd1 Y8 y0 y2);
 (KT D (e3.2,r2)).bind fun r4=>
 bif (decide (r4<0))then(some (Sum.inl (-1)))
 else(Yd L (y0,r4,(wR (y2+1))))else none)else none)
 else(some (Sum.inr y1))
theorem Qav:OfL Yd zX:=ofL 183 0
def Qdm:rF zV:=fun D L (a0,a1)=>
 (Yd L (a0,a1,0)).bind fun z5=>
 Qn z5 (fun u6=>
 some u6)
 (fun z7=>
 some z7)
theorem Qpj:OfF zV Qdm:=ofF 183
def QiK:rF Qbm:=fun D L (a0,a1,a2,a3,a4,a5,a6,a7,a8,a9)=>
 bif (!decide (a0=a5))then(some false)
 else(bif (!decide (a1=a6))then(some false)
 else(bif (!decide (a2=a7))then(some false)
 else(bif (!decide (a3=a8))then(some false)
 else(bif (!qI a4 a9)then(some false)
 else(some true)))))
theorem QtL:OfF Qbm QiK:=ofF 184
def jT:rL YV:=fun D L (y0,y1,y2)=>
 bif (decide (y1<(y2.length:Int)))then(bif inb y1 y2.length then
 let l1:=List.set y2 (Int.toNat y1) (IntKind.wrap .u8 y0);
 YV L ((wR (y0+1)),(wR (y1+1)),l1)else none)
 else(some (y0,y2))
theorem QaX:OfL YV jT:=ofL 185 0
def Qfz:rF yU:=fun D L (a0,a1)=>
 (YV L (a1,0,a0)).bind fun z2=>
 some z2
theorem QqG:OfF yU Qfz:=ofF 185
def Qcc:rL qe:=fun D L (y0,y1,y2,y3)=>
 bif (decide (y1<(y2.length:Int)))then(bif inb y1 y2.length then
 let e1:=(rd1 XU y2 y1);
 bif (decide (e1.1=y0))then(bif inb y1 y2.length then
 let e2:=(rd1 XU y2 y1);
 some (Sum.inl (true,e2.2))else none)
 else(qe L (y0,(wR (y1+1)),y2,y3))else none)
 else(some (Sum.inr ()))
theorem Qfm:OfL qe Qcc:=ofL 186 0
def Qib:rF Yw:=fun D L (a0,a1,a2)=>
 (qe L (a2,0,a0,a1)).bind fun z3=>
 Qn z3 (fun u4=>
 some (u4.2.1,u4.2.2.1,u4.2.2.2.1,u4.2.2.2.2.1,u4.2.2.2.2.2,u4.1))
 (fun z5=>
 some (0,0,0,0,ByteArray.empty,false))
theorem QuR:OfF Yw Qib:=ofF 186
def QbG:rL JD:=fun D L (y0,y1,y2,y3)=>
 bif (decide (y3<y2))then(bif inb y3 y1.length then
 let e1:=(rd1 XU y1 y3);
 bif (decide (e1.1=y0))then(some (Sum.inl (true,e1.2)))
 else(JD L (y0,y1,y2,(wR (y3+1))))else none)
 else(some (Sum.inr ()))
theorem Qfo:OfL JD QbG:=ofL 187 0
def QjN:rF VK:=fun D L (a0,a1,a2)=>
 (JD L (a2,a0,(a0.length:Int),0)).bind fun z2=>
 Qn z2 (fun u3=>
 some (u3.2.1,u3.2.2.1,u3.2.2.2.1,u3.2.2.2.2.1,u3.2.2.2.2.2,u3.1))
 (fun z4=>
 some (0,0,0,0,ByteArray.empty,false))
theorem Qsz:OfF VK QjN:=ofF 187
def Qha:rF vr:=fun D L (a0,a1,a2,a3,a4,a5,a6,a7,a8,a9)=>
 (vv D (a0,a1,a2,a3,a4,a5,a6,a7,a8,a9)).bind fun r1=>
 bif (decide (r1<0))then(some (a5,a6,a7,a8,a9))
 else(some (a0,a1,a2,a3,a4))
theorem QrD:OfF vr Qha:=ofF 189
def vu:rL Je:=fun D L (y0,y1,y2,y3,y4,y5,y6,y7,y8,y9,y10,y11,y12)=>
 bif (decide (y0<(y9.length:Int)))then(bif inb y0 y9.length then
 bif inb (wR (y0 - 1)) y9.length then
 bif (decide ((rd1 (0:Int) y9 y0)<=(rd1 (0:Int) y9 (wR (y0 - 1)))))then(some (Sum.inl false))
 else(Je L ((wR (y0+1)),y1,y2,y3,y4,y5,y6,y7,y8,y9,y10,y11,y12))else none else none)
 else(some (Sum.inr ()))
theorem vQ:OfL Je vu:=ofL 194 0
def QmX:rF QaI:=fun D L (a0,a1,a2,a3,a4,a5,a6,a7,a8,a9,a10,a11)=>
 (QE D (a0,0,5)).bind fun r1=>
 bif (!r1)then(some false)
 else((Yo D a1).bind fun r2=>
 bif (!r2)then(some false)
 else((Yo D a2).bind fun r3=>
 bif (!r3)then(some false)
 else(bif (decide (a1=a2))then(some false)
 else((QE D (a3,0,100000)).bind fun r4=>
 bif (!r4)then(some false)
 else((QE D (a4,0,100000)).bind fun r5=>
 bif (!r5)then(some false)
 else((QbE D (a5,a6)).bind fun r6=>
 bif (!r6)then(some false)
 else((qZ D (a7,5,100000)).bind fun r7=>
 bif (!r7)then(some false)
 else((qZ D (a8,4,3)).bind fun r8=>
 bif (!r8)then(some false)
 else((XA D (a9,a10)).bind fun r9=>
 bif (!r9)then(some false)
 else((yH D a11).bind fun r10=>
 bif (!r10)then(some false)
 else((Je L (1,a0,a1,a2,a3,a4,a5,a6,a7,a8,a9,a10,a11)).bind fun z11=>
 Qn z11 (fun u12=>
 some u12)
 (fun z13=>
 some true))))))))))))
theorem QxD:OfF QaI QmX:=ofF 194
def QgI:rL Jc:=fun D L (y0,y1,y2,y3,y4,y5,y6,y7,y8,y9,y10,y11,y12,y13,y14)=>
 bif (decide (y2<y1))then(bif inb y2 y0.length then
 (QA D ((rd1 (0:Int) y0 y2),0,3)).bind fun r4=>
 bif (!r4)then(some (Sum.inl false))
 else(bif (decide (0<y2))then(bif inb (wR (y2 - 1)) y11.length then
 bif (decide ((rd1 (0:Int) y0 y2)<=(rd1 (0:Int) y11 (wR (y2 - 1)))))then(some (Sum.inl false))
 else(Jc L (y0,y1,(wR (y2+1)),y3,y4,y5,y6,y7,y8,y9,y10,y11,y12,y13,y14))else none)
 else(Jc L (y0,y1,(wR (y2+1)),y3,y4,y5,y6,y7,y8,y9,y10,y11,y12,y13,y14)))else none)
 else(some (Sum.inr (y3,y4,y5,y6,y7,y8,y9,y10,y11,y12,y13,y14)))
theorem Qj2:OfL Jc QgI:=ofL 200 0
def QgB:rL za:=fun D L (y0,y1,y2,y3,y4,y5,y6,y7,y8,y9,y10,y11,y12,y13,y14)=>
 bif (decide (y2<y1))then(bif inb y2 y0.length then
 (QA D ((rd1 (0:Int) y0 y2),0,100000)).bind fun r8=>
 bif (!r8)then(some (Sum.inl false))
 else(za L (y0,y1,(wR (y2+1)),y3,y4,y5,y6,y7,y8,y9,y10,y11,y12,y13,y14))else none)
 else(some (Sum.inr (y3,y4,y5,y6,y7,y8,y9,y10,y11,y12,y13,y14)))
theorem Qjg:OfL za QgB:=ofL 200 2
def QmY:rF Qbk:=fun D L (a0,a1,a2,a3,a4,a5,a6,a7,a8,a9,a10,a11)=>
 (QA D (a0,0,5)).bind fun r1=>
 bif (!r1)then(some false)
 else((Yq D a1).bind fun r2=>
 bif (!r2)then(some false)
 else((Yq D a2).bind fun r3=>
 bif (!r3)then(some false)
 else(bif (decide (a1=a2))then(some false)
 else((Jc L (a8,(a8.length:Int),0,a0,a1,a2,a3,a4,a5,a6,a7,a8,a9,a10,a11)).bind fun z5=>
 Qn z5 (fun u6=>
 some u6)
 (fun z7=>
 (za L (z7.2.2.2.2.2.2.2.1,(z7.2.2.2.2.2.2.2.1.length:Int),0,z7)).bind fun z9=>
 Qn z9 (fun u10=>
 some u10)
 (fun z11=>
 (QA D (z11.2.2.2.1,0,100000)).bind fun r12=>
 bif r12 then((QA D (z11.2.2.2.2.1,0,100000)).bind fun r13=>
 bif r13 then((Qet D (z11.2.2.2.2.2.1,z11.2.2.2.2.2.2.1)).bind fun r14=>
 bif r14 then(bif (decide ((z11.2.2.2.2.2.2.2.1.length:Int)<=5))then((Xp D (z11.2.2.2.2.2.2.2.2.2.1,z11.2.2.2.2.2.2.2.2.2.2.1)).bind fun r15=>
 bif r15 then((yI D z11.2.2.2.2.2.2.2.2.2.2.2).bind fun r16=>
 some r16)
 else(some false))
 else(some false))
 else(some false))
 else(some false))
 else(some false)))))))
theorem QxI:OfF Qbk QmY:=ofF 200
def Qj9:rF Qcy:=fun D L (a0,a1,a2)=>
 bif fits (List.length ([]:List Int)+a1.length) 1 then
 some (a0,(([]:List Int)++a1),a2)else none
theorem QuH:OfF Qcy Qj9:=ofF 203
def Qhu:rF vG:=fun D L (a0,a1,a2)=>
 (Kp D [a1]).bind fun r1=>
 some (a0,r1,a2)
theorem QrW:OfF vG Qhu:=ofF 204
def jI:rL YL:=fun D L (y0,y1,y2)=>
 bif (decide (y2<(y0.length:Int)))then(bif inb y2 y0.length then
 bif (!decide ((rd1 (0:Int) y0 y2)=(IntKind.wrap .u8 y1)))then(some (Sum.inl (-1)))
 else(YL L (y0,(wR (y1+1)),(wR (y2+1))))else none)
 else(some (Sum.inr y1))
theorem Qcx:OfL YL jI:=ofL 205 0
def Qf6:rF je:=fun D L (a0,a1)=>
 (YL L (a0,a1,0)).bind fun z1=>
 Qn z1 (fun u2=>
 some u2)
 (fun z3=>
 some z3)
theorem QqV:OfF je Qf6:=ofF 205
def Qja:rF QbJ:=fun D L (a0,a1,a2,a3,a4)=>
 bif (decide (a2=0))then((QAj D (a0,a1,a3)).bind fun r1=>
 some r1)
 else(bif (decide (a2=1))then((Qa7 D (a0,a1,a3)).bind fun r2=>
 some r2)
 else(bif (decide (a2=2))then((QBf D (a0,a1,a3,a4)).bind fun r3=>
 some r3)
 else((QAe D (a0,a1,a3)).bind fun r4=>
 some r4)))
theorem Qtp:OfF QbJ Qja:=ofF 206
def QlO:rF Qen:=fun D L (a0,a1,a2,a3,a4)=>
 (zy D (a0,a1,a2)).bind fun r1=>
 (Vg D (a0,a1,a2)).bind fun r2=>
 bif (!r2)then(some (r1.1,r1.2.1,r1.2.2,false))
 else((XA D (a3,a4)).bind fun r3=>
 bif (!r3)then(some (r1.1,r1.2.1,r1.2.2,false))
 else(bif (decide ((wR (a1+(a2.length:Int)))=100000))then(some (r1.1,r1.2.1,r1.2.2,false))
 else((ZY D (a3,a4)).bind fun r4=>
 bif fits (r1.2.2.length+ [r4].length) 48 then
 bif (decide (r1.1<((List.length (r1.2.2++[r4])):Int)))then(bif decide ((0:Int)<=1/\1<=(((List.length (r1.2.2++[r4])):Int):Int)/\((List.length (r1.2.2++[r4])):Int)<=((List.length (r1.2.2++[r4])):Int))then
 bif fits (List.length ([]:List Qj)+List.length (List.take (Int.toNat (((List.length (r1.2.2++[r4])):Int) - 1)) (List.drop (Int.toNat 1) (r1.2.2++[r4])))) 48 then
 some (r1.1,(wR (r1.2.1+1)),(([]:List Qj)++List.take (Int.toNat (((List.length (r1.2.2++[r4])):Int) - 1)) (List.drop (Int.toNat 1) (r1.2.2++[r4]))),true)else none else none)
 else(some (r1.1,r1.2.1,(r1.2.2++[r4]),true))else none)))
theorem QvK:OfF Qen QlO:=ofF 207
def Qbp:rL ZO:=fun D L (y0,y1,y2,y3,y4,y5,y6,y7,y8,y9,y10,y11,y12,y13,y14,y15,y16,y17,y18,y19,y20,y21,y22,y23,y24,y25,y26,y27,y28,y29,y30,y31,y32,y33,y34,y35,y36,y37,y38)=>
 bif (decide (y0<(y22.length:Int)))then(bif inb y0 y22.length then
 let e7:=(rd1 XU y22 y0);
 bif inb e7.1 y38.length then
 let e8:=(rd1 Zo y38 e7.1);
 bif (decide (e8.1<e7.2.1))then(bif inb e7.1 y38.length then
 let l9:=List.set y38 (Int.toNat e7.1) (e7.2.1,e7.2.2.2.1,y18);
 ZO L ((wR (y0+1)),y1,y2,y3,y4,y5,y6,y7,y8,y9,y10,y11,y12,y13,y14,y15,y16,y17,y18,y19,y20,y21,y22,y23,y24,y25,y26,y27,y28,y29,y30,y31,y32,y33,y34,y35,y36,y37,l9)else none)
 else(bif (decide (e7.2.1=e8.1))then(bif (decide (e8.2.1<e7.2.2.2.1))then(bif inb e7.1 y38.length then
 let l10:=List.set y38 (Int.toNat e7.1) (e7.2.1,e7.2.2.2.1,y18);
 ZO L ((wR (y0+1)),y1,y2,y3,y4,y5,y6,y7,y8,y9,y10,y11,y12,y13,y14,y15,y16,y17,y18,y19,y20,y21,y22,y23,y24,y25,y26,y27,y28,y29,y30,y31,y32,y33,y34,y35,y36,y37,l10)else none)
 else(ZO L ((wR (y0+1)),y1,y2,y3,y4,y5,y6,y7,y8,y9,y10,y11,y12,y13,y14,y15,y16,y17,y18,y19,y20,y21,y22,y23,y24,y25,y26,y27,y28,y29,y30,y31,y32,y33,y34,y35,y36,y37,y38)))
 else(ZO L ((wR (y0+1)),y1,y2,y3,y4,y5,y6,y7,y8,y9,y10,y11,y12,y13,y14,y15,y16,y17,y18,y19,y20,y21,y22,y23,y24,y25,y26,y27,y28,y29,y30,y31,y32,y33,y34,y35,y36,y37,y38)))else none else none)
 else(some (y20,y21,y22,y23,y24,y25,y26,y27,y28,y29,y30,y31,y32,y33,y34,y35,y36,y37,y38))
theorem Qfr:OfL ZO Qbp:=ofL 208 0
def Qic:rF xB:=fun D L (a0,a1,a2,a3,a4,a5,a6,a7,a8,a9,a10,a11,a12,a13,a14,a15,a16,a17,a18,a19,a20)=>
 (Xq D (a0,a1,a2,a3,a4,a5,a6,a7,a8,a9,a10,a11,a12,a13,a14,a15,a16,a17,a18)).bind fun r1=>
 (Yn D (a2,a3,a19,a20)).bind fun r2=>
 (xn D r2).bind fun r3=>
 (K3 D (a11,a0,r3)).bind fun r4=>
 (Qa6 D (r2.1,r2.2,r4)).bind fun r5=>
 (zo D r5).bind fun r6=>
 (ZO L (0,a0,a1,a2,a3,a4,a5,a6,a7,a8,a9,a10,a11,a12,a13,a14,a15,a16,a17,a18,r1.1,r1.2.1,r5.1,r5.2,r6.1,r6.2,r1.2.2.2.2.2.2.1,r1.2.2.2.2.2.2.2.1,r1.2.2.2.2.2.2.2.2.1,r1.2.2.2.2.2.2.2.2.2.1,r1.2.2.2.2.2.2.2.2.2.2.1,r4,r1.2.2.2.2.2.2.2.2.2.2.2.2)).bind fun z11=>
 some z11
theorem Qsu:OfF xB Qic:=ofF 208
def Qpr:rF QiT:=fun D L (a0,a1,a2,a3,a4,a5,a6,a7,a8,a9,a10,a11,a12,a13,a14,a15,a16,a17,a18,a19)=>
 (Xq D (a0,a1,a2,a3,a4,a5,a6,a7,a8,a9,a10,a11,a12,a13,a14,a15,a16,a17,a18)).bind fun r1=>
 (Yp D (a0,a1,a2,a3,a4,a5,a6,a7,a8,a9,a10,a11,a12,a13,a14,a15,a16,a17,a18)).bind fun r2=>
 bif (!r2)then(some (r1.1,r1.2.1,r1.2.2.1,r1.2.2.2.1,r1.2.2.2.2.1,r1.2.2.2.2.2.1,r1.2.2.2.2.2.2.1,r1.2.2.2.2.2.2.2.1,r1.2.2.2.2.2.2.2.2.1,r1.2.2.2.2.2.2.2.2.2.1,r1.2.2.2.2.2.2.2.2.2.2.1,r1.2.2.2.2.2.2.2.2.2.2.2.1,r1.2.2.2.2.2.2.2.2.2.2.2.2.1,r1.2.2.2.2.2.2.2.2.2.2.2.2.2.1,r1.2.2.2.2.2.2.2.2.2.2.2.2.2.2.1,r1.2.2.2.2.2.2.2.2.2.2.2.2.2.2.2.1,r1.2.2.2.2.2.2.2.2.2.2.2.2.2.2.2.2.1,r1.2.2.2.2.2.2.2.2.2.2.2.2.2.2.2.2.2.1,r1.2.2.2.2.2.2.2.2.2.2.2.2.2.2.2.2.2.2,0,0,0,0,0,[],0,[],[],[],[],[],false))
 else((Qay D (a0,a1,a2,a3,a4,a5,a6,a7,a8,a9,a10,a11,a12,a13,a14,a15,a16,a17,a18,a19)).bind fun r3=>
 bif (!r3)then(some (r1.1,r1.2.1,r1.2.2.1,r1.2.2.2.1,r1.2.2.2.2.1,r1.2.2.2.2.2.1,r1.2.2.2.2.2.2.1,r1.2.2.2.2.2.2.2.1,r1.2.2.2.2.2.2.2.2.1,r1.2.2.2.2.2.2.2.2.2.1,r1.2.2.2.2.2.2.2.2.2.2.1,r1.2.2.2.2.2.2.2.2.2.2.2.1,r1.2.2.2.2.2.2.2.2.2.2.2.2.1,r1.2.2.2.2.2.2.2.2.2.2.2.2.2.1,r1.2.2.2.2.2.2.2.2.2.2.2.2.2.2.1,r1.2.2.2.2.2.2.2.2.2.2.2.2.2.2.2.1,r1.2.2.2.2.2.2.2.2.2.2.2.2.2.2.2.2.1,r1.2.2.2.2.2.2.2.2.2.2.2.2.2.2.2.2.2.1,r1.2.2.2.2.2.2.2.2.2.2.2.2.2.2.2.2.2.2,0,0,0,0,0,[],0,[],[],[],[],[],false))
 else((Qas D (a0,a1,a2,a3,a4,a5,a6,a7,a8,a9,a10,a11,a12,a13,a14,a15,a16,a17,a18,a19,false)).bind fun r4=>
 bif (decide (0<=r4))then(some (r1.1,r1.2.1,r1.2.2.1,r1.2.2.2.1,r1.2.2.2.2.1,r1.2.2.2.2.2.1,r1.2.2.2.2.2.2.1,r1.2.2.2.2.2.2.2.1,r1.2.2.2.2.2.2.2.2.1,r1.2.2.2.2.2.2.2.2.2.1,r1.2.2.2.2.2.2.2.2.2.2.1,r1.2.2.2.2.2.2.2.2.2.2.2.1,r1.2.2.2.2.2.2.2.2.2.2.2.2.1,r1.2.2.2.2.2.2.2.2.2.2.2.2.2.1,r1.2.2.2.2.2.2.2.2.2.2.2.2.2.2.1,r1.2.2.2.2.2.2.2.2.2.2.2.2.2.2.2.1,r1.2.2.2.2.2.2.2.2.2.2.2.2.2.2.2.2.1,r1.2.2.2.2.2.2.2.2.2.2.2.2.2.2.2.2.2.1,r1.2.2.2.2.2.2.2.2.2.2.2.2.2.2.2.2.2.2,0,0,0,0,0,[],0,[],[],[],[],[],false))
 else(bif (decide ((a14.length:Int)=a13))then(some (r1.1,r1.2.1,r1.2.2.1,r1.2.2.2.1,r1.2.2.2.2.1,r1.2.2.2.2.2.1,r1.2.2.2.2.2.2.1,r1.2.2.2.2.2.2.2.1,r1.2.2.2.2.2.2.2.2.1,r1.2.2.2.2.2.2.2.2.2.1,r1.2.2.2.2.2.2.2.2.2.2.1,r1.2.2.2.2.2.2.2.2.2.2.2.1,r1.2.2.2.2.2.2.2.2.2.2.2.2.1,r1.2.2.2.2.2.2.2.2.2.2.2.2.2.1,r1.2.2.2.2.2.2.2.2.2.2.2.2.2.2.1,r1.2.2.2.2.2.2.2.2.2.2.2.2.2.2.2.1,r1.2.2.2.2.2.2.2.2.2.2.2.2.2.2.2.2.1,r1.2.2.2.2.2.2.2.2.2.2.2.2.2.2.2.2.2.1,r1.2.2.2.2.2.2.2.2.2.2.2.2.2.2.2.2.2.2,0,0,0,0,0,[],0,[],[],[],[],[],false))
 else(bif (decide (a12=100000))then(some (r1.1,r1.2.1,r1.2.2.1,r1.2.2.2.1,r1.2.2.2.2.1,r1.2.2.2.2.2.1,r1.2.2.2.2.2.2.1,r1.2.2.2.2.2.2.2.1,r1.2.2.2.2.2.2.2.2.1,r1.2.2.2.2.2.2.2.2.2.1,r1.2.2.2.2.2.2.2.2.2.2.1,r1.2.2.2.2.2.2.2.2.2.2.2.1,r1.2.2.2.2.2.2.2.2.2.2.2.2.1,r1.2.2.2.2.2.2.2.2.2.2.2.2.2.1,r1.2.2.2.2.2.2.2.2.2.2.2.2.2.2.1,r1.2.2.2.2.2.2.2.2.2.2.2.2.2.2.2.1,r1.2.2.2.2.2.2.2.2.2.2.2.2.2.2.2.2.1,r1.2.2.2.2.2.2.2.2.2.2.2.2.2.2.2.2.2.1,r1.2.2.2.2.2.2.2.2.2.2.2.2.2.2.2.2.2.2,0,0,0,0,0,[],0,[],[],[],[],[],false))
 else(bif fits (r1.2.2.2.2.2.2.2.2.2.2.2.2.2.2.1.length+ [(a19,(wR (r1.2.2.2.2.2.2.2.2.2.2.2.2.1+1)),false,0)].length) 32 then
 (Z1 D (r1.1,r1.2.1,r1.2.2.1,r1.2.2.2.1,r1.2.2.2.2.1,r1.2.2.2.2.2.1,r1.2.2.2.2.2.2.1,r1.2.2.2.2.2.2.2.1,r1.2.2.2.2.2.2.2.2.1,r1.2.2.2.2.2.2.2.2.2.1,r1.2.2.2.2.2.2.2.2.2.2.1,r1.2.2.2.2.2.2.2.2.2.2.2.1,(wR (r1.2.2.2.2.2.2.2.2.2.2.2.2.1+1)),r1.2.2.2.2.2.2.2.2.2.2.2.2.2.1,(r1.2.2.2.2.2.2.2.2.2.2.2.2.2.2.1++[(a19,(wR (r1.2.2.2.2.2.2.2.2.2.2.2.2.1+1)),false,0)]),r1.2.2.2.2.2.2.2.2.2.2.2.2.2.2.2.1,r1.2.2.2.2.2.2.2.2.2.2.2.2.2.2.2.2.1,r1.2.2.2.2.2.2.2.2.2.2.2.2.2.2.2.2.2.1,r1.2.2.2.2.2.2.2.2.2.2.2.2.2.2.2.2.2.2,2,a19,(wR (r1.2.2.2.2.2.2.2.2.2.2.2.2.1+1)))).bind fun r5=>
 (Kr D (r1.2.2.2.2.1,r1.2.2.2.2.2.1)).bind fun r6=>
 some (r1.1,r1.2.1,r1.2.2.1,r1.2.2.2.1,r1.2.2.2.2.1,r1.2.2.2.2.2.1,r1.2.2.2.2.2.2.1,r1.2.2.2.2.2.2.2.1,r1.2.2.2.2.2.2.2.2.1,r1.2.2.2.2.2.2.2.2.2.1,r1.2.2.2.2.2.2.2.2.2.2.1,r1.2.2.2.2.2.2.2.2.2.2.2.1,(wR (r1.2.2.2.2.2.2.2.2.2.2.2.2.1+1)),r1.2.2.2.2.2.2.2.2.2.2.2.2.2.1,(r1.2.2.2.2.2.2.2.2.2.2.2.2.2.2.1++[(a19,(wR (r1.2.2.2.2.2.2.2.2.2.2.2.2.1+1)),false,0)]),r1.2.2.2.2.2.2.2.2.2.2.2.2.2.2.2.1,r1.2.2.2.2.2.2.2.2.2.2.2.2.2.2.2.2.1,r1.2.2.2.2.2.2.2.2.2.2.2.2.2.2.2.2.2.1,r1.2.2.2.2.2.2.2.2.2.2.2.2.2.2.2.2.2.2,r5.1,r5.2.1,r5.2.2.1,r5.2.2.2.1,r5.2.2.2.2.1,r6.1,r6.2,r5.2.2.2.2.2.2.2.1,r5.2.2.2.2.2.2.2.2.1,r5.2.2.2.2.2.2.2.2.2.1,r5.2.2.2.2.2.2.2.2.2.2.1,r5.2.2.2.2.2.2.2.2.2.2.2,true)else none)))))
theorem QAH:OfF QiT Qpr:=ofF 209
def Qjn:rF Ys:=fun D L (a0,a1,a2,a3,a4,a5,a6,a7,a8,a9,a10,a11,a12,a13,a14,a15,a16,a17,a18,a19,a20,a21,a22,a23,a24,a25,a26,a27,a28,a29,a30)=>
 (Yp D (a0,a1,a2,a3,a4,a5,a6,a7,a8,a9,a10,a11,a12,a13,a14,a15,a16,a17,a18)).bind fun r1=>
 bif (!r1)then((Xq D (a0,a1,a2,a3,a4,a5,a6,a7,a8,a9,a10,a11,a12,a13,a14,a15,a16,a17,a18)).bind fun r2=>
 some (r2.1,r2.2.1,r2.2.2.1,r2.2.2.2.1,r2.2.2.2.2.1,r2.2.2.2.2.2.1,r2.2.2.2.2.2.2.1,r2.2.2.2.2.2.2.2.1,r2.2.2.2.2.2.2.2.2.1,r2.2.2.2.2.2.2.2.2.2.1,r2.2.2.2.2.2.2.2.2.2.2.1,r2.2.2.2.2.2.2.2.2.2.2.2.1,r2.2.2.2.2.2.2.2.2.2.2.2.2.1,r2.2.2.2.2.2.2.2.2.2.2.2.2.2.1,r2.2.2.2.2.2.2.2.2.2.2.2.2.2.2.1,r2.2.2.2.2.2.2.2.2.2.2.2.2.2.2.2.1,r2.2.2.2.2.2.2.2.2.2.2.2.2.2.2.2.2.1,r2.2.2.2.2.2.2.2.2.2.2.2.2.2.2.2.2.2.1,r2.2.2.2.2.2.2.2.2.2.2.2.2.2.2.2.2.2.2,[],1))
 else((QaI D (a19,a20,a21,a22,a23,a24,a25,a26,a27,a28,a29,a30)).bind fun r3=>
 bif (!r3)then((Xq D (a0,a1,a2,a3,a4,a5,a6,a7,a8,a9,a10,a11,a12,a13,a14,a15,a16,a17,a18)).bind fun r4=>
 some (r4.1,r4.2.1,r4.2.2.1,r4.2.2.2.1,r4.2.2.2.2.1,r4.2.2.2.2.2.1,r4.2.2.2.2.2.2.1,r4.2.2.2.2.2.2.2.1,r4.2.2.2.2.2.2.2.2.1,r4.2.2.2.2.2.2.2.2.2.1,r4.2.2.2.2.2.2.2.2.2.2.1,r4.2.2.2.2.2.2.2.2.2.2.2.1,r4.2.2.2.2.2.2.2.2.2.2.2.2.1,r4.2.2.2.2.2.2.2.2.2.2.2.2.2.1,r4.2.2.2.2.2.2.2.2.2.2.2.2.2.2.1,r4.2.2.2.2.2.2.2.2.2.2.2.2.2.2.2.1,r4.2.2.2.2.2.2.2.2.2.2.2.2.2.2.2.2.1,r4.2.2.2.2.2.2.2.2.2.2.2.2.2.2.2.2.2.1,r4.2.2.2.2.2.2.2.2.2.2.2.2.2.2.2.2.2.2,[],1))
 else(bif (!decide (a21=a0))then((Xq D (a0,a1,a2,a3,a4,a5,a6,a7,a8,a9,a10,a11,a12,a13,a14,a15,a16,a17,a18)).bind fun r5=>
 some (r5.1,r5.2.1,r5.2.2.1,r5.2.2.2.1,r5.2.2.2.2.1,r5.2.2.2.2.2.1,r5.2.2.2.2.2.2.1,r5.2.2.2.2.2.2.2.1,r5.2.2.2.2.2.2.2.2.1,r5.2.2.2.2.2.2.2.2.2.1,r5.2.2.2.2.2.2.2.2.2.2.1,r5.2.2.2.2.2.2.2.2.2.2.2.1,r5.2.2.2.2.2.2.2.2.2.2.2.2.1,r5.2.2.2.2.2.2.2.2.2.2.2.2.2.1,r5.2.2.2.2.2.2.2.2.2.2.2.2.2.2.1,r5.2.2.2.2.2.2.2.2.2.2.2.2.2.2.2.1,r5.2.2.2.2.2.2.2.2.2.2.2.2.2.2.2.2.1,r5.2.2.2.2.2.2.2.2.2.2.2.2.2.2.2.2.2.1,r5.2.2.2.2.2.2.2.2.2.2.2.2.2.2.2.2.2.2,[],1))
 else(bif (decide (a1<=a20))then((Xq D (a0,a1,a2,a3,a4,a5,a6,a7,a8,a9,a10,a11,a12,a13,a14,a15,a16,a17,a18)).bind fun r6=>
 some (r6.1,r6.2.1,r6.2.2.1,r6.2.2.2.1,r6.2.2.2.2.1,r6.2.2.2.2.2.1,r6.2.2.2.2.2.2.1,r6.2.2.2.2.2.2.2.1,r6.2.2.2.2.2.2.2.2.1,r6.2.2.2.2.2.2.2.2.2.1,r6.2.2.2.2.2.2.2.2.2.2.1,r6.2.2.2.2.2.2.2.2.2.2.2.1,r6.2.2.2.2.2.2.2.2.2.2.2.2.1,r6.2.2.2.2.2.2.2.2.2.2.2.2.2.1,r6.2.2.2.2.2.2.2.2.2.2.2.2.2.2.1,r6.2.2.2.2.2.2.2.2.2.2.2.2.2.2.2.1,r6.2.2.2.2.2.2.2.2.2.2.2.2.2.2.2.2.1,r6.2.2.2.2.2.2.2.2.2.2.2.2.2.2.2.2.2.1,r6.2.2.2.2.2.2.2.2.2.2.2.2.2.2.2.2.2.2,[],1))
 else(bif (!decide ((a26.length:Int)=a1))then((Xq D (a0,a1,a2,a3,a4,a5,a6,a7,a8,a9,a10,a11,a12,a13,a14,a15,a16,a17,a18)).bind fun r7=>
 some (r7.1,r7.2.1,r7.2.2.1,r7.2.2.2.1,r7.2.2.2.2.1,r7.2.2.2.2.2.1,r7.2.2.2.2.2.2.1,r7.2.2.2.2.2.2.2.1,r7.2.2.2.2.2.2.2.2.1,r7.2.2.2.2.2.2.2.2.2.1,r7.2.2.2.2.2.2.2.2.2.2.1,r7.2.2.2.2.2.2.2.2.2.2.2.1,r7.2.2.2.2.2.2.2.2.2.2.2.2.1,r7.2.2.2.2.2.2.2.2.2.2.2.2.2.1,r7.2.2.2.2.2.2.2.2.2.2.2.2.2.2.1,r7.2.2.2.2.2.2.2.2.2.2.2.2.2.2.2.1,r7.2.2.2.2.2.2.2.2.2.2.2.2.2.2.2.2.1,r7.2.2.2.2.2.2.2.2.2.2.2.2.2.2.2.2.2.1,r7.2.2.2.2.2.2.2.2.2.2.2.2.2.2.2.2.2.2,[],1))
 else(bif (decide (a19=0))then((Jm D (a0,a1,a2,a3,a4,a5,a6,a7,a8,a9,a10,a11,a12,a13,a14,a15,a16,a17,a18,a19,a20,a21,a22,a23,a24,a25,a26,a27,a28,a29,a30)).bind fun r8=>
 (Z1 D (r8.1,r8.2.1,r8.2.2.1,r8.2.2.2.1,r8.2.2.2.2.1,r8.2.2.2.2.2.1,r8.2.2.2.2.2.2.1,r8.2.2.2.2.2.2.2.1,r8.2.2.2.2.2.2.2.2.1,r8.2.2.2.2.2.2.2.2.2.1,r8.2.2.2.2.2.2.2.2.2.2.1,r8.2.2.2.2.2.2.2.2.2.2.2.1,r8.2.2.2.2.2.2.2.2.2.2.2.2.1,r8.2.2.2.2.2.2.2.2.2.2.2.2.2.1,r8.2.2.2.2.2.2.2.2.2.2.2.2.2.2.1,r8.2.2.2.2.2.2.2.2.2.2.2.2.2.2.2.1,r8.2.2.2.2.2.2.2.2.2.2.2.2.2.2.2.2.1,r8.2.2.2.2.2.2.2.2.2.2.2.2.2.2.2.2.2.1,r8.2.2.2.2.2.2.2.2.2.2.2.2.2.2.2.2.2.2,1,a20,a22)).bind fun r9=>
 some (r8.1,r8.2.1,r8.2.2.1,r8.2.2.2.1,r8.2.2.2.2.1,r8.2.2.2.2.2.1,r8.2.2.2.2.2.2.1,r8.2.2.2.2.2.2.2.1,r8.2.2.2.2.2.2.2.2.1,r8.2.2.2.2.2.2.2.2.2.1,r8.2.2.2.2.2.2.2.2.2.2.1,r8.2.2.2.2.2.2.2.2.2.2.2.1,r8.2.2.2.2.2.2.2.2.2.2.2.2.1,r8.2.2.2.2.2.2.2.2.2.2.2.2.2.1,r8.2.2.2.2.2.2.2.2.2.2.2.2.2.2.1,r8.2.2.2.2.2.2.2.2.2.2.2.2.2.2.2.1,r8.2.2.2.2.2.2.2.2.2.2.2.2.2.2.2.2.1,r8.2.2.2.2.2.2.2.2.2.2.2.2.2.2.2.2.2.1,r8.2.2.2.2.2.2.2.2.2.2.2.2.2.2.2.2.2.2,[r9],0))
 else(bif (decide (a19=1))then((Y1 D (a0,a1,a2,a3,a4,a5,a6,a7,a8,a9,a10,a11,a12,a13,a14,a15,a16,a17,a18,a19,a20,a21,a22,a23,a24,a25,a26,a27,a28,a29,a30)).bind fun r10=>
 some (r10.1,r10.2.1,r10.2.2.1,r10.2.2.2.1,r10.2.2.2.2.1,r10.2.2.2.2.2.1,r10.2.2.2.2.2.2.1,r10.2.2.2.2.2.2.2.1,r10.2.2.2.2.2.2.2.2.1,r10.2.2.2.2.2.2.2.2.2.1,r10.2.2.2.2.2.2.2.2.2.2.1,r10.2.2.2.2.2.2.2.2.2.2.2.1,r10.2.2.2.2.2.2.2.2.2.2.2.2.1,r10.2.2.2.2.2.2.2.2.2.2.2.2.2.1,r10.2.2.2.2.2.2.2.2.2.2.2.2.2.2.1,r10.2.2.2.2.2.2.2.2.2.2.2.2.2.2.2.1,r10.2.2.2.2.2.2.2.2.2.2.2.2.2.2.2.2.1,r10.2.2.2.2.2.2.2.2.2.2.2.2.2.2.2.2.2.1,r10.2.2.2.2.2.2.2.2.2.2.2.2.2.2.2.2.2.2,[],0))
 else(bif (decide (a19=2))then((QeA D (a0,a1,a2,a3,a4,a5,a6,a7,a8,a9,a10,a11,a12,a13,a14,a15,a16,a17,a18,a19,a20,a21,a22,a23,a24,a25,a26,a27,a28,a29,a30)).bind fun r11=>
 some r11)
 else((QbC D (a0,a1,a2,a3,a4,a5,a6,a7,a8,a9,a10,a11,a12,a13,a14,a15,a16,a17,a18,a19,a20,a21,a22,a23,a24,a25,a26,a27,a28,a29,a30,(decide (a19=4)))).bind fun r12=>
 bif (decide (r12<0))then((Xq D (a0,a1,a2,a3,a4,a5,a6,a7,a8,a9,a10,a11,a12,a13,a14,a15,a16,a17,a18)).bind fun r13=>
 some (r13.1,r13.2.1,r13.2.2.1,r13.2.2.2.1,r13.2.2.2.2.1,r13.2.2.2.2.2.1,r13.2.2.2.2.2.2.1,r13.2.2.2.2.2.2.2.1,r13.2.2.2.2.2.2.2.2.1,r13.2.2.2.2.2.2.2.2.2.1,r13.2.2.2.2.2.2.2.2.2.2.1,r13.2.2.2.2.2.2.2.2.2.2.2.1,r13.2.2.2.2.2.2.2.2.2.2.2.2.1,r13.2.2.2.2.2.2.2.2.2.2.2.2.2.1,r13.2.2.2.2.2.2.2.2.2.2.2.2.2.2.1,r13.2.2.2.2.2.2.2.2.2.2.2.2.2.2.2.1,r13.2.2.2.2.2.2.2.2.2.2.2.2.2.2.2.2.1,r13.2.2.2.2.2.2.2.2.2.2.2.2.2.2.2.2.2.1,r13.2.2.2.2.2.2.2.2.2.2.2.2.2.2.2.2.2.2,[],2))
 else((VU D (a0,a1,a2,a3,a4,a5,a6,a7,a8,a9,a10,a11,a12,a13,a14,a15,a16,a17,a18,r12)).bind fun r14=>
 bif (decide (a19=5))then(some (r14.1,r14.2.1,r14.2.2.1,r14.2.2.2.1,r14.2.2.2.2.1,r14.2.2.2.2.2.1,r14.2.2.2.2.2.2.1,r14.2.2.2.2.2.2.2.1,r14.2.2.2.2.2.2.2.2.1,r14.2.2.2.2.2.2.2.2.2.1,r14.2.2.2.2.2.2.2.2.2.2.1,r14.2.2.2.2.2.2.2.2.2.2.2.1,r14.2.2.2.2.2.2.2.2.2.2.2.2.1,r14.2.2.2.2.2.2.2.2.2.2.2.2.2.1,r14.2.2.2.2.2.2.2.2.2.2.2.2.2.2.1,r14.2.2.2.2.2.2.2.2.2.2.2.2.2.2.2.1,r14.2.2.2.2.2.2.2.2.2.2.2.2.2.2.2.2.1,r14.2.2.2.2.2.2.2.2.2.2.2.2.2.2.2.2.2.1,r14.2.2.2.2.2.2.2.2.2.2.2.2.2.2.2.2.2.2,[],0))
 else((Jm D (r14.1,r14.2.1,r14.2.2.1,r14.2.2.2.1,r14.2.2.2.2.1,r14.2.2.2.2.2.1,r14.2.2.2.2.2.2.1,r14.2.2.2.2.2.2.2.1,r14.2.2.2.2.2.2.2.2.1,r14.2.2.2.2.2.2.2.2.2.1,r14.2.2.2.2.2.2.2.2.2.2.1,r14.2.2.2.2.2.2.2.2.2.2.2.1,r14.2.2.2.2.2.2.2.2.2.2.2.2.1,r14.2.2.2.2.2.2.2.2.2.2.2.2.2.1,r14.2.2.2.2.2.2.2.2.2.2.2.2.2.2.1,r14.2.2.2.2.2.2.2.2.2.2.2.2.2.2.2.1,r14.2.2.2.2.2.2.2.2.2.2.2.2.2.2.2.2.1,r14.2.2.2.2.2.2.2.2.2.2.2.2.2.2.2.2.2.1,r14.2.2.2.2.2.2.2.2.2.2.2.2.2.2.2.2.2.2,a19,a20,a21,a22,a23,a24,a25,a26,a27,a28,a29,a30)).bind fun r15=>
 bif (decide (a19=4))then(some (r15.1,r15.2.1,r15.2.2.1,r15.2.2.2.1,r15.2.2.2.2.1,r15.2.2.2.2.2.1,r15.2.2.2.2.2.2.1,r15.2.2.2.2.2.2.2.1,r15.2.2.2.2.2.2.2.2.1,r15.2.2.2.2.2.2.2.2.2.1,r15.2.2.2.2.2.2.2.2.2.2.1,r15.2.2.2.2.2.2.2.2.2.2.2.1,r15.2.2.2.2.2.2.2.2.2.2.2.2.1,r15.2.2.2.2.2.2.2.2.2.2.2.2.2.1,r15.2.2.2.2.2.2.2.2.2.2.2.2.2.2.1,r15.2.2.2.2.2.2.2.2.2.2.2.2.2.2.2.1,r15.2.2.2.2.2.2.2.2.2.2.2.2.2.2.2.2.1,r15.2.2.2.2.2.2.2.2.2.2.2.2.2.2.2.2.2.1,r15.2.2.2.2.2.2.2.2.2.2.2.2.2.2.2.2.2.2,[],0))
 else((Z1 D (r15.1,r15.2.1,r15.2.2.1,r15.2.2.2.1,r15.2.2.2.2.1,r15.2.2.2.2.2.1,r15.2.2.2.2.2.2.1,r15.2.2.2.2.2.2.2.1,r15.2.2.2.2.2.2.2.2.1,r15.2.2.2.2.2.2.2.2.2.1,r15.2.2.2.2.2.2.2.2.2.2.1,r15.2.2.2.2.2.2.2.2.2.2.2.1,r15.2.2.2.2.2.2.2.2.2.2.2.2.1,r15.2.2.2.2.2.2.2.2.2.2.2.2.2.1,r15.2.2.2.2.2.2.2.2.2.2.2.2.2.2.1,r15.2.2.2.2.2.2.2.2.2.2.2.2.2.2.2.1,r15.2.2.2.2.2.2.2.2.2.2.2.2.2.2.2.2.1,r15.2.2.2.2.2.2.2.2.2.2.2.2.2.2.2.2.2.1,r15.2.2.2.2.2.2.2.2.2.2.2.2.2.2.2.2.2.2,4,a20,a22)).bind fun r16=>
 bif fits (List.length ([]:List Int)+a27.length) 8 then
 bif inb a0 a26.length then
 (V0 D (r15.1,r15.2.1,r15.2.2.1,r15.2.2.2.1,r15.2.2.2.2.1,r15.2.2.2.2.2.1,r15.2.2.2.2.2.2.1,r15.2.2.2.2.2.2.2.1,r15.2.2.2.2.2.2.2.2.1,r15.2.2.2.2.2.2.2.2.2.1,r15.2.2.2.2.2.2.2.2.2.2.1,r15.2.2.2.2.2.2.2.2.2.2.2.1,r15.2.2.2.2.2.2.2.2.2.2.2.2.1,r15.2.2.2.2.2.2.2.2.2.2.2.2.2.1,r15.2.2.2.2.2.2.2.2.2.2.2.2.2.2.1,r15.2.2.2.2.2.2.2.2.2.2.2.2.2.2.2.1,r15.2.2.2.2.2.2.2.2.2.2.2.2.2.2.2.2.1,r15.2.2.2.2.2.2.2.2.2.2.2.2.2.2.2.2.2.1,r15.2.2.2.2.2.2.2.2.2.2.2.2.2.2.2.2.2.2,(([]:List Int)++a27),(rd1 (0:Int) a26 a0))).bind fun r17=>
 some (r15.1,r15.2.1,r15.2.2.1,r15.2.2.2.1,r15.2.2.2.2.1,r15.2.2.2.2.2.1,r15.2.2.2.2.2.2.1,r15.2.2.2.2.2.2.2.1,r15.2.2.2.2.2.2.2.2.1,r15.2.2.2.2.2.2.2.2.2.1,r15.2.2.2.2.2.2.2.2.2.2.1,r15.2.2.2.2.2.2.2.2.2.2.2.1,r15.2.2.2.2.2.2.2.2.2.2.2.2.1,r15.2.2.2.2.2.2.2.2.2.2.2.2.2.1,r15.2.2.2.2.2.2.2.2.2.2.2.2.2.2.1,r15.2.2.2.2.2.2.2.2.2.2.2.2.2.2.2.1,r15.2.2.2.2.2.2.2.2.2.2.2.2.2.2.2.2.1,r15.2.2.2.2.2.2.2.2.2.2.2.2.2.2.2.2.2.1,r15.2.2.2.2.2.2.2.2.2.2.2.2.2.2.2.2.2.2,[(r16.1,r16.2.1,r16.2.2.1,r16.2.2.2.1,r16.2.2.2.2.1,r16.2.2.2.2.2.1,r16.2.2.2.2.2.2.1,r16.2.2.2.2.2.2.2.1,(([]:List Int)++a27),r17.1,r17.2,r16.2.2.2.2.2.2.2.2.2.2.2)],0)else none else none)))))))))))
theorem QuP:OfF Ys Qjn:=ofF 210
end
end Go.Proofs.YtjenicbpdklpbaaGreat.M
