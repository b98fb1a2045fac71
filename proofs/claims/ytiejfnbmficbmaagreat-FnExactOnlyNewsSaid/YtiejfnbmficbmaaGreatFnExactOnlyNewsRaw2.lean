/- Plain forms of the functions that FnExactOnlyNews reaches, part 2. No conditions. -/
import Derived.Test.YtiejfnbmficbmaaGreatFnExactOnlyNewsTab
set_option linter.all false
namespace Go.Proofs.YtiejfnbmficbmaaGreat.M
open Go Go.Eng Go.Proofs
set_option linter.unusedVariables false
noncomputable section
def QdI:rF J2:=fun D L (a0,a1,a2,a3)=>
 (Qr D (a3,0,(wR ((a0.length:Int) - 1)))).bind fun r1=>
 some r1
theorem Qm9:OfF J2 QdI:=ofF 87
def jt:rL ZQ:=fun D L (y0,y1,y2,y3,y4)=>
 bif (decide (y2<y1))then(bif inb y2 y0.length then
 let e1:=(rd1 XB y0 y2);
 (ZK D e1.1).bind fun r2=>
 bif (!r2)then(some (Sum.inl false))
 else((Qr D (e1.2,1,1000)).bind fun r3=>
 bif (!r3)then(some (Sum.inl false))
 else(bif (decide (0<y2))then(bif inb (wR (y2 - 1)) y4.length then
 let e4:=(rd1 XB y4 (wR (y2 - 1)));
 bif (decide (e1.1<=e4.1))then(some (Sum.inl false))
 else(ZQ L (y0,y1,(wR (y2+1)),y3,y4))else none)
 else(ZQ L (y0,y1,(wR (y2+1)),y3,y4))))else none)
 else(some (Sum.inr (y3,y4)))
theorem QbK:OfL ZQ jt:=ofL 88 0
def vm:rL Yd:=fun D L (y0,y1,y2,y3,y4)=>
 bif (decide (y2<y1))then(bif inb y2 y0.length then
 let e8:=(rd1 VY y0 y2);
 (ZK D e8.1).bind fun r9=>
 bif (!r9)then(some (Sum.inl false))
 else((J9 D e8.2).bind fun r10=>
 bif (!r10)then(some (Sum.inl false))
 else((yL D (y3,y4,e8.1)).bind fun r11=>
 bif (decide (e8.2.1<=r11))then(some (Sum.inl false))
 else(bif (decide (0<y2))then(bif inb (wR (y2 - 1)) y3.length then
 let e12:=(rd1 VY y3 (wR (y2 - 1)));
 bif (decide (e8.1<=e12.1))then(some (Sum.inl false))
 else(Yd L (y0,y1,(wR (y2+1)),y3,y4))else none)
 else(Yd L (y0,y1,(wR (y2+1)),y3,y4)))))else none)
 else(some (Sum.inr ()))
theorem Qbj:OfL Yd vm:=ofL 88 2
def Qem:rF XK:=fun D L (a0,a1)=>
 (ZQ L (a1,(a1.length:Int),0,a0,a1)).bind fun z5=>
 Qp z5 (fun u6=>
 some u6)
 (fun z7=>
 (Yd L (z7.1,(z7.1.length:Int),0,z7)).bind fun z13=>
 Qp z13 (fun u14=>
 some u14)
 (fun z15=>
 some true))
theorem Qm4:OfF XK Qem:=ofF 88
def QfF:rF QaB:=fun D L (a0,a1,a2,a3,a4,a5,a6,a7,a8,a9,a10,a11,a12,a13,a14,a15,a16,a17,a18,a19,a20,a21,a22,a23,a24,a25,a26,a27,a28,a29,a30,a31,a32,a33,a34,a35,a36,a37)=>
 bif (!decide (a0=a19))then(some false)
 else(bif (!decide (a1=a20))then(some false)
 else((Vw D (a2,a3,a21,a22)).bind fun r1=>
 bif (!r1)then(some false)
 else((Qay D (a4,a5,a23,a24)).bind fun r2=>
 bif (!r2)then(some false)
 else((QcE D (a6,a7,a8,a25,a26,a27)).bind fun r3=>
 bif (!r3)then(some false)
 else((K2 D (a9,a28)).bind fun r4=>
 bif (!r4)then(some false)
 else((K2 D (a10,a29)).bind fun r5=>
 bif (!r5)then(some false)
 else((jC D (a11,a30)).bind fun r6=>
 bif (!r6)then(some false)
 else(bif (!decide (a12=a31))then(some false)
 else(bif (!decide (a13=a32))then(some false)
 else((zR D (a14,a33)).bind fun r7=>
 bif (!r7)then(some false)
 else(bif (!decide (a15=a34))then(some false)
 else(bif (!decide (a16=a35))then(some false)
 else(bif (!decide (a17=a36))then(some false)
 else((jP D (a18,a37)).bind fun r8=>
 bif (!r8)then(some false)
 else(some true)))))))))))))))
theorem QnP:OfF QaB QfF:=ofF 89
def Qfr:rF Qat:=fun D L (a0,a1,a2,a3,a4,a5)=>
 bif (!decide (a0=a3))then(some false)
 else((yp D (a1,a4)).bind fun r1=>
 bif (!r1)then(some false)
 else(bif (!(a2==a5))then(some false)
 else(some true)))
theorem QnX:OfF Qat Qfr:=ofF 90
def QfJ:rF QaE:=fun D L (a0,a1,a2,a3,a4,a5)=>
 bif (!decide (a0=a3))then(some false)
 else((Vw D (a1,a2,a4,a5)).bind fun r1=>
 bif (!r1)then(some false)
 else(some true))
theorem QoG:OfF QaE QfJ:=ofF 91
def ja:rL Z9:=fun D L (y0,y1,y2,y3,y4,y5,y6,y7,y8,y9,y10,y11,y12,y13,y14)=>
 bif (decide (y0<(y14.length:Int)))then(bif inb y0 y14.length then
 (Q6 D (rd1 (0:Int) y14 y0)).bind fun r1=>
 bif fits (y13.length+r1.length) 1 then
 Z9 L ((wR (y0+1)),y1,y2,y3,y4,y5,y6,y7,y8,y9,y10,y11,y12,(y13++r1),y14)else none else none)
 else(some (y1,y2,y3,y4,y5,y6,y7,y8,y9,y10,y11,y12,y13))
theorem QbH:OfL Z9 ja:=ofL 125 0
def vc:rL ZU:=fun D L (y0,y1,y2,y3,y4,y5,y6,y7,y8,y9,y10,y11,y12,y13)=>
 bif (decide (y0<(y12.length:Int)))then(bif inb y0 y12.length then
 let e10:=(rd1 XB y12 y0);
 (Q6 D e10.1).bind fun r11=>
 bif fits (y13.length+r11.length) 1 then
 bif inb y0 y12.length then
 let e12:=(rd1 XB y12 y0);
 (Q6 D e12.2).bind fun r13=>
 bif fits (List.length (y13++r11)+r13.length) 1 then
 ZU L ((wR (y0+1)),y1,y2,y3,y4,y5,y6,y7,y8,y9,y10,y11,y12,((y13++r11)++r13))else none else none else none else none)
 else(some y13)
theorem Qbr:OfL ZU vc:=ofL 125 2
def QeB:rF zS:=fun D L (a0,a1,a2,a3,a4,a5,a6,a7,a8,a9,a10,a11)=>
 (Z9 L (0,a0,a1,a2,a3,a4,a5,a6,a7,a8,a9,a10,a11,[82,75],[a0,a1,a2,a3,a4])).bind fun z2=>
 (VI D z2.2.2.2.2.2.1).bind fun r3=>
 bif fits (z2.2.2.2.2.2.2.2.2.2.2.2.2.length+r3.length) 1 then
 (Q6 D z2.2.2.2.2.2.2.1).bind fun r4=>
 bif fits (List.length (z2.2.2.2.2.2.2.2.2.2.2.2.2++r3)+r4.length) 1 then
 (VI D z2.2.2.2.2.2.2.2.1).bind fun r5=>
 bif fits (List.length ((z2.2.2.2.2.2.2.2.2.2.2.2.2++r3)++r4)+r5.length) 1 then
 (VI D z2.2.2.2.2.2.2.2.2.1).bind fun r6=>
 bif fits (List.length (((z2.2.2.2.2.2.2.2.2.2.2.2.2++r3)++r4)++r5)+r6.length) 1 then
 (VF D (z2.2.2.2.2.2.2.2.2.2.1,z2.2.2.2.2.2.2.2.2.2.2.1)).bind fun r7=>
 (Q6 D (r7.length:Int)).bind fun r8=>
 bif fits (List.length ((((z2.2.2.2.2.2.2.2.2.2.2.2.2++r3)++r4)++r5)++r6)+r8.length) 1 then
 bif fits (List.length (((((z2.2.2.2.2.2.2.2.2.2.2.2.2++r3)++r4)++r5)++r6)++r8)+r7.length) 1 then
 (Q6 D (z2.2.2.2.2.2.2.2.2.2.2.2.1.length:Int)).bind fun r9=>
 bif fits (List.length ((((((z2.2.2.2.2.2.2.2.2.2.2.2.2++r3)++r4)++r5)++r6)++r8)++r7)+r9.length) 1 then
 (ZU L (0,z2.1,z2.2.1,z2.2.2.1,z2.2.2.2.1,z2.2.2.2.2.1,z2.2.2.2.2.2.1,z2.2.2.2.2.2.2.1,z2.2.2.2.2.2.2.2.1,z2.2.2.2.2.2.2.2.2.1,z2.2.2.2.2.2.2.2.2.2.1,z2.2.2.2.2.2.2.2.2.2.2.1,z2.2.2.2.2.2.2.2.2.2.2.2.1,(((((((z2.2.2.2.2.2.2.2.2.2.2.2.2++r3)++r4)++r5)++r6)++r8)++r7)++r9))).bind fun z14=>
 some z14 else none else none else none else none else none else none else none
theorem QlX:OfF zS QeB:=ofF 125
def QfD:rF Qag:=fun D L (a0,a1,a2,a3,a4,a5,a6,a7,a8,a9,a10,a11,a12,a13,a14,a15,a16,a17,a18,a19)=>
 (Qr D (a19,0,(wR (a1 - 1)))).bind fun r1=>
 bif r1 then(some (!decide (a19=a0)))
 else(some false)
theorem Qn7:OfF Qag QfD:=ofF 126
def Qb5:rL V9:=fun D L (y0,y1,y2)=>
 bif (decide (y2<(y0.length:Int)))then(bif inb y2 y0.length then
 bif (decide ((rd1 (0:Int) y0 y2)=y1))then(some (Sum.inl true))
 else(V9 L (y0,y1,(wR (y2+1))))else none)
 else(some (Sum.inr ()))
theorem Qeq:OfL V9 Qb5:=ofL 132 0
def QgY:rF jV:=fun D L (a0,a1)=>
 (V9 L (a0,a1,0)).bind fun z1=>
 Qp z1 (fun u2=>
 some u2)
 (fun z3=>
 some false)
theorem QpK:OfF jV QgY:=ofF 132
def Jd:rF Zb:=fun D L (a0,a1)=>
 (YS D (a0,a1)).bind fun r1=>
 some (decide (0<=r1))
theorem QcT:OfF Zb Jd:=ofF 133
def Qdi:rF Vq:=fun D L (a0,a1,a2)=>
 (yw D (a0,a2)).bind fun r1=>
 bif (decide (r1<0))then(some (-1))
 else((xy D (a1,r1)).bind fun r2=>
 bif (decide (r2<0))then(some (-1))
 else(some r2))
theorem Qnf:OfF Vq Qdi:=ofF 135
def Qfj:rF QaC:=fun D L (a0,a1,a2)=>
 (K7 D (a0,a2)).bind fun r1=>
 bif (decide (r1<0))then(some (-1))
 else(some r1)
theorem QnO:OfF QaC Qfj:=ofF 136
def Qhc:rF QcH:=fun D L (a0,a1,a2,a3)=>
 (xK D (a2,a3)).bind fun r1=>
 bif (decide (r1<0))then(some (-1))
 else(some r1)
theorem QpI:OfF QcH Qhc:=ofF 137
def QfZ:rF K7:=fun D L (a0,a1)=>
 bif (decide ((wR (a1 - (a0.length:Int)))<0))then(some (-1))
 else(some (wR (a1 - (a0.length:Int))))
theorem QoD:OfF K7 QfZ:=ofF 138
def JT:rL KN:=fun D L (y0,y1,y2)=>
 bif (decide (y2<(y0.length:Int)))then(bif inb y2 y0.length then
 (K7 D ((rd1 ([]:List Int) y0 y2),y1)).bind fun r1=>
 bif (decide (r1<0))then(some (Sum.inl (-1)))
 else(KN L (y0,r1,(wR (y2+1))))else none)
 else(some (Sum.inr y1))
theorem J7:OfL KN JT:=ofL 139 0
def Qdm:rF jE:=fun D L (a0,a1)=>
 bif (decide ((wR (a1 - (a0.length:Int)))<0))then(some (-1))
 else((KN L (a0,(wR (a1 - (a0.length:Int))),0)).bind fun z2=>
 Qp z2 (fun u3=>
 some u3)
 (fun z4=>
 some z4))
theorem Qm0:OfF jE Qdm:=ofF 139
def Qd6:rF yJ:=fun D L (a0,a1)=>
 bif (decide ((wR (a1 - (a0.length:Int)))<0))then(some (-1))
 else(some (wR (a1 - (a0.length:Int))))
theorem Qmp:OfF yJ Qd6:=ofF 140
def Qdc:rF js:=fun D L (a0,a1)=>
 bif (decide ((wR (a1 - (a0.length:Int)))<0))then(some (-1))
 else(some (wR (a1 - (a0.length:Int))))
theorem Qnl:OfF js Qdc:=ofF 141
def QeU:rF zA:=fun D L (a0,a1)=>
 bif (decide ((wR (a1 - (a0.length:Int)))<0))then(some (-1))
 else(some (wR (a1 - (a0.length:Int))))
theorem Qmx:OfF zA QeU:=ofF 142
def Qdg:rF yI:=fun D L (a0,a1,a2,a3)=>
 (Qae D (a0,a2)).bind fun r1=>
 bif r1 then(some (decide (a1=a3)))
 else(some false)
theorem Qmk:OfF yI Qdg:=ofF 143
def vD:rL Yy:=fun D L (y0,y1,y2,y3,y4)=>
 bif (decide (y0<4))then((zX D (y1,y2,y0)).bind fun r2=>
 bif fits (y3.length+ [r2].length) 8 then
 Yy L ((wR (y0+1)),y1,y2,(y3++[r2]),y4)else none)
 else(some (y3,y4))
theorem Qcj:OfL Yy vD:=ofL 144 0
def Qfa:rF QaN:=fun D L (a0,a1)=>
 (X8 D (a0,a1)).bind fun r1=>
 bif (!r1)then(some ([],0))
 else((Yy L (0,a0,a1,[],0)).bind fun z3=>
 (Qak D z3.1).bind fun r4=>
 some (z3.1,r4))
theorem Qoe:OfF QaN Qfa:=ofF 144
def QbU:rL V7:=fun D L (y0,y1,y2,y3)=>
 bif (decide (y0<(y3.length:Int)))then(bif inb y0 y3.length then
 let e3:=(rd1 Qgx y3 y0);
 (X8 D e3).bind fun r4=>
 bif (!r4)then(some (Sum.inl false))
 else(V7 L ((wR (y0+1)),y1,y2,y3))else none)
 else(some (Sum.inr ()))
theorem QdS:OfL V7 QbU:=ofL 145 0
def Qhr:rF zZ:=fun D L (a0,a1,a2)=>
 (QA D (a0,1,8)).bind fun r1=>
 bif (!r1)then(some false)
 else(bif (decide (a0<(a2.length:Int)))then(some false)
 else((QA D (a1,0,100000)).bind fun r2=>
 bif (!r2)then(some false)
 else(bif (decide (100000<(wR (a1+(a2.length:Int)))))then(some false)
 else((V7 L (0,a0,a1,a2)).bind fun z5=>
 Qp z5 (fun u6=>
 some u6)
 (fun z7=>
 some true)))))
theorem QpL:OfF zZ Qhr:=ofF 145
def QbS:rL Ja:=fun D L (y0,y1,y2)=>
 bif (decide (y2<y1))then(bif inb y2 y0.length then
 (QA D ((rd1 (0:Int) y0 y2),0,100000)).bind fun r2=>
 bif (!r2)then(some (Sum.inl false))
 else(Ja L (y0,y1,(wR (y2+1))))else none)
 else(some (Sum.inr ()))
theorem Qd4:OfL Ja QbS:=ofL 146 0
def vW:rF yr:=fun D L (a0,a1)=>
 (QA D (a1,1,5)).bind fun r1=>
 bif (!r1)then(some false)
 else(bif (!decide ((a0.length:Int)=a1))then(some false)
 else((Ja L (a0,a1,0)).bind fun z3=>
 Qp z3 (fun u4=>
 some u4)
 (fun z5=>
 some true)))
theorem QpW:OfF yr vW:=ofF 146
def QfS:rF qV:=fun D L (a0,a1,a2)=>
 (zZ D (a0,a1,a2)).bind fun r1=>
 bif (!r1)then(some 0)
 else(some (wR (a1+(a2.length:Int))))
theorem QnE:OfF qV QfS:=ofF 147
def yo:rL Km:=fun D L (y0,y1,y2)=>
 bif (decide (y2<y1))then(bif inb y2 y0.length then
 bif (!decide (((List.length (rd1 ([]:List Int) y0 y2)):Int)=5))then(some (Sum.inl false))
 else((Ya L (y0,y1,y2,0)).bind fun z3=>
 Qp z3 (fun u4=>
 some (Sum.inl u4))
 (fun z5=>
 Km L (z5.1,z5.2.1,(wR (z5.2.2+1)))))else none)
 else(some (Sum.inr ()))
theorem Qbp:OfL Km yo:=ofL 148 0
def ve:rL Ya:=fun D L (y0,y1,y2,y3)=>
 bif inb y2 y0.length then
 bif (decide (y3<((List.length (rd1 ([]:List Int) y0 y2)):Int)))then(bif inb y2 y0.length then
 bif inb y3 (List.length (rd1 ([]:List Int) y0 y2))then
 (QA D ((rd1 (0:Int) (rd1 ([]:List Int) y0 y2) y3),0,1000)).bind fun r2=>
 bif (!r2)then(some (Sum.inl false))
 else(Ya L (y0,y1,y2,(wR (y3+1))))else none else none)
 else(some (Sum.inr (y0,y1,y2)))else none
theorem QbD:OfL Ya ve:=ofL 148 2
def zc:rF jF:=fun D L (a0,a1)=>
 (QA D (a1,1,5)).bind fun r1=>
 bif (!r1)then(some false)
 else(bif (!decide ((a0.length:Int)=a1))then(some false)
 else((Km L (a0,a1,0)).bind fun z6=>
 Qp z6 (fun u7=>
 some u7)
 (fun z8=>
 some true)))
theorem Qnr:OfF jF zc:=ofF 148
def yO:rL Ki:=fun D L (y0,y1,y2,y3,y4,y5,y6,y7,y8,y9,y10,y11,y12,y13,y14,y15,y16,y17,y18,y19)=>
 bif (decide (y0<(y15.length:Int)))then(bif inb y0 y15.length then
 let e1:=(rd1 yx y15 y0);
 (QA D (e1.1,0,(wR (y2 - 1)))).bind fun r2=>
 bif (!r2)then(some (Sum.inl false))
 else(bif (decide (e1.1=y1))then(some (Sum.inl false))
 else((QA D (e1.2.1,0,100000)).bind fun r3=>
 bif (!r3)then(some (Sum.inl false))
 else((QA D (e1.2.2.2,0,y16)).bind fun r4=>
 bif (!r4)then(some (Sum.inl false))
 else((Zn L (y0,0,e1.1,y1,(decide (e1.1=y1)),e1.2.1,r3,(!r3),e1.2.2.2,y16,r4,(!r4),y1,y2,y3,y4,y5,y6,y7,y8,y9,y10,y11,y12,y13,y14,y15,y16,y17,y18,y19,e1)).bind fun z7=>
 Qp z7 (fun u8=>
 some (Sum.inl u8))
 (fun z9=>
 Ki L ((wR (z9.1+1)),z9.2.2.2.2.2.2.2.2.2.2.2.1,z9.2.2.2.2.2.2.2.2.2.2.2.2.1,z9.2.2.2.2.2.2.2.2.2.2.2.2.2.1,z9.2.2.2.2.2.2.2.2.2.2.2.2.2.2.1,z9.2.2.2.2.2.2.2.2.2.2.2.2.2.2.2.1,z9.2.2.2.2.2.2.2.2.2.2.2.2.2.2.2.2.1,z9.2.2.2.2.2.2.2.2.2.2.2.2.2.2.2.2.2.1,z9.2.2.2.2.2.2.2.2.2.2.2.2.2.2.2.2.2.2.1,z9.2.2.2.2.2.2.2.2.2.2.2.2.2.2.2.2.2.2.2.1,z9.2.2.2.2.2.2.2.2.2.2.2.2.2.2.2.2.2.2.2.2.1,z9.2.2.2.2.2.2.2.2.2.2.2.2.2.2.2.2.2.2.2.2.2.1,z9.2.2.2.2.2.2.2.2.2.2.2.2.2.2.2.2.2.2.2.2.2.2.1,z9.2.2.2.2.2.2.2.2.2.2.2.2.2.2.2.2.2.2.2.2.2.2.2.1,z9.2.2.2.2.2.2.2.2.2.2.2.2.2.2.2.2.2.2.2.2.2.2.2.2.1,z9.2.2.2.2.2.2.2.2.2.2.2.2.2.2.2.2.2.2.2.2.2.2.2.2.2.1,z9.2.2.2.2.2.2.2.2.2.2.2.2.2.2.2.2.2.2.2.2.2.2.2.2.2.2.1,z9.2.2.2.2.2.2.2.2.2.2.2.2.2.2.2.2.2.2.2.2.2.2.2.2.2.2.2.1,z9.2.2.2.2.2.2.2.2.2.2.2.2.2.2.2.2.2.2.2.2.2.2.2.2.2.2.2.2.1,z9.2.2.2.2.2.2.2.2.2.2.2.2.2.2.2.2.2.2.2.2.2.2.2.2.2.2.2.2.2.1))))))else none)
 else(some (Sum.inr ()))
theorem Qbz:OfL Ki yO:=ofL 149 0
def jb:rL Zn:=fun D L (y0,y1,y2,y3,y4,y5,y6,y7,y8,y9,y10,y11,y12,y13,y14,y15,y16,y17,y18,y19,y20,y21,y22,y23,y24,y25,y26,y27,y28,y29,y30,y31,y32,y33,y34)=>
 bif (decide (y1<y0))then(bif inb y1 y26.length then
 let e5:=(rd1 yx y26 y1);
 bif (decide (e5.1=y31))then(bif inb y1 y26.length then
 let e6:=(rd1 yx y26 y1);
 bif (e6.2.2.1==y33)then(some (Sum.inl false))
 else(Zn L (y0,(wR (y1+1)),y2,y3,y4,y5,y6,y7,y8,y9,y10,y11,y12,y13,y14,y15,y16,y17,y18,y19,y20,y21,y22,y23,y24,y25,y26,y27,y28,y29,y30,y31,y32,y33,y34))else none)
 else(Zn L (y0,(wR (y1+1)),y2,y3,y4,y5,y6,y7,y8,y9,y10,y11,y12,y13,y14,y15,y16,y17,y18,y19,y20,y21,y22,y23,y24,y25,y26,y27,y28,y29,y30,y31,y32,y33,y34))else none)
 else(some (Sum.inr (y0,y2,y3,y4,y5,y6,y7,y8,y9,y10,y11,y12,y13,y14,y15,y16,y17,y18,y19,y20,y21,y22,y23,y24,y25,y26,y27,y28,y29,y30,y31,y32,y33,y34)))
theorem QbA:OfL Zn jb:=ofL 149 2
def QdV:rF jv:=fun D L (a0,a1,a2,a3,a4,a5,a6,a7,a8,a9,a10,a11,a12,a13,a14,a15,a16,a17,a18)=>
 bif (decide (a13<(a14.length:Int)))then(some false)
 else((Ki L (0,a0,a1,a2,a3,a4,a5,a6,a7,a8,a9,a10,a11,a12,a13,a14,a15,a16,a17,a18)).bind fun z10=>
 Qp z10 (fun u11=>
 some u11)
 (fun z12=>
 some true))
theorem QmE:OfF jv QdV:=ofF 149
def Qfg:rF ZL:=fun D L a0=>
 (QA D (a0,0,4)).bind fun r1=>
 some r1
theorem QoP:OfF ZL Qfg:=ofF 150
def QdP:rF Vz:=fun D L (a0,a1,a2,a3,a4)=>
 (QA D (a0,1,1000)).bind fun r1=>
 bif r1 then((QA D (a1,0,1)).bind fun r2=>
 bif r2 then((QA D (a2,0,100000)).bind fun r3=>
 bif r3 then((QA D (a3,0,1000)).bind fun r4=>
 bif r4 then(some (decide (((ByteArray.size a4):Int)<=8)))
 else(some false))
 else(some false))
 else(some false))
 else(some false)
theorem QmF:OfF Vz QdP:=ofF 151
def zG:rL Kl:=fun D L (y0,y1,y2,y3)=>
 bif (decide (y1<(y3.length:Int)))then(bif inb y1 y3.length then
 let e1:=(rd1 XB y3 y1);
 bif (decide (e1.1=y0))then(bif inb y1 y3.length then
 let e2:=(rd1 XB y3 y1);
 some (Sum.inl e2.2)else none)
 else(Kl L (y0,(wR (y1+1)),y2,y3))else none)
 else(some (Sum.inr ()))
theorem QaW:OfL Kl zG:=ofL 152 0
def QeI:rF qe:=fun D L (a0,a1,a2)=>
 (Kl L (a2,0,a0,a1)).bind fun z3=>
 Qp z3 (fun u4=>
 some u4)
 (fun z5=>
 some 0)
theorem Qme:OfF qe QeI:=ofF 152
def Qf8:rL qU:=fun D L (y0,y1,y2)=>
 bif (decide (y2<(y0.length:Int)))then(bif inb y2 y0.length then
 (KX L (y0,(bits .xor .i64 y1 (wR (rd1 (0:Int) y0 y2))),y2,0)).bind fun z1=>
 qU L (z1.1,z1.2.1,(wR (z1.2.2+1)))else none)
 else(some y1)
theorem Qg7:OfL qU Qf8:=ofL 153 0
def Qgk:rL KX:=fun D L (y0,y1,y2,y3)=>
 bif (decide (y3<8))then(bif decide ((2:Int)≠0)then
 bif decide ((2:Int)≠0)then
 bif (decide ((Int.tmod y1 2)=1))then(KX L (y0,(bits .xor .i64 (wR (Int.tdiv y1 2)) 3988292384),y2,(wR (y3+1))))
 else(KX L (y0,(wR (Int.tdiv y1 2)),y2,(wR (y3+1))))else none else none)
 else(some (y0,y1,y2))
theorem Qgv:OfL KX Qgk:=ofL 153 2
def QiF:rF xQ:=fun D L a0=>
 (qU L (a0,4294967295,0)).bind fun z2=>
 some (bits .xor .i64 z2 4294967295)
theorem Qsj:OfF xQ QiF:=ofF 153
def Yu:rL Xn:=fun D L (y0,y1,y2,y3)=>
 bif (decide (y3<5))then(bif (decide (y1<0))then(some (Sum.inl (0,0,false)))
 else(bif (decide ((wR ((y0.length:Int) - y3))<=y1))then(some (Sum.inl (0,0,false)))
 else(bif inb (wR (y1+y3)) y0.length then
 bif decide ((128:Int)≠0)then
 bif decide ((0:Int)<=(wR (7*y3)))then
 bif (decide ((wR (rd1 (0:Int) y0 (wR (y1+y3))))<128))then(bif (decide (0<y3))then(bif (decide ((wR (rd1 (0:Int) y0 (wR (y1+y3))))=0))then(some (Sum.inl (0,0,false)))
 else(bif (decide (2147483647<(bits .or .i64 y2 (x6 .i64 (Int.tmod (wR (rd1 (0:Int) y0 (wR (y1+y3)))) 128) (wR (7*y3))))))then(some (Sum.inl (0,0,false)))
 else(some (Sum.inl ((bits .or .i64 y2 (x6 .i64 (Int.tmod (wR (rd1 (0:Int) y0 (wR (y1+y3)))) 128) (wR (7*y3)))),(wR ((wR (y1+y3))+1)),true)))))
 else(bif (decide (2147483647<(bits .or .i64 y2 (x6 .i64 (Int.tmod (wR (rd1 (0:Int) y0 (wR (y1+y3)))) 128) (wR (7*y3))))))then(some (Sum.inl (0,0,false)))
 else(some (Sum.inl ((bits .or .i64 y2 (x6 .i64 (Int.tmod (wR (rd1 (0:Int) y0 (wR (y1+y3)))) 128) (wR (7*y3)))),(wR ((wR (y1+y3))+1)),true)))))
 else(Xn L (y0,y1,(bits .or .i64 y2 (x6 .i64 (Int.tmod (wR (rd1 (0:Int) y0 (wR (y1+y3)))) 128) (wR (7*y3)))),(wR (y3+1))))else none else none else none)))
 else(some (Sum.inr ()))
theorem Yk:OfL Xn Yu:=ofL 154 0
def QfR:rF xi:=fun D L (a0,a1)=>
 (Xn L (a0,a1,0,0)).bind fun z1=>
 Qp z1 (fun u2=>
 some u2)
 (fun z3=>
 some (0,0,false))
theorem QoT:OfF xi QfR:=ofF 154
def QeV:rF jq:=fun D L (a0,a1)=>
 (xi D (a0,a1)).bind fun r1=>
 bif (!r1.2.2)then(some ((⟨#[]⟩:ByteArray),0,false))
 else(bif (decide ((wR ((a0.length:Int) - r1.2.1))<r1.1))then(some ((⟨#[]⟩:ByteArray),0,false))
 else(bif decide ((0:Int)<=r1.2.1/\r1.2.1<=((wR (r1.2.1+r1.1)):Int)/\(wR (r1.2.1+r1.1))<=(a0.length:Int))then
 some ((QG (List.take (Int.toNat ((wR (r1.2.1+r1.1)) - r1.2.1)) (List.drop (Int.toNat r1.2.1) a0))),(wR (r1.2.1+r1.1)),true)else none))
theorem QlO:OfF jq QeV:=ofF 155
def jM:rL ZW:=fun D L (y0,y1,y2,y3)=>
 bif (decide (y0<(y1.length:Int)))then(bif inb y0 y1.length then
 let e2:=(rd1 VY y1 y0);
 bif inb y0 y1.length then
 let e3:=(rd1 VY y1 y0);
 (ZV L (y0,0,y1,y2,y3,e2.2.1,e2.2.2.1,e2.2.2.2.1,e2.2.2.2.2.1,e2.2.2.2.2.2,[e3.1,e2.2.1,e2.2.2.1,e2.2.2.2.1,e2.2.2.2.2.1])).bind fun z5=>
 (jB D z5.2.2.2.2.2.2.2.2).bind fun r6=>
 bif fits (z5.2.2.2.1.length+r6.length) 1 then
 ZW L ((wR (z5.1+1)),z5.2.1,z5.2.2.1,(z5.2.2.2.1++r6))else none else none else none)
 else(some (y1,y2,y3))
theorem Qba:OfL ZW jM:=ofL 156 0
def jT:rL ZV:=fun D L (y0,y1,y2,y3,y4,y5,y6,y7,y8,y9,y10)=>
 bif (decide (y1<(y10.length:Int)))then(bif inb y1 y10.length then
 (Q6 D (rd1 (0:Int) y10 y1)).bind fun r4=>
 bif fits (y4.length+r4.length) 1 then
 ZV L (y0,(wR (y1+1)),y2,y3,(y4++r4),y5,y6,y7,y8,y9,y10)else none else none)
 else(some (y0,y2,y3,y4,y5,y6,y7,y8,y9))
theorem Qa9:OfL ZV jT:=ofL 156 2
def yZ:rL Z2:=fun D L (y0,y1,y2,y3)=>
 bif (decide (y0<(y2.length:Int)))then(bif inb y0 y2.length then
 let e9:=(rd1 XB y2 y0);
 (Q6 D e9.1).bind fun r10=>
 bif fits (y3.length+r10.length) 1 then
 bif inb y0 y2.length then
 let e11:=(rd1 XB y2 y0);
 (Q6 D e11.2).bind fun r12=>
 bif fits (List.length (y3++r10)+r12.length) 1 then
 Z2 L ((wR (y0+1)),y1,y2,((y3++r10)++r12))else none else none else none else none)
 else(some y3)
theorem Qbl:OfL Z2 yZ:=ofL 156 4
def QeD:rF VF:=fun D L (a0,a1)=>
 (Q6 D (a0.length:Int)).bind fun r1=>
 (ZW L (0,a0,a1,r1)).bind fun z7=>
 (Q6 D (z7.2.1.length:Int)).bind fun r8=>
 bif fits (z7.2.2.length+r8.length) 1 then
 (Z2 L (0,z7.1,z7.2.1,(z7.2.2++r8))).bind fun z13=>
 some z13 else none
theorem Qm8:OfF VF QeD:=ofF 156
end
end Go.Proofs.YtiejfnbmficbmaaGreat.M
