/- Plain forms of the functions that FnExactAuto reaches, part 2. No conditions. -/
import Derived.Test.YtiejfnbmficbmaaGreatFnExactAutoTab
set_option linter.all false
namespace Go.Proofs.YtiejfnbmficbmaaGreat.M
open Go Go.Eng Go.Proofs
set_option linter.unusedVariables false
noncomputable section
def Qdv:rL KW:=fun D L (y0,y1,y2)=>
 bif (decide (y0<(y1.length:Int)))then(bif inb y0 y1.length then
 let e1:=(rd1 XV y1 y0);
 (Yt D e1.1).bind fun r2=>
 bif (!r2)then(some (Sum.inl false))
 else(bif (decide (0<y0))then(bif inb (wR (y0 - 1)) y1.length then
 let e3:=(rd1 XV y1 (wR (y0 - 1)));
 bif (decide (e1.1<=e3.1))then(some (Sum.inl false))
 else((qR D e1.2).bind fun r4=>
 bif (!r4)then(some (Sum.inl false))
 else((KC D (y1,y2,e1.1)).bind fun r5=>
 bif (decide (e1.2.1<=r5))then(some (Sum.inl false))
 else(KW L ((wR (y0+1)),y1,y2))))else none)
 else((qR D e1.2).bind fun r6=>
 bif (!r6)then(some (Sum.inl false))
 else((KC D (y1,y2,e1.1)).bind fun r7=>
 bif (decide (e1.2.1<=r7))then(some (Sum.inl false))
 else(KW L ((wR (y0+1)),y1,y2)))))else none)
 else(some (Sum.inr (y1,y2)))
theorem QgA:OfL KW Qdv:=ofL 69 0
def QaY:rL KI:=fun D L (y0,y1,y2)=>
 bif (decide (y0<(y2.length:Int)))then(bif inb y0 y2.length then
 let e11:=(rd1 XP y2 y0);
 (Yt D e11.1).bind fun r12=>
 bif (!r12)then(some (Sum.inl false))
 else(bif (decide (0<y0))then(bif inb (wR (y0 - 1)) y2.length then
 let e13:=(rd1 XP y2 (wR (y0 - 1)));
 bif (decide (e11.1<=e13.1))then(some (Sum.inl false))
 else((QF D (e11.2,1,1000)).bind fun r14=>
 bif (!r14)then(some (Sum.inl false))
 else(KI L ((wR (y0+1)),y1,y2)))else none)
 else((QF D (e11.2,1,1000)).bind fun r15=>
 bif (!r15)then(some (Sum.inl false))
 else(KI L ((wR (y0+1)),y1,y2))))else none)
 else(some (Sum.inr ()))
theorem QgI:OfL KI QaY:=ofL 69 2
def QiP:rF XA:=fun D L (a0,a1)=>
 (KW L (0,a0,a1)).bind fun z8=>
 Qp z8 (fun u9=>
 some u9)
 (fun z10=>
 (KI L (0,z10)).bind fun z16=>
 Qp z16 (fun u17=>
 some u17)
 (fun z18=>
 some true))
theorem Qt7:OfF XA QiP:=ofF 69
def vQ:rL Jr:=fun D L (y0,y1,y2,y3,y4,y5,y6,y7,y8,y9,y10,y11,y12)=>
 bif (decide (y0<(y9.length:Int)))then(bif inb y0 y9.length then
 bif inb (wR (y0 - 1)) y9.length then
 bif (decide ((rd1 (0:Int) y9 y0)<=(rd1 (0:Int) y9 (wR (y0 - 1)))))then(some (Sum.inl false))
 else(Jr L ((wR (y0+1)),y1,y2,y3,y4,y5,y6,y7,y8,y9,y10,y11,y12))else none else none)
 else(some (Sum.inr ()))
theorem Qar:OfL Jr vQ:=ofL 74 0
def QnV:rF Qb9:=fun D L (a0,a1,a2,a3,a4,a5,a6,a7,a8,a9,a10,a11)=>
 (QF D (a0,0,5)).bind fun r1=>
 bif (!r1)then(some false)
 else((Yt D a1).bind fun r2=>
 bif (!r2)then(some false)
 else((Yt D a2).bind fun r3=>
 bif (!r3)then(some false)
 else(bif (decide (a1=a2))then(some false)
 else((QF D (a3,0,100000)).bind fun r4=>
 bif (!r4)then(some false)
 else((QF D (a4,0,100000)).bind fun r5=>
 bif (!r5)then(some false)
 else((Qdc D (a5,a6)).bind fun r6=>
 bif (!r6)then(some false)
 else((xi D (a7,5,100000)).bind fun r7=>
 bif (!r7)then(some false)
 else((xi D (a8,4,3)).bind fun r8=>
 bif (!r8)then(some false)
 else((XA D (a9,a10)).bind fun r9=>
 bif (!r9)then(some false)
 else((yP D a11).bind fun r10=>
 bif (!r10)then(some false)
 else((Jr L (1,a0,a1,a2,a3,a4,a5,a6,a7,a8,a9,a10,a11)).bind fun z11=>
 Qp z11 (fun u12=>
 some u12)
 (fun z13=>
 some true))))))))))))
theorem Qyt:OfF Qb9 QnV:=ofF 74
def Ql5:rF QeI:=fun D L (a0,a1,a2,a3,a4,a5,a6,a7,a8,a9,a10,a11,a12,a13,a14,a15,a16,a17,a18)=>
 (xL D (a2,a3)).bind fun r1=>
 (QeA D (a4,a5)).bind fun r2=>
 (Qh3 D (a6,a7,a8)).bind fun r3=>
 (qO D a9).bind fun r4=>
 (qO D a10).bind fun r5=>
 (Qbd D a11).bind fun r6=>
 (Qbj D a14).bind fun r7=>
 (QaV D a18).bind fun r8=>
 some (a0,a1,r1.1,r1.2,r2.1,r2.2,r3.1,r3.2.1,r3.2.2,r4,r5,r6,a12,a13,r7,a15,a16,a17,r8)
theorem QwH:OfF QeI Ql5:=ofF 75
def Qmc:rF Qey:=fun D L (a0,a1,a2)=>
 (QbD D a1).bind fun r1=>
 some (a0,r1,a2)
theorem QwY:OfF Qey Qmc:=ofF 76
def QlH:rF Qff:=fun D L (a0,a1,a2)=>
 (xL D (a1,a2)).bind fun r1=>
 some (a0,r1)
theorem Qw5:OfF Qff QlH:=ofF 77
def Qg7:rL Jw:=fun D L (y0,y1,y2,y3,y4,y5,y6,y7,y8,y9,y10,y11,y12,y13,y14)=>
 bif (decide (y2<y1))then(bif inb y2 y0.length then
 (QA D ((rd1 (0:Int) y0 y2),0,3)).bind fun r4=>
 bif (!r4)then(some (Sum.inl false))
 else(bif (decide (0<y2))then(bif inb (wR (y2 - 1)) y11.length then
 bif (decide ((rd1 (0:Int) y0 y2)<=(rd1 (0:Int) y11 (wR (y2 - 1)))))then(some (Sum.inl false))
 else(Jw L (y0,y1,(wR (y2+1)),y3,y4,y5,y6,y7,y8,y9,y10,y11,y12,y13,y14))else none)
 else(Jw L (y0,y1,(wR (y2+1)),y3,y4,y5,y6,y7,y8,y9,y10,y11,y12,y13,y14)))else none)
 else(some (Sum.inr (y3,y4,y5,y6,y7,y8,y9,y10,y11,y12,y13,y14)))
theorem Qjb:OfL Jw Qg7:=ofL 82 0
def QgV:rL zr:=fun D L (y0,y1,y2,y3,y4,y5,y6,y7,y8,y9,y10,y11,y12,y13,y14)=>
 bif (decide (y2<y1))then(bif inb y2 y0.length then
 (QA D ((rd1 (0:Int) y0 y2),0,100000)).bind fun r8=>
 bif (!r8)then(some (Sum.inl false))
 else(zr L (y0,y1,(wR (y2+1)),y3,y4,y5,y6,y7,y8,y9,y10,y11,y12,y13,y14))else none)
 else(some (Sum.inr (y3,y4,y5,y6,y7,y8,y9,y10,y11,y12,y13,y14)))
theorem Qi3:OfL zr QgV:=ofL 82 2
def Qoa:rF Qb2:=fun D L (a0,a1,a2,a3,a4,a5,a6,a7,a8,a9,a10,a11)=>
 (QA D (a0,0,5)).bind fun r1=>
 bif (!r1)then(some false)
 else((Yu D a1).bind fun r2=>
 bif (!r2)then(some false)
 else((Yu D a2).bind fun r3=>
 bif (!r3)then(some false)
 else(bif (decide (a1=a2))then(some false)
 else((Jw L (a8,(a8.length:Int),0,a0,a1,a2,a3,a4,a5,a6,a7,a8,a9,a10,a11)).bind fun z5=>
 Qp z5 (fun u6=>
 some u6)
 (fun z7=>
 (zr L (z7.2.2.2.2.2.2.2.1,(z7.2.2.2.2.2.2.2.1.length:Int),0,z7)).bind fun z9=>
 Qp z9 (fun u10=>
 some u10)
 (fun z11=>
 (QA D (z11.2.2.2.1,0,100000)).bind fun r12=>
 bif r12 then((QA D (z11.2.2.2.2.1,0,100000)).bind fun r13=>
 bif r13 then((Qe5 D (z11.2.2.2.2.2.1,z11.2.2.2.2.2.2.1)).bind fun r14=>
 bif r14 then(bif (decide ((z11.2.2.2.2.2.2.2.1.length:Int)<=5))then((Xs D (z11.2.2.2.2.2.2.2.2.2.1,z11.2.2.2.2.2.2.2.2.2.2.1)).bind fun r15=>
 bif r15 then((yy D z11.2.2.2.2.2.2.2.2.2.2.2).bind fun r16=>
 some r16)
 else(some false))
 else(some false))
 else(some false))
 else(some false))
 else(some false)))))))
theorem QyI:OfF Qb2 Qoa:=ofF 82
def QlR:rF QA:=fun D L (a0,a1,a2)=>
 bif (decide (a1<=a0))then(some (decide (a0<=a2)))
 else(some false)
theorem QwF:OfF QA QlR:=ofF 85
def QkZ:rF ZH:=fun D L (a0,a1,a2,a3,a4,a5,a6,a7,a8,a9,a10,a11,a12,a13,a14,a15,a16,a17,a18)=>
 (QA D (a1,1,5)).bind fun r1=>
 bif (!r1)then(some false)
 else((QA D (a0,0,(wR (a1 - 1)))).bind fun r2=>
 bif (!r2)then(some false)
 else((Xs D (a2,a3)).bind fun r3=>
 bif (!r3)then(some false)
 else((zG D (a2,a3)).bind fun r4=>
 (vL D (a4,a5,r4)).bind fun r5=>
 bif (!r5)then(some false)
 else((Vx D (a6,a7,a8)).bind fun r6=>
 (YB D (a6,a7,a8)).bind fun r7=>
 bif (!r7)then(some false)
 else((QbO D (a9,a1)).bind fun r8=>
 bif (!r8)then(some false)
 else((QbO D (a10,a1)).bind fun r9=>
 bif (!r9)then(some false)
 else(bif inb a0 a9.length then
 bif (!decide ((rd1 (0:Int) a9 a0)=r6))then(some false)
 else((Vg D a10).bind fun r10=>
 bif (decide (r6<r10))then(some false)
 else((Qcn D (a11,a1)).bind fun r11=>
 bif (!r11)then(some false)
 else((QA D (a12,0,100000)).bind fun r12=>
 bif (!r12)then(some false)
 else((QA D (a17,0,100000)).bind fun r13=>
 bif (!r13)then(some false)
 else((QA D (a15,1,20)).bind fun r14=>
 bif r14 then((QA D (a16,1,50)).bind fun r15=>
 bif r15 then((Qe3 D (a0,a1,a2,a3,a4,a5,a6,a7,a8,a9,a10,a11,a12,a13,a14,a15,a16,a17,a18)).bind fun r16=>
 bif r16 then((Qdd D (a0,a1,a2,a3,a4,a5,a6,a7,a8,a9,a10,a11,a12,a13,a14,a15,a16,a17,a18)).bind fun r17=>
 some r17)
 else(some false))
 else(some false))
 else(some false))))))else none)))))))
theorem Qw8:OfF ZH QkZ:=ofF 86
def Qjw:rF VL:=fun D L (a0,a1,a2,a3)=>
 (QA D (a3,0,(wR ((a0.length:Int) - 1)))).bind fun r1=>
 some r1
theorem QtA:OfF VL Qjw:=ofF 87
def Qcs:rL KO:=fun D L (y0,y1,y2,y3,y4)=>
 bif (decide (y2<y1))then(bif inb y2 y0.length then
 let e1:=(rd1 XP y0 y2);
 (Yu D e1.1).bind fun r2=>
 bif (!r2)then(some (Sum.inl false))
 else((QA D (e1.2,1,1000)).bind fun r3=>
 bif (!r3)then(some (Sum.inl false))
 else(bif (decide (0<y2))then(bif inb (wR (y2 - 1)) y4.length then
 let e4:=(rd1 XP y4 (wR (y2 - 1)));
 bif (decide (e1.1<=e4.1))then(some (Sum.inl false))
 else(KO L (y0,y1,(wR (y2+1)),y3,y4))else none)
 else(KO L (y0,y1,(wR (y2+1)),y3,y4))))else none)
 else(some (Sum.inr (y3,y4)))
theorem QfZ:OfL KO Qcs:=ofL 88 0
def Qdn:rL K3:=fun D L (y0,y1,y2,y3,y4)=>
 bif (decide (y2<y1))then(bif inb y2 y0.length then
 let e8:=(rd1 XV y0 y2);
 (Yu D e8.1).bind fun r9=>
 bif (!r9)then(some (Sum.inl false))
 else((yu D e8.2).bind fun r10=>
 bif (!r10)then(some (Sum.inl false))
 else((V4 D (y3,y4,e8.1)).bind fun r11=>
 bif (decide (e8.2.1<=r11))then(some (Sum.inl false))
 else(bif (decide (0<y2))then(bif inb (wR (y2 - 1)) y3.length then
 let e12:=(rd1 XV y3 (wR (y2 - 1)));
 bif (decide (e8.1<=e12.1))then(some (Sum.inl false))
 else(K3 L (y0,y1,(wR (y2+1)),y3,y4))else none)
 else(K3 L (y0,y1,(wR (y2+1)),y3,y4)))))else none)
 else(some (Sum.inr ()))
theorem Qfz:OfL K3 Qdn:=ofL 88 2
def QiT:rF Xs:=fun D L (a0,a1)=>
 (KO L (a1,(a1.length:Int),0,a0,a1)).bind fun z5=>
 Qp z5 (fun u6=>
 some u6)
 (fun z7=>
 (K3 L (z7.1,(z7.1.length:Int),0,z7)).bind fun z13=>
 Qp z13 (fun u14=>
 some u14)
 (fun z15=>
 some true))
theorem Qu8:OfF Xs QiT:=ofF 88
def Qms:rF Qfb:=fun D L (a0,a1,a2,a3,a4,a5,a6,a7,a8,a9,a10,a11,a12,a13,a14,a15,a16,a17,a18,a19,a20,a21,a22,a23,a24,a25,a26,a27,a28,a29,a30,a31,a32,a33,a34,a35,a36,a37)=>
 bif (!decide (a0=a19))then(some false)
 else(bif (!decide (a1=a20))then(some false)
 else((xN D (a2,a3,a21,a22)).bind fun r1=>
 bif (!r1)then(some false)
 else((QeE D (a4,a5,a23,a24)).bind fun r2=>
 bif (!r2)then(some false)
 else((Qic D (a6,a7,a8,a25,a26,a27)).bind fun r3=>
 bif (!r3)then(some false)
 else((qy D (a9,a28)).bind fun r4=>
 bif (!r4)then(some false)
 else((qy D (a10,a29)).bind fun r5=>
 bif (!r5)then(some false)
 else((Qdx D (a11,a30)).bind fun r6=>
 bif (!r6)then(some false)
 else(bif (!decide (a12=a31))then(some false)
 else(bif (!decide (a13=a32))then(some false)
 else((Qck D (a14,a33)).bind fun r7=>
 bif (!r7)then(some false)
 else(bif (!decide (a15=a34))then(some false)
 else(bif (!decide (a16=a35))then(some false)
 else(bif (!decide (a17=a36))then(some false)
 else((Qda D (a18,a37)).bind fun r8=>
 bif (!r8)then(some false)
 else(some true)))))))))))))))
theorem QvX:OfF Qfb Qms:=ofF 89
def QmI:rF Qe4:=fun D L (a0,a1,a2,a3,a4,a5)=>
 bif (!decide (a0=a3))then(some false)
 else((QcA D (a1,a4)).bind fun r1=>
 bif (!r1)then(some false)
 else(bif (!(a2==a5))then(some false)
 else(some true)))
theorem QwJ:OfF Qe4 QmI:=ofF 90
def QlL:rF QeN:=fun D L (a0,a1,a2,a3,a4,a5)=>
 bif (!decide (a0=a3))then(some false)
 else((xN D (a1,a2,a4,a5)).bind fun r1=>
 bif (!r1)then(some false)
 else(some true))
theorem QwA:OfF QeN QlL:=ofF 91
def Qi5:rF Xr:=fun D L (a0,a1,a2,a3,a4,a5,a6,a7,a8,a9,a10,a11,a12,a13,a14,a15,a16,a17,a18)=>
 (Z2 D (a2,a3)).bind fun r1=>
 (Ks D (a4,a5)).bind fun r2=>
 (zI D (a6,a7,a8)).bind fun r3=>
 bif fits (List.length ([]:List Int)+a9.length) 8 then
 bif fits (List.length ([]:List Int)+a10.length) 8 then
 (vr D a11).bind fun r4=>
 bif fits (List.length ([]:List Qz)+a14.length) 32 then
 bif fits (List.length ([]:List QO)+a18.length) 24 then
 some (a0,a1,r1.1,r1.2,r2.1,r2.2,r3.1,r3.2.1,r3.2.2,(([]:List Int)++a9),(([]:List Int)++a10),r4,a12,a13,(([]:List Qz)++a14),a15,a16,a17,(([]:List QO)++a18))else none else none else none else none
theorem Qt9:OfF Xr Qi5:=ofF 92
def Qj8:rF Qbg:=fun D L (a0,a1,a2)=>
 bif fits (List.length ([]:List Int)+a1.length) 1 then
 some (a0,(([]:List Int)++a1),a2)else none
theorem QvE:OfF Qbg Qj8:=ofF 93
def Qlv:rF Z2:=fun D L (a0,a1)=>
 bif fits (List.length ([]:List Qd)+a0.length) 56 then
 bif fits (List.length ([]:List Qa)+a1.length) 16 then
 some ((([]:List Qd)++a0),(([]:List Qa)++a1))else none else none
theorem Qxd:OfF Z2 Qlv:=ofF 94
def Qpf:rF QlF:=fun D L (a0,a1,a2,a3)=>
 (yG D (a0,a1,a2)).bind fun r1=>
 bif (!r1)then(some ((-1),(-1)))
 else(bif (decide ((a0.length:Int)<2))then(some ((-1),(-1)))
 else(bif (decide (a3<0))then(some ((-1),(-1)))
 else(bif decide (((a0.length:Int):Int)≠0)then
 bif decide (((a0.length:Int):Int)≠0)then
 bif decide (((wR ((a0.length:Int) - 1)):Int)≠0)then
 bif decide (((a0.length:Int):Int)≠0)then
 some ((Int.tmod a3 (a0.length:Int)),(Int.tmod (wR ((wR ((Int.tmod a3 (a0.length:Int))+1))+(Int.tmod (wR (Int.tdiv a3 (a0.length:Int))) (wR ((a0.length:Int) - 1))))) (a0.length:Int)))else none else none else none else none)))
theorem QzW:OfF QlF Qpf:=ofF 95
def QiE:rL qS:=fun D L (y0,y1,y2,y3,y4,y5,y6,y7,y8,y9,y10,y11,y12,y13,y14,y15,y16,y17,y18,y19,y20,y21,y22,y23,y24,y25,y26,y27,y28,y29,y30,y31,y32,y33,y34,y35,y36,y37,y38)=>
 bif (decide (y0<(y15.length:Int)))then(bif inb y0 y15.length then
 let e3:=(rd1 X9 y15 y0);
 bif (decide ((wR (e3.2.2.2+1))<=y16))then(bif fits (y34.length+ [(e3.1,e3.2.1,e3.2.2.1,(wR (e3.2.2.2+1)))].length) 32 then
 qS L ((wR (y0+1)),y1,y2,y3,y4,y5,y6,y7,y8,y9,y10,y11,y12,y13,y14,y15,y16,y17,y18,y19,y20,y21,y22,y23,y24,y25,y26,y27,y28,y29,y30,y31,y32,y33,(y34++[(e3.1,e3.2.1,e3.2.2.1,(wR (e3.2.2.2+1)))]),y35,y36,y37,y38)else none)
 else(qS L ((wR (y0+1)),y1,y2,y3,y4,y5,y6,y7,y8,y9,y10,y11,y12,y13,y14,y15,y16,y17,y18,y19,y20,y21,y22,y23,y24,y25,y26,y27,y28,y29,y30,y31,y32,y33,y34,y35,y36,y37,y38))else none)
 else(some (y20,y21,y22,y23,y24,y25,y26,y27,y28,y29,y30,y31,y32,y33,y34,y35,y36,y37,y38))
theorem Qk5:OfL qS QiE:=ofL 96 0
def Qpm:rF Qgt:=fun D L (a0,a1,a2,a3,a4,a5,a6,a7,a8,a9,a10,a11,a12,a13,a14,a15,a16,a17,a18)=>
 (Xr D (a0,a1,a2,a3,a4,a5,a6,a7,a8,a9,a10,a11,a12,a13,a14,a15,a16,a17,a18)).bind fun r1=>
 (Ys D (a0,a1,a2,a3,a4,a5,a6,a7,a8,a9,a10,a11,a12,a13,a14,a15,a16,a17,a18)).bind fun r2=>
 bif (!r2)then(some r1)
 else(bif (decide (a17=100000))then(some r1)
 else((qS L (0,a0,a1,a2,a3,a4,a5,a6,a7,a8,a9,a10,a11,a12,a13,a14,a15,a16,a17,a18,r1.1,r1.2.1,r1.2.2.1,r1.2.2.2.1,r1.2.2.2.2.1,r1.2.2.2.2.2.1,r1.2.2.2.2.2.2.1,r1.2.2.2.2.2.2.2.1,r1.2.2.2.2.2.2.2.2.1,r1.2.2.2.2.2.2.2.2.2.1,r1.2.2.2.2.2.2.2.2.2.2.1,r1.2.2.2.2.2.2.2.2.2.2.2.1,r1.2.2.2.2.2.2.2.2.2.2.2.2.1,r1.2.2.2.2.2.2.2.2.2.2.2.2.2.1,[],r1.2.2.2.2.2.2.2.2.2.2.2.2.2.2.2.1,r1.2.2.2.2.2.2.2.2.2.2.2.2.2.2.2.2.1,(wR (r1.2.2.2.2.2.2.2.2.2.2.2.2.2.2.2.2.2.1+1)),r1.2.2.2.2.2.2.2.2.2.2.2.2.2.2.2.2.2.2)).bind fun z4=>
 some z4))
theorem QzS:OfF Qgt Qpm:=ofF 96
def QlN:rF vF:=fun D L (a0,a1,a2)=>
 (QlW D (a0,a1)).bind fun r1=>
 (YH D (r1,[],a2)).bind fun r2=>
 some r2
theorem Qwv:OfF vF QlN:=ofF 97
def QqB:rF Qpc:=fun D L (a0,a1,a2,a3,a4,a5,a6,a7,a8,a9,a10,a11,a12,a13,a14,a15,a16,a17,a18,a19,a20,a21)=>
 (Xr D (a0,a1,a2,a3,a4,a5,a6,a7,a8,a9,a10,a11,a12,a13,a14,a15,a16,a17,a18)).bind fun r1=>
 (Ys D (a0,a1,a2,a3,a4,a5,a6,a7,a8,a9,a10,a11,a12,a13,a14,a15,a16,a17,a18)).bind fun r2=>
 bif (!r2)then(some (r1.1,r1.2.1,r1.2.2.1,r1.2.2.2.1,r1.2.2.2.2.1,r1.2.2.2.2.2.1,r1.2.2.2.2.2.2.1,r1.2.2.2.2.2.2.2.1,r1.2.2.2.2.2.2.2.2.1,r1.2.2.2.2.2.2.2.2.2.1,r1.2.2.2.2.2.2.2.2.2.2.1,r1.2.2.2.2.2.2.2.2.2.2.2.1,r1.2.2.2.2.2.2.2.2.2.2.2.2.1,r1.2.2.2.2.2.2.2.2.2.2.2.2.2.1,r1.2.2.2.2.2.2.2.2.2.2.2.2.2.2.1,r1.2.2.2.2.2.2.2.2.2.2.2.2.2.2.2.1,r1.2.2.2.2.2.2.2.2.2.2.2.2.2.2.2.2.1,r1.2.2.2.2.2.2.2.2.2.2.2.2.2.2.2.2.2.1,r1.2.2.2.2.2.2.2.2.2.2.2.2.2.2.2.2.2.2,[],[],1))
 else((QF D (a19,0,4)).bind fun r3=>
 bif (!r3)then(some (r1.1,r1.2.1,r1.2.2.1,r1.2.2.2.1,r1.2.2.2.2.1,r1.2.2.2.2.2.1,r1.2.2.2.2.2.2.1,r1.2.2.2.2.2.2.2.1,r1.2.2.2.2.2.2.2.2.1,r1.2.2.2.2.2.2.2.2.2.1,r1.2.2.2.2.2.2.2.2.2.2.1,r1.2.2.2.2.2.2.2.2.2.2.2.1,r1.2.2.2.2.2.2.2.2.2.2.2.2.1,r1.2.2.2.2.2.2.2.2.2.2.2.2.2.1,r1.2.2.2.2.2.2.2.2.2.2.2.2.2.2.1,r1.2.2.2.2.2.2.2.2.2.2.2.2.2.2.2.1,r1.2.2.2.2.2.2.2.2.2.2.2.2.2.2.2.2.1,r1.2.2.2.2.2.2.2.2.2.2.2.2.2.2.2.2.2.1,r1.2.2.2.2.2.2.2.2.2.2.2.2.2.2.2.2.2.2,[],[],1))
 else((QF D (a20,0,(wR (a1 - 1)))).bind fun r4=>
 bif (!r4)then(some (r1.1,r1.2.1,r1.2.2.1,r1.2.2.2.1,r1.2.2.2.2.1,r1.2.2.2.2.2.1,r1.2.2.2.2.2.2.1,r1.2.2.2.2.2.2.2.1,r1.2.2.2.2.2.2.2.2.1,r1.2.2.2.2.2.2.2.2.2.1,r1.2.2.2.2.2.2.2.2.2.2.1,r1.2.2.2.2.2.2.2.2.2.2.2.1,r1.2.2.2.2.2.2.2.2.2.2.2.2.1,r1.2.2.2.2.2.2.2.2.2.2.2.2.2.1,r1.2.2.2.2.2.2.2.2.2.2.2.2.2.2.1,r1.2.2.2.2.2.2.2.2.2.2.2.2.2.2.2.1,r1.2.2.2.2.2.2.2.2.2.2.2.2.2.2.2.2.1,r1.2.2.2.2.2.2.2.2.2.2.2.2.2.2.2.2.2.1,r1.2.2.2.2.2.2.2.2.2.2.2.2.2.2.2.2.2.2,[],[],1))
 else(bif ((decide (a19=4))==(decide (a20=a0)))then(some (r1.1,r1.2.1,r1.2.2.1,r1.2.2.2.1,r1.2.2.2.2.1,r1.2.2.2.2.2.1,r1.2.2.2.2.2.2.1,r1.2.2.2.2.2.2.2.1,r1.2.2.2.2.2.2.2.2.1,r1.2.2.2.2.2.2.2.2.2.1,r1.2.2.2.2.2.2.2.2.2.2.1,r1.2.2.2.2.2.2.2.2.2.2.2.1,r1.2.2.2.2.2.2.2.2.2.2.2.2.1,r1.2.2.2.2.2.2.2.2.2.2.2.2.2.1,r1.2.2.2.2.2.2.2.2.2.2.2.2.2.2.1,r1.2.2.2.2.2.2.2.2.2.2.2.2.2.2.2.1,r1.2.2.2.2.2.2.2.2.2.2.2.2.2.2.2.2.1,r1.2.2.2.2.2.2.2.2.2.2.2.2.2.2.2.2.2.1,r1.2.2.2.2.2.2.2.2.2.2.2.2.2.2.2.2.2.2,[],[],1))
 else((Qbs D (a2,a3,a19,a20,a21)).bind fun r5=>
 bif (!decide (r5.2.2=0))then(some (r1.1,r1.2.1,r1.2.2.1,r1.2.2.2.1,r1.2.2.2.2.1,r1.2.2.2.2.2.1,r1.2.2.2.2.2.2.1,r1.2.2.2.2.2.2.2.1,r1.2.2.2.2.2.2.2.2.1,r1.2.2.2.2.2.2.2.2.2.1,r1.2.2.2.2.2.2.2.2.2.2.1,r1.2.2.2.2.2.2.2.2.2.2.2.1,r1.2.2.2.2.2.2.2.2.2.2.2.2.1,r1.2.2.2.2.2.2.2.2.2.2.2.2.2.1,r1.2.2.2.2.2.2.2.2.2.2.2.2.2.2.1,r1.2.2.2.2.2.2.2.2.2.2.2.2.2.2.2.1,r1.2.2.2.2.2.2.2.2.2.2.2.2.2.2.2.2.1,r1.2.2.2.2.2.2.2.2.2.2.2.2.2.2.2.2.2.1,r1.2.2.2.2.2.2.2.2.2.2.2.2.2.2.2.2.2.2,[],[],r5.2.2))
 else((QeJ D (a6,a7,a8,r5.1,r5.2.1)).bind fun r6=>
 bif (!r6.2.2.2)then(some (r1.1,r1.2.1,r1.2.2.1,r1.2.2.2.1,r1.2.2.2.2.1,r1.2.2.2.2.2.1,r1.2.2.2.2.2.2.1,r1.2.2.2.2.2.2.2.1,r1.2.2.2.2.2.2.2.2.1,r1.2.2.2.2.2.2.2.2.2.1,r1.2.2.2.2.2.2.2.2.2.2.1,r1.2.2.2.2.2.2.2.2.2.2.2.1,r1.2.2.2.2.2.2.2.2.2.2.2.2.1,r1.2.2.2.2.2.2.2.2.2.2.2.2.2.1,r1.2.2.2.2.2.2.2.2.2.2.2.2.2.2.1,r1.2.2.2.2.2.2.2.2.2.2.2.2.2.2.2.1,r1.2.2.2.2.2.2.2.2.2.2.2.2.2.2.2.2.1,r1.2.2.2.2.2.2.2.2.2.2.2.2.2.2.2.2.2.1,r1.2.2.2.2.2.2.2.2.2.2.2.2.2.2.2.2.2.2,[],[],4))
 else((Xr D (a0,a1,a2,a3,a4,a5,a6,a7,a8,a9,a10,a11,a12,a13,a14,a15,a16,a17,a18)).bind fun r7=>
 bif inb a0 r7.2.2.2.2.2.2.2.2.2.1.length then
 bif inb a0 r7.2.2.2.2.2.2.2.2.2.1.length then
 let l8:=List.set r7.2.2.2.2.2.2.2.2.2.1 (Int.toNat a0) (wR ((rd1 (0:Int) r7.2.2.2.2.2.2.2.2.2.1 a0)+1));
 (xd D (r7.1,r7.2.1,r7.2.2.1,r7.2.2.2.1,r7.2.2.2.2.1,r7.2.2.2.2.2.1,r6.1,r6.2.1,r6.2.2.1,l8,r7.2.2.2.2.2.2.2.2.2.2.1,r7.2.2.2.2.2.2.2.2.2.2.2.1,r7.2.2.2.2.2.2.2.2.2.2.2.2.1,r7.2.2.2.2.2.2.2.2.2.2.2.2.2.1,r7.2.2.2.2.2.2.2.2.2.2.2.2.2.2.1,r7.2.2.2.2.2.2.2.2.2.2.2.2.2.2.2.1,r7.2.2.2.2.2.2.2.2.2.2.2.2.2.2.2.2.1,r7.2.2.2.2.2.2.2.2.2.2.2.2.2.2.2.2.2.1,r7.2.2.2.2.2.2.2.2.2.2.2.2.2.2.2.2.2.2,r5.1,r5.2.1)).bind fun r9=>
 some (r9.1,r9.2.1,r9.2.2.1,r9.2.2.2.1,r9.2.2.2.2.1,r9.2.2.2.2.2.1,r9.2.2.2.2.2.2.1,r9.2.2.2.2.2.2.2.1,r9.2.2.2.2.2.2.2.2.1,r9.2.2.2.2.2.2.2.2.2.1,r9.2.2.2.2.2.2.2.2.2.2.1,r9.2.2.2.2.2.2.2.2.2.2.2.1,r9.2.2.2.2.2.2.2.2.2.2.2.2.1,r9.2.2.2.2.2.2.2.2.2.2.2.2.2.1,r9.2.2.2.2.2.2.2.2.2.2.2.2.2.2.1,r9.2.2.2.2.2.2.2.2.2.2.2.2.2.2.2.1,r9.2.2.2.2.2.2.2.2.2.2.2.2.2.2.2.2.1,r9.2.2.2.2.2.2.2.2.2.2.2.2.2.2.2.2.2.1,r9.2.2.2.2.2.2.2.2.2.2.2.2.2.2.2.2.2.2,r5.1,r5.2.1,0)else none else none))))))
theorem QCk:OfF Qpc QqB:=ofF 98
def Qhz:rF ZJ:=fun D L (a0,a1,a2,a3,a4,a5,a6,a7,a8,a9,a10,a11,a12,a13,a14,a15,a16,a17,a18)=>
 (X2 D (a2,a3)).bind fun r1=>
 (Z7 D (a4,a5)).bind fun r2=>
 (KE D (a6,a7,a8)).bind fun r3=>
 (ZI D a9).bind fun r4=>
 (ZI D a10).bind fun r5=>
 (xG D a11).bind fun r6=>
 bif fits (List.length ([]:List Qz)+a14.length) 32 then
 bif fits (List.length ([]:List QO)+a18.length) 24 then
 some (a0,a1,r1.1,r1.2,r2.1,r2.2,r3.1,r3.2.1,r3.2.2,r4,r5,r6,a12,a13,(([]:List Qz)++a14),a15,a16,a17,(([]:List QO)++a18))else none else none
theorem QsI:OfF ZJ Qhz:=ofF 99
def Qhj:rF vY:=fun D L (a0,a1,a2)=>
 (Kq D [a1]).bind fun r1=>
 some (a0,r1,a2)
theorem Qs0:OfF vY Qhj:=ofF 100
def Qgn:rF X2:=fun D L (a0,a1)=>
 bif fits (List.length ([]:List Qd)+a0.length) 56 then
 bif fits (List.length ([]:List Qa)+a1.length) 16 then
 some ((([]:List Qd)++a0),(([]:List Qa)++a1))else none else none
theorem Qrz:OfF X2 Qgn:=ofF 101
def Qpn:rF Qls:=fun D L (a0,a1,a2,a3)=>
 (yx D (a0,a1,a2)).bind fun r1=>
 bif (!r1)then(some ((-1),(-1)))
 else(bif (decide ((a0.length:Int)=1))then(some ((-1),(-1)))
 else(bif (decide (a3<0))then(some ((-1),(-1)))
 else(bif decide (((a0.length:Int):Int)≠0)then
 bif decide (((a0.length:Int):Int)≠0)then
 bif decide (((wR ((a0.length:Int) - 1)):Int)≠0)then
 bif decide (((a0.length:Int):Int)≠0)then
 some ((Int.tmod a3 (a0.length:Int)),(Int.tmod (wR ((wR ((Int.tmod a3 (a0.length:Int))+1))+(Int.tmod (wR (Int.tdiv a3 (a0.length:Int))) (wR ((a0.length:Int) - 1))))) (a0.length:Int)))else none else none else none else none)))
theorem Qz6:OfF Qls Qpn:=ofF 102
def QjZ:rL xF:=fun D L (y0,y1,y2,y3,y4,y5,y6,y7,y8,y9,y10,y11,y12,y13,y14,y15,y16,y17,y18,y19,y20,y21,y22,y23,y24,y25,y26,y27,y28,y29,y30,y31,y32,y33,y34,y35,y36,y37,y38,y39,y40)=>
 bif (decide (y2<y1))then(bif inb y2 y0.length then
 let e3:=(rd1 X9 y0 y2);
 bif (decide ((wR (e3.2.2.2+1))<=y18))then(bif fits (y36.length+ [(e3.1,e3.2.1,e3.2.2.1,(wR (e3.2.2.2+1)))].length) 32 then
 xF L (y0,y1,(wR (y2+1)),y3,y4,y5,y6,y7,y8,y9,y10,y11,y12,y13,y14,y15,y16,y17,y18,y19,y20,y21,y22,y23,y24,y25,y26,y27,y28,y29,y30,y31,y32,y33,y34,y35,(y36++[(e3.1,e3.2.1,e3.2.2.1,(wR (e3.2.2.2+1)))]),y37,y38,y39,y40)else none)
 else(xF L (y0,y1,(wR (y2+1)),y3,y4,y5,y6,y7,y8,y9,y10,y11,y12,y13,y14,y15,y16,y17,y18,y19,y20,y21,y22,y23,y24,y25,y26,y27,y28,y29,y30,y31,y32,y33,y34,y35,y36,y37,y38,y39,y40))else none)
 else(some (y22,y23,y24,y25,y26,y27,y28,y29,y30,y31,y32,y33,y34,y35,y36,y37,y38,y39,y40))
theorem Qmv:OfL xF QjZ:=ofL 103 0
def Qpp:rF Qfw:=fun D L (a0,a1,a2,a3,a4,a5,a6,a7,a8,a9,a10,a11,a12,a13,a14,a15,a16,a17,a18)=>
 (ZJ D (a0,a1,a2,a3,a4,a5,a6,a7,a8,a9,a10,a11,a12,a13,a14,a15,a16,a17,a18)).bind fun r1=>
 (ZH D (a0,a1,a2,a3,a4,a5,a6,a7,a8,a9,a10,a11,a12,a13,a14,a15,a16,a17,a18)).bind fun r2=>
 bif (!r2)then(some r1)
 else(bif (decide (a17=100000))then(some r1)
 else((xF L (a14,(a14.length:Int),0,a0,a1,a2,a3,a4,a5,a6,a7,a8,a9,a10,a11,a12,a13,a14,a15,a16,a17,a18,r1.1,r1.2.1,r1.2.2.1,r1.2.2.2.1,r1.2.2.2.2.1,r1.2.2.2.2.2.1,r1.2.2.2.2.2.2.1,r1.2.2.2.2.2.2.2.1,r1.2.2.2.2.2.2.2.2.1,r1.2.2.2.2.2.2.2.2.2.1,r1.2.2.2.2.2.2.2.2.2.2.1,r1.2.2.2.2.2.2.2.2.2.2.2.1,r1.2.2.2.2.2.2.2.2.2.2.2.2.1,r1.2.2.2.2.2.2.2.2.2.2.2.2.2.1,[],r1.2.2.2.2.2.2.2.2.2.2.2.2.2.2.2.1,r1.2.2.2.2.2.2.2.2.2.2.2.2.2.2.2.2.1,(wR (r1.2.2.2.2.2.2.2.2.2.2.2.2.2.2.2.2.2.1+1)),r1.2.2.2.2.2.2.2.2.2.2.2.2.2.2.2.2.2.2)).bind fun z4=>
 some z4))
theorem QAD:OfF Qfw Qpp:=ofF 103
end
end Go.Proofs.YtiejfnbmficbmaaGreat.M
