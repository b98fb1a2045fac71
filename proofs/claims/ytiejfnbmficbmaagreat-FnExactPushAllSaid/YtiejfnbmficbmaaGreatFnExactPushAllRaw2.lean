/- Plain forms of the functions that FnExactPushAll reaches, part 2. No conditions. -/
import Derived.Test.YtiejfnbmficbmaaGreatFnExactPushAllTab
set_option linter.all false
namespace Go.Proofs.YtiejfnbmficbmaaGreat.M
open Go Go.Eng Go.Proofs
set_option linter.unusedVariables false
noncomputable section
def QiA:rF Qc8:=fun D L (a0,a1,a2,a3,a4,a5,a6,a7,a8,a9,a10,a11,a12,a13,a14,a15,a16,a17,a18)=>
 (qf D (a2,a3)).bind fun r1=>
 (QcP D (a4,a5)).bind fun r2=>
 (Qgi D (a6,a7,a8)).bind fun r3=>
 (JI D a9).bind fun r4=>
 (JI D a10).bind fun r5=>
 (vv D a11).bind fun r6=>
 (vU D a14).bind fun r7=>
 (Qam D a18).bind fun r8=>
 some (a0,a1,r1.1,r1.2,r2.1,r2.2,r3.1,r3.2.1,r3.2.2,r4,r5,r6,a12,a13,r7,a15,a16,a17,r8)
theorem Qr9:OfF Qc8 QiA:=ofF 75
def QiY:rF Qdq:=fun D L (a0,a1,a2)=>
 (QbQ D a1).bind fun r1=>
 some (a0,r1,a2)
theorem QsY:OfF Qdq QiY:=ofF 76
def QiF:rF QcV:=fun D L (a0,a1,a2)=>
 (qf D (a1,a2)).bind fun r1=>
 some (a0,r1)
theorem QsV:OfF QcV QiF:=ofF 77
def Qff:rL Vs:=fun D L (y0,y1,y2,y3,y4,y5,y6,y7,y8,y9,y10,y11,y12,y13,y14)=>
 bif (decide (y2<y1))then(bif inb y2 y0.length then
 (QA D ((rd1 (0:Int) y0 y2),0,3)).bind fun r4=>
 bif (!r4)then(some (Sum.inl false))
 else(bif (decide (0<y2))then(bif inb (wR (y2 - 1)) y11.length then
 bif (decide ((rd1 (0:Int) y0 y2)<=(rd1 (0:Int) y11 (wR (y2 - 1)))))then(some (Sum.inl false))
 else(Vs L (y0,y1,(wR (y2+1)),y3,y4,y5,y6,y7,y8,y9,y10,y11,y12,y13,y14))else none)
 else(Vs L (y0,y1,(wR (y2+1)),y3,y4,y5,y6,y7,y8,y9,y10,y11,y12,y13,y14)))else none)
 else(some (Sum.inr (y3,y4,y5,y6,y7,y8,y9,y10,y11,y12,y13,y14)))
theorem Qg8:OfL Vs Qff:=ofL 82 0
def Qe6:rL qK:=fun D L (y0,y1,y2,y3,y4,y5,y6,y7,y8,y9,y10,y11,y12,y13,y14)=>
 bif (decide (y2<y1))then(bif inb y2 y0.length then
 (QA D ((rd1 (0:Int) y0 y2),0,100000)).bind fun r8=>
 bif (!r8)then(some (Sum.inl false))
 else(qK L (y0,y1,(wR (y2+1)),y3,y4,y5,y6,y7,y8,y9,y10,y11,y12,y13,y14))else none)
 else(some (Sum.inr (y3,y4,y5,y6,y7,y8,y9,y10,y11,y12,y13,y14)))
theorem QhN:OfL qK Qe6:=ofL 82 2
def QkS:rF QfX:=fun D L (a0,a1,a2,a3,a4,a5,a6,a7,a8,a9,a10,a11)=>
 (QA D (a0,0,5)).bind fun r1=>
 bif (!r1)then(some false)
 else((Yy D a1).bind fun r2=>
 bif (!r2)then(some false)
 else((Yy D a2).bind fun r3=>
 bif (!r3)then(some false)
 else(bif (decide (a1=a2))then(some false)
 else((Vs L (a8,(a8.length:Int),0,a0,a1,a2,a3,a4,a5,a6,a7,a8,a9,a10,a11)).bind fun z5=>
 Qq z5 (fun u6=>
 some u6)
 (fun z7=>
 (qK L (z7.2.2.2.2.2.2.2.1,(z7.2.2.2.2.2.2.2.1.length:Int),0,z7)).bind fun z9=>
 Qq z9 (fun u10=>
 some u10)
 (fun z11=>
 (QA D (z11.2.2.2.1,0,100000)).bind fun r12=>
 bif r12 then((QA D (z11.2.2.2.2.1,0,100000)).bind fun r13=>
 bif r13 then((Qdg D (z11.2.2.2.2.2.1,z11.2.2.2.2.2.2.1)).bind fun r14=>
 bif r14 then(bif (decide ((z11.2.2.2.2.2.2.2.1.length:Int)<=5))then((XT D (z11.2.2.2.2.2.2.2.2.2.1,z11.2.2.2.2.2.2.2.2.2.2.1)).bind fun r15=>
 bif r15 then((Qbc D z11.2.2.2.2.2.2.2.2.2.2.2).bind fun r16=>
 some r16)
 else(some false))
 else(some false))
 else(some false))
 else(some false))
 else(some false)))))))
theorem Qt1:OfF QfX QkS:=ofF 82
def jq:rL Zu:=fun D L (y0,y1,y2,y3)=>
 bif (decide (y2<y1))then(bif inb y2 y0.length then
 let e15:=(rd1 Xy y0 y2);
 (QU D e15.1).bind fun r16=>
 (QU D e15.2).bind fun r17=>
 (X0 D [y3,r16,r17]).bind fun r18=>
 Zu L (y0,y1,(wR (y2+1)),r18)else none)
 else(some y3)
theorem QbY:OfL Zu jq:=ofL 84 0
def Qfu:rF qX:=fun D L (a0,a1,a2,a3,a4,a5,a6,a7,a8,a9,a10,a11)=>
 (QfX D (a0,a1,a2,a3,a4,a5,a6,a7,a8,a9,a10,a11)).bind fun r1=>
 bif (!r1)then(some [])
 else((Jr D (a9,a10)).bind fun r2=>
 (QU D a0).bind fun r3=>
 (QU D a1).bind fun r4=>
 (QU D a2).bind fun r5=>
 (QU D a3).bind fun r6=>
 (QU D a4).bind fun r7=>
 (J5 D a5).bind fun r8=>
 (QU D a6).bind fun r9=>
 (J5 D a7).bind fun r10=>
 (J5 D a8).bind fun r11=>
 (QU D (r2.length:Int)).bind fun r12=>
 (QU D (a11.length:Int)).bind fun r13=>
 (X0 D [[82,75],r3,r4,r5,r6,r7,r8,r9,r10,r11,r12,r2,r13]).bind fun r14=>
 (Zu L (a11,(a11.length:Int),0,r14)).bind fun z19=>
 (yS D z19).bind fun r20=>
 (X0 D [z19,r20]).bind fun r21=>
 some r21)
theorem QoA:OfF qX Qfu:=ofF 84
def Qi0:rF QA:=fun D L (a0,a1,a2)=>
 bif (decide (a1<=a0))then(some (decide (a0<=a2)))
 else(some false)
theorem Qse:OfF QA Qi0:=ofF 85
def QiO:rF Kz:=fun D L (a0,a1,a2,a3,a4,a5,a6,a7,a8,a9,a10,a11,a12,a13,a14,a15,a16,a17,a18)=>
 (QA D (a1,1,5)).bind fun r1=>
 bif (!r1)then(some false)
 else((QA D (a0,0,(wR (a1 - 1)))).bind fun r2=>
 bif (!r2)then(some false)
 else((XT D (a2,a3)).bind fun r3=>
 bif (!r3)then(some false)
 else((Qc1 D (a2,a3)).bind fun r4=>
 (je D (a4,a5,r4)).bind fun r5=>
 bif (!r5)then(some false)
 else((JJ D (a6,a7,a8)).bind fun r6=>
 (qv D (a6,a7,a8)).bind fun r7=>
 bif (!r7)then(some false)
 else((Qaj D (a9,a1)).bind fun r8=>
 bif (!r8)then(some false)
 else((Qaj D (a10,a1)).bind fun r9=>
 bif (!r9)then(some false)
 else(bif inb a0 a9.length then
 bif (!decide ((rd1 (0:Int) a9 a0)=r6))then(some false)
 else((Ko D a10).bind fun r10=>
 bif (decide (r6<r10))then(some false)
 else((vQ D (a11,a1)).bind fun r11=>
 bif (!r11)then(some false)
 else((QA D (a12,0,100000)).bind fun r12=>
 bif (!r12)then(some false)
 else((QA D (a17,0,100000)).bind fun r13=>
 bif (!r13)then(some false)
 else((QA D (a15,1,20)).bind fun r14=>
 bif r14 then((QA D (a16,1,50)).bind fun r15=>
 bif r15 then((QcU D (a0,a1,a2,a3,a4,a5,a6,a7,a8,a9,a10,a11,a12,a13,a14,a15,a16,a17,a18)).bind fun r16=>
 bif r16 then((Qa8 D (a0,a1,a2,a3,a4,a5,a6,a7,a8,a9,a10,a11,a12,a13,a14,a15,a16,a17,a18)).bind fun r17=>
 some r17)
 else(some false))
 else(some false))
 else(some false))))))else none)))))))
theorem Qs2:OfF Kz QiO:=ofF 86
def Qhn:rF zi:=fun D L (a0,a1,a2,a3)=>
 (QA D (a3,0,(wR ((a0.length:Int) - 1)))).bind fun r1=>
 some r1
theorem Qqi:OfF zi Qhn:=ofF 87
def vP:rL YM:=fun D L (y0,y1,y2,y3,y4)=>
 bif (decide (y2<y1))then(bif inb y2 y0.length then
 let e1:=(rd1 Xy y0 y2);
 (Yy D e1.1).bind fun r2=>
 bif (!r2)then(some (Sum.inl false))
 else((QA D (e1.2,1,1000)).bind fun r3=>
 bif (!r3)then(some (Sum.inl false))
 else(bif (decide (0<y2))then(bif inb (wR (y2 - 1)) y4.length then
 let e4:=(rd1 Xy y4 (wR (y2 - 1)));
 bif (decide (e1.1<=e4.1))then(some (Sum.inl false))
 else(YM L (y0,y1,(wR (y2+1)),y3,y4))else none)
 else(YM L (y0,y1,(wR (y2+1)),y3,y4))))else none)
 else(some (Sum.inr (y3,y4)))
theorem Qek:OfL YM vP:=ofL 88 0
def Qbs:rL Y8:=fun D L (y0,y1,y2,y3,y4)=>
 bif (decide (y2<y1))then(bif inb y2 y0.length then
 let e8:=(rd1 XU y0 y2);
 (Yy D e8.1).bind fun r9=>
 bif (!r9)then(some (Sum.inl false))
 else((xU D e8.2).bind fun r10=>
 bif (!r10)then(some (Sum.inl false))
 else((Ve D (y3,y4,e8.1)).bind fun r11=>
 bif (decide (e8.2.1<=r11))then(some (Sum.inl false))
 else(bif (decide (0<y2))then(bif inb (wR (y2 - 1)) y3.length then
 let e12:=(rd1 XU y3 (wR (y2 - 1)));
 bif (decide (e8.1<=e12.1))then(some (Sum.inl false))
 else(Y8 L (y0,y1,(wR (y2+1)),y3,y4))else none)
 else(Y8 L (y0,y1,(wR (y2+1)),y3,y4)))))else none)
 else(some (Sum.inr ()))
theorem QdZ:OfL Y8 Qbs:=ofL 88 2
def Qij:rF XT:=fun D L (a0,a1)=>
 (YM L (a1,(a1.length:Int),0,a0,a1)).bind fun z5=>
 Qq z5 (fun u6=>
 some u6)
 (fun z7=>
 (Y8 L (z7.1,(z7.1.length:Int),0,z7)).bind fun z13=>
 Qq z13 (fun u14=>
 some u14)
 (fun z15=>
 some true))
theorem QqV:OfF XT Qij:=ofF 88
def QiU:rF Qc0:=fun D L (a0,a1,a2,a3,a4,a5,a6,a7,a8,a9,a10,a11,a12,a13,a14,a15,a16,a17,a18,a19,a20,a21,a22,a23,a24,a25,a26,a27,a28,a29,a30,a31,a32,a33,a34,a35,a36,a37)=>
 bif (!decide (a0=a19))then(some false)
 else(bif (!decide (a1=a20))then(some false)
 else((J1 D (a2,a3,a21,a22)).bind fun r1=>
 bif (!r1)then(some false)
 else((Qc3 D (a4,a5,a23,a24)).bind fun r2=>
 bif (!r2)then(some false)
 else((Qgb D (a6,a7,a8,a25,a26,a27)).bind fun r3=>
 bif (!r3)then(some false)
 else((Jz D (a9,a28)).bind fun r4=>
 bif (!r4)then(some false)
 else((Jz D (a10,a29)).bind fun r5=>
 bif (!r5)then(some false)
 else((vo D (a11,a30)).bind fun r6=>
 bif (!r6)then(some false)
 else(bif (!decide (a12=a31))then(some false)
 else(bif (!decide (a13=a32))then(some false)
 else((Qbw D (a14,a33)).bind fun r7=>
 bif (!r7)then(some false)
 else(bif (!decide (a15=a34))then(some false)
 else(bif (!decide (a16=a35))then(some false)
 else(bif (!decide (a17=a36))then(some false)
 else((QbC D (a18,a37)).bind fun r8=>
 bif (!r8)then(some false)
 else(some true)))))))))))))))
theorem Qsn:OfF Qc0 QiU:=ofF 89
def QiP:rF Qda:=fun D L (a0,a1,a2,a3,a4,a5)=>
 bif (!decide (a0=a3))then(some false)
 else((Qbp D (a1,a4)).bind fun r1=>
 bif (!r1)then(some false)
 else(bif (!(a2==a5))then(some false)
 else(some true)))
theorem QsR:OfF Qda QiP:=ofF 90
def Qjj:rF Qdj:=fun D L (a0,a1,a2,a3,a4,a5)=>
 bif (!decide (a0=a3))then(some false)
 else((J1 D (a1,a2,a4,a5)).bind fun r1=>
 bif (!r1)then(some false)
 else(some true))
theorem Qsi:OfF Qdj Qjj:=ofF 91
def QhH:rF QaD:=fun D L (a0,a1,a2,a3,a4,a5,a6,a7,a8,a9,a10,a11,a12,a13,a14,a15,a16,a17,a18)=>
 (KE D (a2,a3)).bind fun r1=>
 (Qdf D (a4,a5)).bind fun r2=>
 (QcN D (a6,a7,a8)).bind fun r3=>
 bif fits (List.length ([]:List Int)+a9.length) 8 then
 bif fits (List.length ([]:List Int)+a10.length) 8 then
 (QcR D a11).bind fun r4=>
 bif fits (List.length ([]:List QB)+a14.length) 32 then
 bif fits (List.length ([]:List QM)+a18.length) 24 then
 some (a0,a1,r1.1,r1.2,r2.1,r2.2,r3.1,r3.2.1,r3.2.2,(([]:List Int)++a9),(([]:List Int)++a10),r4,a12,a13,(([]:List QB)++a14),a15,a16,a17,(([]:List QM)++a18))else none else none else none else none
theorem Qqp:OfF QaD QhH:=ofF 92
def Qhm:rF QaN:=fun D L (a0,a1,a2)=>
 bif fits (List.length ([]:List Int)+a1.length) 1 then
 some (a0,(([]:List Int)++a1),a2)else none
theorem QpJ:OfF QaN Qhm:=ofF 93
def QiJ:rF KE:=fun D L (a0,a1)=>
 bif fits (List.length ([]:List Qg)+a0.length) 56 then
 bif fits (List.length ([]:List Qb)+a1.length) 16 then
 some ((([]:List Qg)++a0),(([]:List Qb)++a1))else none else none
theorem QrH:OfF KE QiJ:=ofF 94
def QfF:rF yV:=fun D L (a0,a1,a2,a3,a4,a5,a6,a7,a8,a9,a10,a11,a12,a13,a14,a15,a16,a17,a18)=>
 (ZF D (a2,a3)).bind fun r1=>
 (yN D (a4,a5)).bind fun r2=>
 (Qab D (a6,a7,a8)).bind fun r3=>
 (Yg D a9).bind fun r4=>
 (Yg D a10).bind fun r5=>
 (zB D a11).bind fun r6=>
 bif fits (List.length ([]:List QB)+a14.length) 32 then
 bif fits (List.length ([]:List QM)+a18.length) 24 then
 some (a0,a1,r1.1,r1.2,r2.1,r2.2,r3.1,r3.2.1,r3.2.2,r4,r5,r6,a12,a13,(([]:List QB)++a14),a15,a16,a17,(([]:List QM)++a18))else none else none
theorem QoL:OfF yV QfF:=ofF 99
def Qfn:rF yT:=fun D L (a0,a1,a2)=>
 (X0 D [a1]).bind fun r1=>
 some (a0,r1,a2)
theorem Qo7:OfF yT Qfn:=ofF 100
def QdA:rF ZF:=fun D L (a0,a1)=>
 bif fits (List.length ([]:List Qg)+a0.length) 56 then
 bif fits (List.length ([]:List Qb)+a1.length) 16 then
 some ((([]:List Qg)++a0),(([]:List Qb)++a1))else none else none
theorem QnP:OfF ZF QdA:=ofF 101
def zZ:rL Z8:=fun D L (y0,y1,y2)=>
 bif (decide (y1<(y2.length:Int)))then(bif inb y1 y2.length then
 let e1:=(rd1 XU y2 y1);
 let l2:=List.set y2 (Int.toNat y1) (y0,e1.2);
 bif inb y1 l2.length then
 let e3:=(rd1 XU l2 y1);
 let l4:=List.set l2 (Int.toNat y1) (e3.1,(wR (y0+1)),e3.2.2);
 bif inb y1 l4.length then
 let e5:=(rd1 XU l4 y1);
 let l6:=List.set l4 (Int.toNat y1) (e5.1,e5.2.1,(wR ((wR (y0+1))+1)),e5.2.2.2);
 bif inb y1 l6.length then
 let e7:=(rd1 XU l6 y1);
 let l8:=List.set l6 (Int.toNat y1) (e7.1,e7.2.1,e7.2.2.1,(wR ((wR ((wR (y0+1))+1))+1)),e7.2.2.2.2);
 bif inb y1 l8.length then
 let e9:=(rd1 XU l8 y1);
 let l10:=List.set l8 (Int.toNat y1) (e9.1,e9.2.1,e9.2.2.1,e9.2.2.2.1,(wR ((wR ((wR ((wR (y0+1))+1))+1))+1)),e9.2.2.2.2.2);
 (Kj D (wR ((wR ((wR ((wR ((wR (y0+1))+1))+1))+1))+1))).bind fun r11=>
 bif inb y1 l10.length then
 let e12:=(rd1 XU l10 y1);
 let l13:=List.set l10 (Int.toNat y1) (e12.1,e12.2.1,e12.2.2.1,e12.2.2.2.1,e12.2.2.2.2.1,r11);
 Z8 L ((wR ((wR ((wR ((wR ((wR ((wR (y0+1))+1))+1))+1))+1))+1)),(wR (y1+1)),l13)else none else none else none else none else none else none)
 else(some (y0,y2))
theorem vH:OfL Z8 zZ:=ofL 107 0
def QdP:rF KM:=fun D L (a0,a1)=>
 (Z8 L (a1,0,a0)).bind fun z14=>
 some z14
theorem QnM:OfF KM QdP:=ofF 107
def zd:rL Zz:=fun D L (y0,y1,y2)=>
 bif (decide (y1<(y2.length:Int)))then(bif inb y1 y2.length then
 let e1:=(rd1 Xy y2 y1);
 let l2:=List.set y2 (Int.toNat y1) (y0,e1.2);
 bif inb y1 l2.length then
 let e3:=(rd1 Xy l2 y1);
 let l4:=List.set l2 (Int.toNat y1) (e3.1,(wR (y0+1)));
 Zz L ((wR ((wR (y0+1))+1)),(wR (y1+1)),l4)else none else none)
 else(some (y0,y2))
theorem jR:OfL Zz zd:=ofL 108 0
def QbW:rF YX:=fun D L (a0,a1)=>
 (Zz L (a1,0,a0)).bind fun z5=>
 some z5
theorem Qmk:OfF YX QbW:=ofF 108
def xW:rL ZE:=fun D L (y0,y1,y2)=>
 bif (decide (y1<(y2.length:Int)))then(bif inb y1 y2.length then
 let e1:=(rd1 Yk y2 y1);
 (KM D ((rd1 Yk y2 y1).1,y0)).bind fun r2=>
 let e3:=(rd1 Yk y2 y1);
 let l4:=List.set y2 (Int.toNat y1) (r2.2,e3.2);
 bif inb y1 l4.length then
 let e5:=(rd1 Yk l4 y1);
 (YX D ((rd1 Yk l4 y1).2,r2.1)).bind fun r6=>
 let e7:=(rd1 Yk l4 y1);
 let l8:=List.set l4 (Int.toNat y1) (e7.1,r6.2);
 ZE L (r6.1,(wR (y1+1)),l8)else none else none)
 else(some (y0,y2))
theorem jU:OfL ZE xW:=ofL 109 0
def QbU:rF xL:=fun D L (a0,a1)=>
 (ZE L (a1,0,a0)).bind fun z9=>
 some z9
theorem Qmq:OfF xL QbU:=ofF 109
def ym:rL Z1:=fun D L (y0,y1,y2)=>
 bif (decide (y1<(y2.length:Int)))then(bif inb y1 y2.length then
 (Kg D ((rd1 ([]:List Int) y2 y1),y0)).bind fun r1=>
 let l2:=List.set y2 (Int.toNat y1) r1.2;
 Z1 L (r1.1,(wR (y1+1)),l2)else none)
 else(some (y0,y2))
theorem Qan:OfL Z1 ym:=ofL 110 0
def QeQ:rF zM:=fun D L (a0,a1)=>
 (Z1 L (a1,0,a0)).bind fun z3=>
 some z3
theorem Qn1:OfF zM QeQ:=ofF 110
def ya:rL Z7:=fun D L (y0,y1,y2)=>
 bif (decide (y1<(y2.length:Int)))then(bif inb y1 y2.length then
 let e1:=(rd1 Kr y2 y1);
 let l2:=List.set y2 (Int.toNat y1) (y0,e1.2);
 bif inb y1 l2.length then
 let e3:=(rd1 Kr l2 y1);
 let l4:=List.set l2 (Int.toNat y1) (e3.1,(wR (y0+1)),e3.2.2);
 bif decide ((3:Int)≠0)then
 bif inb y1 l4.length then
 let e5:=(rd1 Kr l4 y1);
 let l6:=List.set l4 (Int.toNat y1) (e5.1,e5.2.1,(decide ((Int.tmod (wR ((wR (y0+1))+1)) 3)=0)),e5.2.2.2);
 bif inb y1 l6.length then
 let e7:=(rd1 Kr l6 y1);
 let l8:=List.set l6 (Int.toNat y1) (e7.1,e7.2.1,e7.2.2.1,(wR ((wR ((wR (y0+1))+1))+1)));
 Z7 L ((wR ((wR ((wR ((wR (y0+1))+1))+1))+1)),(wR (y1+1)),l8)else none else none else none else none else none)
 else(some (y0,y2))
theorem vT:OfL Z7 ya:=ofL 111 0
def QeH:rF zS:=fun D L (a0,a1)=>
 (Z7 L (a1,0,a0)).bind fun z9=>
 some z9
theorem QnT:OfF zS QeH:=ofF 111
def yp:rL Yd:=fun D L (y0,y1,y2)=>
 bif (decide (y1<(y2.length:Int)))then(bif inb y1 y2.length then
 let e1:=(rd1 Y9 y2 y1);
 let l2:=List.set y2 (Int.toNat y1) (y0,e1.2);
 bif inb y1 l2.length then
 let e3:=(rd1 Y9 l2 y1);
 let l4:=List.set l2 (Int.toNat y1) (e3.1,(wR (y0+1)),e3.2.2);
 bif inb y1 l4.length then
 let e5:=(rd1 Y9 l4 y1);
 let l6:=List.set l4 (Int.toNat y1) (e5.1,e5.2.1,(wR ((wR (y0+1))+1)));
 Yd L ((wR ((wR ((wR (y0+1))+1))+1)),(wR (y1+1)),l6)else none else none else none)
 else(some (y0,y2))
theorem vu:OfL Yd yp:=ofL 112 0
def Qeb:rF zL:=fun D L (a0,a1)=>
 (Yd L (a1,0,a0)).bind fun z7=>
 some z7
theorem QnQ:OfF zL Qeb:=ofF 112
def yC:rL Z3:=fun D L (y0,y1,y2)=>
 bif (decide (y1<(y2.length:Int)))then(bif inb y1 y2.length then
 let l1:=List.set y2 (Int.toNat y1) (IntKind.wrap .u8 y0);
 Z3 L ((wR (y0+1)),(wR (y1+1)),l1)else none)
 else(some (y0,y2))
theorem vA:OfL Z3 yC:=ofL 113 0
def QdK:rF zx:=fun D L (a0,a1)=>
 (Z3 L (a1,0,a0)).bind fun z2=>
 some z2
theorem QnY:OfF zx QdK:=ofF 113
def yw:rL Ya:=fun D L (y0,y1,y2)=>
 bif (decide (y2<(y0.length:Int)))then(bif inb y2 y0.length then
 let e1:=(rd1 XU y0 y2);
 bif (!decide (e1.1=y1))then(some (Sum.inl (-1)))
 else(bif inb y2 y0.length then
 let e2:=(rd1 XU y0 y2);
 bif (!decide (e2.2.1=(wR (y1+1))))then(some (Sum.inl (-1)))
 else(bif inb y2 y0.length then
 let e3:=(rd1 XU y0 y2);
 bif (!decide (e3.2.2.1=(wR ((wR (y1+1))+1))))then(some (Sum.inl (-1)))
 else(bif inb y2 y0.length then
 let e4:=(rd1 XU y0 y2);
 bif (!decide (e4.2.2.2.1=(wR ((wR ((wR (y1+1))+1))+1))))then(some (Sum.inl (-1)))
 else(bif inb y2 y0.length then
 let e5:=(rd1 XU y0 y2);
 bif (!decide (e5.2.2.2.2.1=(wR ((wR ((wR ((wR (y1+1))+1))+1))+1))))then(some (Sum.inl (-1)))
 else(bif inb y2 y0.length then
 let e6:=(rd1 XU y0 y2);
 (Kj D (wR ((wR ((wR ((wR ((wR (y1+1))+1))+1))+1))+1))).bind fun r7=>
 bif (!Vc e6.2.2.2.2.2 r7)then(some (Sum.inl (-1)))
 else(Ya L (y0,(wR ((wR ((wR ((wR ((wR ((wR (y1+1))+1))+1))+1))+1))+1)),(wR (y2+1))))else none)else none)else none)else none)else none)else none)
 else(some (Sum.inr y1))
theorem ve:OfL Ya yw:=ofL 114 0
def QdY:rF KL:=fun D L (a0,a1)=>
 (Ya L (a0,a1,0)).bind fun z8=>
 Qq z8 (fun u9=>
 some u9)
 (fun z10=>
 some z10)
theorem QnX:OfF KL QdY:=ofF 114
def xS:rL ZA:=fun D L (y0,y1,y2)=>
 bif (decide (y2<(y0.length:Int)))then(bif inb y2 y0.length then
 let e1:=(rd1 Xy y0 y2);
 bif (!decide (e1.1=y1))then(some (Sum.inl (-1)))
 else(bif inb y2 y0.length then
 let e2:=(rd1 Xy y0 y2);
 bif (!decide (e2.2=(wR (y1+1))))then(some (Sum.inl (-1)))
 else(ZA L (y0,(wR ((wR (y1+1))+1)),(wR (y2+1))))else none)else none)
 else(some (Sum.inr y1))
theorem jP:OfL ZA xS:=ofL 115 0
def QbV:rF Y1:=fun D L (a0,a1)=>
 (ZA L (a0,a1,0)).bind fun z3=>
 Qq z3 (fun u4=>
 some u4)
 (fun z5=>
 some z5)
theorem QmE:OfF Y1 QbV:=ofF 115
def jv:rL Yo:=fun D L (y0,y1,y2)=>
 bif (decide (y2<(y0.length:Int)))then(bif inb y2 y0.length then
 bif (!decide ((rd1 (0:Int) y0 y2)=y1))then(some (Sum.inl (-1)))
 else(Yo L (y0,(wR (y1+1)),(wR (y2+1))))else none)
 else(some (Sum.inr y1))
theorem Qb5:OfL Yo jv:=ofL 116 0
def QfR:rF Ki:=fun D L (a0,a1)=>
 (Yo L (a0,a1,0)).bind fun z1=>
 Qq z1 (fun u2=>
 some u2)
 (fun z3=>
 some z3)
theorem Qpe:OfF Ki QfR:=ofF 116
def zf:rL ZD:=fun D L (y0,y1,y2)=>
 bif (decide (y2<(y0.length:Int)))then(bif inb y2 y0.length then
 let e1:=(rd1 Yk y0 y2);
 (KL D (e1.1,y1)).bind fun r2=>
 bif (decide (r2<0))then(some (Sum.inl (-1)))
 else(bif inb y2 y0.length then
 let e3:=(rd1 Yk y0 y2);
 (Y1 D (e3.2,r2)).bind fun r4=>
 bif (decide (r4<0))then(some (Sum.inl (-1)))
 else(ZD L (y0,r4,(wR (y2+1))))else none)else none)
 else(some (Sum.inr y1))
theorem jJ:OfL ZD zf:=ofL 117 0
def Qb6:rF xE:=fun D L (a0,a1)=>
 (ZD L (a0,a1,0)).bind fun z5=>
 Qq z5 (fun u6=>
 some u6)
 (fun z7=>
 some z7)
theorem QmW:OfF xE Qb6:=ofF 117
def yr:rL ZY:=fun D L (y0,y1,y2)=>
 bif (decide (y2<(y0.length:Int)))then(bif inb y2 y0.length then
 (Ki D ((rd1 ([]:List Int) y0 y2),y1)).bind fun r1=>
 bif (decide (r1<0))then(some (Sum.inl (-1)))
 else(ZY L (y0,r1,(wR (y2+1))))else none)
 else(some (Sum.inr y1))
theorem Qag:OfL ZY yr:=ofL 118 0
def QdW:rF zz:=fun D L (a0,a1)=>
 (ZY L (a0,a1,0)).bind fun z2=>
 Qq z2 (fun u3=>
 some u3)
 (fun z4=>
 some z4)
theorem QnR:OfF zz QdW:=ofF 118
def yB:rL Z6:=fun D L (y0,y1,y2)=>
 bif (decide (y2<(y0.length:Int)))then(bif inb y2 y0.length then
 let e1:=(rd1 Kr y0 y2);
 bif (!decide (e1.1=y1))then(some (Sum.inl (-1)))
 else(bif inb y2 y0.length then
 let e2:=(rd1 Kr y0 y2);
 bif (!decide (e2.2.1=(wR (y1+1))))then(some (Sum.inl (-1)))
 else(bif inb y2 y0.length then
 let e3:=(rd1 Kr y0 y2);
 bif decide ((3:Int)≠0)then
 bif (!(e3.2.2.1==(decide ((Int.tmod (wR ((wR (y1+1))+1)) 3)=0))))then(some (Sum.inl (-1)))
 else(bif inb y2 y0.length then
 let e4:=(rd1 Kr y0 y2);
 bif (!decide (e4.2.2.2=(wR ((wR ((wR (y1+1))+1))+1))))then(some (Sum.inl (-1)))
 else(Z6 L (y0,(wR ((wR ((wR ((wR (y1+1))+1))+1))+1)),(wR (y2+1))))else none)else none else none)else none)else none)
 else(some (Sum.inr y1))
theorem vn:OfL Z6 yB:=ofL 119 0
def QeY:rF zQ:=fun D L (a0,a1)=>
 (Z6 L (a0,a1,0)).bind fun z5=>
 Qq z5 (fun u6=>
 some u6)
 (fun z7=>
 some z7)
theorem Qn2:OfF zQ QeY:=ofF 119
end
end Go.Proofs.YtiejfnbmficbmaaGreat.M
