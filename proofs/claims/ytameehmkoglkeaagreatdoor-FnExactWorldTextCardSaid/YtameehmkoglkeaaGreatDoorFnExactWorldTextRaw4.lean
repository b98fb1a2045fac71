/- Plain forms of the functions that FnExactWorldText reaches, part 4. No conditions. -/
import Derived.Test.YtameehmkoglkeaaGreatDoorFnExactWorldTextTab
set_option linter.all false
namespace Go.Proofs.YtameehmkoglkeaaGreatDoor.M
open Go Go.Eng Go.Proofs
set_option linter.unusedVariables false
noncomputable section
def qb:rL Zu:=fun D L (y0,y1,y2,y3,y4,y5,y6,y7)=>
 bif (decide (y2<y1))then(bif (!y7)then(bif (decide (y1<=100))then((QP D (y5,y6,y7)).bind fun r2=>
 (QP D (y5,r2.2)).bind fun r3=>
 (QP D (y5,r3.2)).bind fun r4=>
 (QP D (y5,r4.2)).bind fun r5=>
 (QP D (y5,r5.2)).bind fun r6=>
 (vG D (y0,r6.2.1)).bind fun r7=>
 bif r6.2.2 then(some (Sum.inl (false,[],[])))
 else(bif (!r7.2.2)then(some (Sum.inl (false,[],[])))
 else(bif fits (y3.length+ [(r2.1,r3.1,r4.1,r5.1,r6.1,r7.1)].length) 56 then
 Zu L (y0,y1,(wR (y2+1)),(y3++[(r2.1,r3.1,r4.1,r5.1,r6.1,r7.1)]),y4,y5,r7.2.1,r6.2.2)else none)))
 else(some (Sum.inr (y0,y1,y3,y4,y5,y6,y7))))
 else(some (Sum.inr (y0,y1,y3,y4,y5,y6,y7))))
 else(some (Sum.inr (y0,y1,y3,y4,y5,y6,y7)))
theorem qF:OfL Zu qb:=ofL 103 0
def qf:rL Kl:=fun D L (y0,y1,y2,y3,y4,y5,y6,y7,y8)=>
 bif (decide ((wR (y2+1))<(y5.length:Int)))then(bif inb y2 y5.length then
 bif inb (wR (y2+1)) y5.length then
 bif fits (y4.length+ [((rd1 (0:Int) y5 y2),(rd1 (0:Int) y5 (wR (y2+1))))].length) 16 then
 Kl L (y0,y1,(wR (y2+2)),y3,(y4++[((rd1 (0:Int) y5 y2),(rd1 (0:Int) y5 (wR (y2+1))))]),y5,y6,y7,y8)else none else none else none)
 else(some (y0,y1,y3,y4,y6,y7,y8))
theorem ql:OfL Kl qf:=ofL 103 2
def QfE:rF ja:=fun D L a0=>
 (QP D (a0,0,false)).bind fun r1=>
 (Zu L (a0,r1.1,0,[],[],a0,r1.2)).bind fun z8=>
 Qo z8 (fun u9=>
 some (u9.2.1,u9.2.2,u9.1))
 (fun z10=>
 (Xv D (z10.2.2.2.2.1,z10.2.2.2.2.2.1,z10.2.2.2.2.2.2,2)).bind fun r11=>
 (Kl L (z10.1,z10.2.1,0,z10.2.2.1,z10.2.2.2.1,r11.1,z10.2.2.2.2.1,r11.2)).bind fun z12=>
 bif z12.2.2.2.2.2.2 then(some ([],[],false))
 else(bif (decide (100<z12.2.1))then(some ([],[],false))
 else((Zd D (z12.2.2.1,z12.2.2.2.1)).bind fun r13=>
 bif (!r13)then(some ([],[],false))
 else((Vy D (z12.2.2.1,z12.2.2.2.1)).bind fun r14=>
 bif (!Xm (QA r14) (QA z12.1))then(some ([],[],false))
 else(some (z12.2.2.1,z12.2.2.2.1,true))))))
theorem QnL:OfF ja QfE:=ofF 103
def zm:rL Kg:=fun D L (y0,y1,y2,y3,y4,y5,y6,y7,y8,y9,y10,y11,y12)=>
 bif (decide (y0<(y9.length:Int)))then(bif inb y0 y9.length then
 bif inb (wR (y0 - 1)) y9.length then
 bif (decide ((rd1 (0:Int) y9 y0)<=(rd1 (0:Int) y9 (wR (y0 - 1)))))then(some (Sum.inl false))
 else(Kg L ((wR (y0+1)),y1,y2,y3,y4,y5,y6,y7,y8,y9,y10,y11,y12))else none else none)
 else(some (Sum.inr ()))
theorem zM:OfL Kg zm:=ofL 104 0
def QhF:rF KL:=fun D L (a0,a1,a2,a3,a4,a5,a6,a7,a8,a9,a10,a11)=>
 (QD D (a0,0,5)).bind fun r1=>
 bif (!r1)then(some false)
 else((ZW D a1).bind fun r2=>
 bif (!r2)then(some false)
 else((ZW D a2).bind fun r3=>
 bif (!r3)then(some false)
 else(bif (decide (a1=a2))then(some false)
 else((QD D (a3,0,100000)).bind fun r4=>
 bif (!r4)then(some false)
 else((QD D (a4,0,100000)).bind fun r5=>
 bif (!r5)then(some false)
 else((yr D (a5,a6)).bind fun r6=>
 bif (!r6)then(some false)
 else((VY D (a7,5,100000)).bind fun r7=>
 bif (!r7)then(some false)
 else((VY D (a8,4,3)).bind fun r8=>
 bif (!r8)then(some false)
 else((Zd D (a9,a10)).bind fun r9=>
 bif (!r9)then(some false)
 else((jB D a11).bind fun r10=>
 bif (!r10)then(some false)
 else((Kg L (1,a0,a1,a2,a3,a4,a5,a6,a7,a8,a9,a10,a11)).bind fun z11=>
 Qo z11 (fun u12=>
 some u12)
 (fun z13=>
 some true))))))))))))
theorem QqI:OfF KL QhF:=ofF 104
def Qdb:rF zp:=fun D L (a0,a1,a2,a3,a4,a5,a6,a7,a8,a9,a10,a11)=>
 (KL D (a0,a1,a2,a3,a4,a5,a6,a7,a8,a9,a10,a11)).bind fun r1=>
 bif (!r1)then(some [])
 else((vY D (a0,a1,a2,a3,a4,a5,a6,a7,a8,a9,a10,a11)).bind fun r2=>
 (xN D r2).bind fun r3=>
 bif fits (r2.length+r3.length) 1 then
 some (r2++r3)else none)
theorem Qlu:OfF zp Qdb:=ofF 105
def QgI:rF Qbs:=fun D L (a0,a1,a2)=>
 (vc D a1).bind fun r1=>
 some (a0,r1,a2)
theorem Qpi:OfF Qbs QgI:=ofF 106
def Qgm:rF Qbr:=fun D L (a0,a1,a2)=>
 (VA D (a1,a2)).bind fun r1=>
 some (a0,r1)
theorem QpR:OfF Qbr Qgm:=ofF 107
def Qel:rF qi:=fun D L (a0,a1,a2,a3)=>
 (Qt D (a3,0,(wR ((a0.length:Int) - 1)))).bind fun r1=>
 some r1
theorem Qne:OfF qi Qel:=ofF 108
def Qaj:rF Qu:=fun D L (a0,a1,a2)=>
 (xP D (a0,a1)).bind fun r1=>
 bif a2 then(some (0,a1,true))
 else(bif (!r1.2.2)then(some (0,a1,true))
 else(some (r1.1,r1.2.1,a2)))
theorem Qjr:OfF Qu Qaj:=ofF 109
def JO:rL ZL:=fun D L (y0,y1,y2,y3,y4,y5)=>
 bif (decide (y1<y0))then((Qu D (y2,y3,y4)).bind fun r2=>
 bif fits (y5.length+ [r2.1].length) 8 then
 ZL L (y0,(wR (y1+1)),y2,r2.2.1,r2.2.2,(y5++[r2.1]))else none)
 else(some (y2,y3,y4,y5))
theorem xQ:OfL ZL JO:=ofL 110 0
def yU:rF XH:=fun D L (a0,a1,a2,a3)=>
 (X2 D (a0,a1,a2,a3)).bind fun r1=>
 (ZL L (r1.1,0,a0,r1.2.1,r1.2.2,[])).bind fun z3=>
 some (z3.2.2.2,z3.2.1,z3.2.2.1)
theorem Qjk:OfF XH yU:=ofF 110
def ji:rL Yc:=fun D L (y0,y1,y2,y3,y4,y5,y6,y7)=>
 bif (decide (y2<y1))then((Qu D (y5,y6,y7)).bind fun r2=>
 (Qu D (y5,r2.2)).bind fun r3=>
 (Qu D (y5,r3.2)).bind fun r4=>
 (Qu D (y5,r4.2)).bind fun r5=>
 (Qu D (y5,r5.2)).bind fun r6=>
 (YT D (y5,r6.2)).bind fun r7=>
 bif fits (y3.length+ [(r2.1,r3.1,r4.1,r5.1,r6.1,r7.1)].length) 56 then
 Yc L (y0,y1,(wR (y2+1)),(y3++[(r2.1,r3.1,r4.1,r5.1,r6.1,r7.1)]),y4,y5,r7.2)else none)
 else(some (y0,y3,y4,y5,y6,y7))
theorem Qcg:OfL Yc ji:=ofL 111 0
def yL:rL Z9:=fun D L (y0,y1,y2,y3,y4,y5,y6,y7)=>
 bif (decide (y2<y1))then((Qu D (y5,y6,y7)).bind fun r10=>
 (Qu D (y5,r10.2)).bind fun r11=>
 bif fits (y4.length+ [(r10.1,r11.1)].length) 16 then
 Z9 L (y0,y1,(wR (y2+1)),y3,(y4++[(r10.1,r11.1)]),y5,r11.2)else none)
 else(some (y0,y3,y4,y5,y6,y7))
theorem Qbx:OfL Z9 yL:=ofL 111 2
def Qfb:rF vB:=fun D L a0=>
 (X2 D (a0,0,false,5)).bind fun r1=>
 (Yc L (a0,r1.1,0,[],[],a0,r1.2)).bind fun z8=>
 (X2 D (z8.2.2.2.1,z8.2.2.2.2.1,z8.2.2.2.2.2,5)).bind fun r9=>
 (Z9 L (z8.1,r9.1,0,z8.2.1,z8.2.2.1,z8.2.2.2.1,r9.2)).bind fun z12=>
 bif z12.2.2.2.2.2 then(some ([],[],false))
 else((XK D (z12.2.1,z12.2.2.1)).bind fun r13=>
 bif (!r13)then(some ([],[],false))
 else((Yj D (z12.2.1,z12.2.2.1)).bind fun r14=>
 (xY D (r14,z12.1)).bind fun r15=>
 bif (!r15)then(some ([],[],false))
 else(some (z12.2.1,z12.2.2.1,true))))
theorem QmV:OfF vB Qfb:=ofF 111
def yg:rF X2:=fun D L (a0,a1,a2,a3)=>
 (Qu D (a0,a1,a2)).bind fun r1=>
 bif (decide (a3<r1.1))then(some (0,r1.2.1,true))
 else(some r1)
theorem Qik:OfF X2 yg:=ofF 112
def QcR:rL Ki:=fun D L (y0,y1,y2,y3,y4,y5,y6,y7,y8,y9,y10,y11,y12,y13,y14)=>
 bif (decide (y2<y1))then(bif inb y2 y0.length then
 (Qt D ((rd1 (0:Int) y0 y2),0,3)).bind fun r4=>
 bif (!r4)then(some (Sum.inl false))
 else(bif (decide (0<y2))then(bif inb (wR (y2 - 1)) y11.length then
 bif (decide ((rd1 (0:Int) y0 y2)<=(rd1 (0:Int) y11 (wR (y2 - 1)))))then(some (Sum.inl false))
 else(Ki L (y0,y1,(wR (y2+1)),y3,y4,y5,y6,y7,y8,y9,y10,y11,y12,y13,y14))else none)
 else(Ki L (y0,y1,(wR (y2+1)),y3,y4,y5,y6,y7,y8,y9,y10,y11,y12,y13,y14)))else none)
 else(some (Sum.inr (y3,y4,y5,y6,y7,y8,y9,y10,y11,y12,y13,y14)))
theorem QeY:OfL Ki QcR:=ofL 113 0
def QcL:rL Jt:=fun D L (y0,y1,y2,y3,y4,y5,y6,y7,y8,y9,y10,y11,y12,y13,y14)=>
 bif (decide (y2<y1))then(bif inb y2 y0.length then
 (Qt D ((rd1 (0:Int) y0 y2),0,100000)).bind fun r8=>
 bif (!r8)then(some (Sum.inl false))
 else(Jt L (y0,y1,(wR (y2+1)),y3,y4,y5,y6,y7,y8,y9,y10,y11,y12,y13,y14))else none)
 else(some (Sum.inr (y3,y4,y5,y6,y7,y8,y9,y10,y11,y12,y13,y14)))
theorem Qed:OfL Jt QcL:=ofL 113 2
def Qh7:rF YH:=fun D L (a0,a1,a2,a3,a4,a5,a6,a7,a8,a9,a10,a11)=>
 (Qt D (a0,0,5)).bind fun r1=>
 bif (!r1)then(some false)
 else((ZY D a1).bind fun r2=>
 bif (!r2)then(some false)
 else((ZY D a2).bind fun r3=>
 bif (!r3)then(some false)
 else(bif (decide (a1=a2))then(some false)
 else((Ki L (a8,(a8.length:Int),0,a0,a1,a2,a3,a4,a5,a6,a7,a8,a9,a10,a11)).bind fun z5=>
 Qo z5 (fun u6=>
 some u6)
 (fun z7=>
 (Jt L (z7.2.2.2.2.2.2.2.1,(z7.2.2.2.2.2.2.2.1.length:Int),0,z7)).bind fun z9=>
 Qo z9 (fun u10=>
 some u10)
 (fun z11=>
 (Qt D (z11.2.2.2.1,0,100000)).bind fun r12=>
 bif r12 then((Qt D (z11.2.2.2.2.1,0,100000)).bind fun r13=>
 bif r13 then((Qbg D (z11.2.2.2.2.2.1,z11.2.2.2.2.2.2.1)).bind fun r14=>
 bif r14 then(bif (decide ((z11.2.2.2.2.2.2.2.1.length:Int)<=5))then((XK D (z11.2.2.2.2.2.2.2.2.2.1,z11.2.2.2.2.2.2.2.2.2.2.1)).bind fun r15=>
 bif r15 then((jq D z11.2.2.2.2.2.2.2.2.2.2.2).bind fun r16=>
 some r16)
 else(some false))
 else(some false))
 else(some false))
 else(some false))
 else(some false)))))))
theorem QqU:OfF YH Qh7:=ofF 113
def QnQ:rF xY:=fun D L (a0,a1)=>
 some (Xm (QA a0) (QA a1))
theorem QpK:OfF xY QnQ:=ofF 114
def zF:rL Zi:=fun D L (y0,y1,y2,y3)=>
 bif (decide (y2<y1))then(bif inb y2 y0.length then
 let e15:=(rd1 Xk y0 y2);
 (QN D e15.1).bind fun r16=>
 (QN D e15.2).bind fun r17=>
 (XX D [y3,r16,r17]).bind fun r18=>
 Zi L (y0,y1,(wR (y2+1)),r18)else none)
 else(some y3)
theorem Qag:OfL Zi zF:=ofL 115 0
def Qc8:rF zr:=fun D L (a0,a1,a2,a3,a4,a5,a6,a7,a8,a9,a10,a11)=>
 (YH D (a0,a1,a2,a3,a4,a5,a6,a7,a8,a9,a10,a11)).bind fun r1=>
 bif (!r1)then(some [])
 else((Yj D (a9,a10)).bind fun r2=>
 (QN D a0).bind fun r3=>
 (QN D a1).bind fun r4=>
 (QN D a2).bind fun r5=>
 (QN D a3).bind fun r6=>
 (QN D a4).bind fun r7=>
 (VW D a5).bind fun r8=>
 (QN D a6).bind fun r9=>
 (VW D a7).bind fun r10=>
 (VW D a8).bind fun r11=>
 (QN D (r2.length:Int)).bind fun r12=>
 (QN D (a11.length:Int)).bind fun r13=>
 (XX D [[82,75],r3,r4,r5,r6,r7,r8,r9,r10,r11,r12,r2,r13]).bind fun r14=>
 (Zi L (a11,(a11.length:Int),0,r14)).bind fun z19=>
 (zq D z19).bind fun r20=>
 (XX D [z19,r20]).bind fun r21=>
 some r21)
theorem Ql2:OfF zr Qc8:=ofF 115
def QgT:rF Qbl:=fun D L (a0,a1,a2,a3,a4,a5)=>
 bif (!decide (a0=a3))then(some false)
 else((jZ D (a1,a4)).bind fun r1=>
 bif (!r1)then(some false)
 else(bif (!(a2==a5))then(some false)
 else(some true)))
theorem Qo0:OfF Qbl QgT:=ofF 116
def Qgx:rF Qbi:=fun D L (a0,a1,a2,a3,a4,a5)=>
 bif (!decide (a0=a3))then(some false)
 else((VE D (a1,a2,a4,a5)).bind fun r1=>
 bif (!r1)then(some false)
 else(some true))
theorem QpM:OfF Qbi Qgx:=ofF 117
def QfX:rF Qbt:=fun D L (a0,a1,a2,a3,a4,a5,a6)=>
 (Qaa D (a1,a2,a3,a4,a5,a6)).bind fun r1=>
 bif (decide (r1<0))then(some (-1))
 else(some r1)
theorem Qpu:OfF Qbt QfX:=ofF 118
def QgM:rF ZW:=fun D L a0=>
 (QD D (a0,0,4)).bind fun r1=>
 some r1
theorem Qo1:OfF ZW QgM:=ofF 119
def QfP:rF Vz:=fun D L (a0,a1,a2,a3,a4)=>
 (QD D (a0,1,1000)).bind fun r1=>
 bif r1 then((QD D (a1,0,1)).bind fun r2=>
 bif r2 then((QD D (a2,0,100000)).bind fun r3=>
 bif r3 then((QD D (a3,0,1000)).bind fun r4=>
 bif r4 then(some (decide (((ByteArray.size a4):Int)<=8)))
 else(some false))
 else(some false))
 else(some false))
 else(some false)
theorem QnF:OfF Vz QfP:=ofF 120
def vn:rL KU:=fun D L (y0,y1,y2,y3)=>
 bif (decide (y1<(y3.length:Int)))then(bif inb y1 y3.length then
 let e1:=(rd1 Xk y3 y1);
 bif (decide (e1.1=y0))then(bif inb y1 y3.length then
 let e2:=(rd1 Xk y3 y1);
 some (Sum.inl e2.2)else none)
 else(KU L (y0,(wR (y1+1)),y2,y3))else none)
 else(some (Sum.inr ()))
theorem QbB:OfL KU vn:=ofL 121 0
def QeA:rF qz:=fun D L (a0,a1,a2)=>
 (KU L (a2,0,a0,a1)).bind fun z3=>
 Qo z3 (fun u4=>
 some u4)
 (fun z5=>
 some 0)
theorem Qoa:OfF qz QeA:=ofF 121
def xq:rL V0:=fun D L (y0,y1,y2)=>
 bif (decide (y2<(y0.length:Int)))then(bif inb y2 y0.length then
 bif inb y2 y1.length then
 bif (!decide ((rd1 (0:Int) y0 y2)=(rd1 (0:Int) y1 y2)))then(some (Sum.inl false))
 else(V0 L (y0,y1,(wR (y2+1))))else none else none)
 else(some (Sum.inr ()))
theorem xG:OfL V0 xq:=ofL 122 0
def vN:rF Qbn:=fun D L (a0,a1)=>
 bif (!decide ((a0.length:Int)=(a1.length:Int)))then(some false)
 else((V0 L (a0,a1,0)).bind fun z1=>
 Qo z1 (fun u2=>
 some u2)
 (fun z3=>
 some true))
theorem QpA:OfF Qbn vN:=ofF 122
def Qe4:rF vU:=fun D L (a0,a1,a2)=>
 (Zd D (a0,a1)).bind fun r1=>
 bif (!r1)then(some 0)
 else((QD D (a2,0,3)).bind fun r2=>
 bif (!r2)then(some 0)
 else((vj D (a0,a1,[a2])).bind fun r3=>
 (Vy D r3).bind fun r4=>
 (zG D r4).bind fun r5=>
 bif decide ((1024:Int)≠0)then
 some (Int.tmod r5 1024)else none))
theorem QmA:OfF vU Qe4:=ofF 123
def QaD:rL VL:=fun D L (y0,y1,y2)=>
 bif (decide (y1<(y0.length:Int)))then(bif inb y1 y0.length then
 (Q7 D (rd1 (0:Int) y0 y1)).bind fun r1=>
 bif fits (y2.length+r1.length) 1 then
 VL L (y0,(wR (y1+1)),(y2++r1))else none else none)
 else(some y2)
theorem Qc3:OfL VL QaD:=ofL 124 0
def QgU:rF Qa5:=fun D L a0=>
 (VL L (a0,0,[])).bind fun z2=>
 (zG D z2).bind fun r3=>
 bif decide ((1024:Int)≠0)then
 some (Int.tmod r3 1024)else none
theorem QpF:OfF Qa5 QgU:=ofF 124
def Qf1:rF Qa2:=fun D L (a0,a1,a2,a3,a4,a5)=>
 (vP D (a1,a2,a3,a4,a5)).bind fun r1=>
 some (a0,r1)
theorem QoD:OfF Qa2 Qf1:=ofF 125
def Qft:rF vq:=fun D L (a0,a1)=>
 some (a0,a1)
theorem Qmr:OfF vq Qft:=ofF 126
def Qgw:rF ZY:=fun D L a0=>
 (Qt D (a0,0,4)).bind fun r1=>
 some r1
theorem QoI:OfF ZY Qgw:=ofF 127
def QeL:rF qu:=fun D L (a0,a1,a2,a3,a4)=>
 (Qt D (a0,1,1000)).bind fun r1=>
 bif r1 then((Qt D (a1,0,1)).bind fun r2=>
 bif r2 then((Qt D (a2,0,100000)).bind fun r3=>
 bif r3 then((Qt D (a3,0,1000)).bind fun r4=>
 bif r4 then(some (decide (((ByteArray.size a4):Int)<=8)))
 else(some false))
 else(some false))
 else(some false))
 else(some false)
theorem QnE:OfF qu QeL:=ofF 128
def yY:rL Ko:=fun D L (y0,y1,y2,y3)=>
 bif (decide (y3<y2))then(bif inb y3 y1.length then
 let e1:=(rd1 Xk y1 y3);
 bif (decide (e1.1=y0))then(some (Sum.inl e1.2))
 else(Ko L (y0,y1,y2,(wR (y3+1))))else none)
 else(some (Sum.inr ()))
theorem QcC:OfL Ko yY:=ofL 129 0
def Qfo:rF jD:=fun D L (a0,a1,a2)=>
 (Ko L (a2,a1,(a1.length:Int),0)).bind fun z2=>
 Qo z2 (fun u3=>
 some u3)
 (fun z4=>
 some 0)
theorem QmC:OfF jD Qfo:=ofF 129
def ZX:rL Ze:=fun D L (y0,y1,y2,y3)=>
 bif (decide (y3<y2))then(bif inb y3 y0.length then
 bif inb y3 y1.length then
 bif (!decide ((rd1 (0:Int) y0 y3)=(rd1 (0:Int) y1 y3)))then(some (Sum.inl false))
 else(Ze L (y0,y1,y2,(wR (y3+1))))else none else none)
 else(some (Sum.inr ()))
theorem YE:OfL Ze ZX:=ofL 130 0
def Ke:rF Y7:=fun D L (a0,a1)=>
 bif (!decide ((a0.length:Int)=(a1.length:Int)))then(some false)
 else((Ze L (a0,a1,(a0.length:Int),0)).bind fun z1=>
 Qo z1 (fun u2=>
 some u2)
 (fun z3=>
 some true))
theorem Qhc:OfF Y7 Ke:=ofF 130
def Qfq:rF yJ:=fun D L (a0,a1,a2)=>
 (XK D (a0,a1)).bind fun r1=>
 bif (!r1)then(some 0)
 else((Qt D (a2,0,3)).bind fun r2=>
 bif (!r2)then(some 0)
 else((Qdq D (a0,a1,[a2])).bind fun r3=>
 (Yj D r3).bind fun r4=>
 (zP D r4).bind fun r5=>
 bif decide ((1024:Int)≠0)then
 some (Int.tmod r5 1024)else none))
theorem Qmb:OfF yJ Qfq:=ofF 131
def Qat:rL VV:=fun D L (y0,y1,y2,y3)=>
 bif (decide (y2<y1))then(bif inb y2 y0.length then
 (QN D (rd1 (0:Int) y0 y2)).bind fun r1=>
 (XX D [y3,r1]).bind fun r2=>
 VV L (y0,y1,(wR (y2+1)),r2)else none)
 else(some y3)
theorem Qc2:OfL VV Qat:=ofL 132 0
def Qf9:rF Qbp:=fun D L a0=>
 (VV L (a0,(a0.length:Int),0,[])).bind fun z3=>
 (zP D z3).bind fun r4=>
 bif decide ((1024:Int)≠0)then
 some (Int.tmod r4 1024)else none
theorem Qox:OfF Qbp Qf9:=ofF 132
def Qgl:rF QaX:=fun D L (a0,a1,a2,a3,a4,a5,a6,a7,a8,a9,a10,a11,a12,a13,a14,a15,a16,a17,a18,a19)=>
 (Qt D (a19,0,(wR (a1 - 1)))).bind fun r1=>
 bif r1 then(some (!decide (a19=a0)))
 else(some false)
theorem Qpo:OfF QaX Qgl:=ofF 133
def Qfg:rL VI:=fun D L (y0,y1,y2,y3,y4)=>
 bif (decide (y4<y3))then(bif inb y4 y2.length then
 let e1:=(rd1 QgS y2 y4);
 bif (decide (e1.1=y0))then(bif (e1.2.2.1==y1)then(some (Sum.inl y4))
 else(VI L (y0,y1,y2,y3,(wR (y4+1)))))
 else(VI L (y0,y1,y2,y3,(wR (y4+1))))else none)
 else(some (Sum.inr ()))
theorem Qgk:OfL VI Qfg:=ofL 134 0
def Qi9:rF QgL:=fun D L (a0,a1,a2,a3,a4,a5,a6,a7,a8,a9,a10,a11,a12,a13,a14,a15,a16,a17,a18,a19,a20)=>
 (VI L (a19,a20,a14,(a14.length:Int),0)).bind fun z2=>
 Qo z2 (fun u3=>
 some u3)
 (fun z4=>
 some (-1))
theorem QsJ:OfF QgL Qi9:=ofF 134
def QgA:rF Qbk:=fun D L (a0,a1,a2,a3,a4,a5,a6,a7,a8,a9,a10,a11)=>
 bif (!decide (a0=a6))then(some false)
 else((jo D (a1,a2,a3,a4,a5,a7,a8,a9,a10,a11)).bind fun r1=>
 bif (!r1)then(some false)
 else(some true))
theorem Qoz:OfF Qbk QgA:=ofF 139
def Qfw:rF jQ:=fun D L (a0,a1,a2,a3)=>
 bif (!decide (a0=a2))then(some false)
 else(bif (!decide (a1=a3))then(some false)
 else(some true))
theorem Qmo:OfF jQ Qfw:=ofF 140
def QeT:rF j0:=fun D L (a0,a1)=>
 bif (decide ((wR (a1 - (a0.length:Int)))<0))then(some (-1))
 else(some (wR (a1 - (a0.length:Int))))
theorem QnX:OfF j0 QeT:=ofF 141
def Qhe:rL xO:=fun D L (y0,y1,y2)=>
 bif (decide (y2<(y0.length:Int)))then(bif inb y2 y0.length then
 (Vk L (y0,(bits .xor .i64 y1 (wR (rd1 (0:Int) y0 y2))),y2,0)).bind fun z1=>
 xO L (z1.1,z1.2.1,(wR (z1.2.2+1)))else none)
 else(some y1)
theorem Qh2:OfL xO Qhe:=ofL 142 0
def Qhg:rL Vk:=fun D L (y0,y1,y2,y3)=>
 bif (decide (y3<8))then(bif decide ((2:Int)≠0)then
 bif decide ((2:Int)≠0)then
 bif (decide ((Int.tmod y1 2)=1))then(Vk L (y0,(bits .xor .i64 (wR (Int.tdiv y1 2)) 3988292384),y2,(wR (y3+1))))
 else(Vk L (y0,(wR (Int.tdiv y1 2)),y2,(wR (y3+1))))else none else none)
 else(some (y0,y1,y2))
theorem QhV:OfL Vk Qhg:=ofL 142 2
def Qj1:rF zG:=fun D L a0=>
 (xO L (a0,4294967295,0)).bind fun z2=>
 some (bits .xor .i64 z2 4294967295)
theorem QtH:OfF zG Qj1:=ofF 142
def YO:rL Xn:=fun D L (y0,y1,y2,y3)=>
 bif (decide (y3<5))then(bif (decide (y1<0))then(some (Sum.inl (0,0,false)))
 else(bif (decide ((wR ((y0.length:Int) - y3))<=y1))then(some (Sum.inl (0,0,false)))
 else(bif inb (wR (y1+y3)) y0.length then
 bif decide ((128:Int)≠0)then
 bif decide ((0:Int)<=(wR (7*y3)))then
 bif (decide ((wR (rd1 (0:Int) y0 (wR (y1+y3))))<128))then(bif (decide (0<y3))then(bif (decide ((wR (rd1 (0:Int) y0 (wR (y1+y3))))=0))then(some (Sum.inl (0,0,false)))
 else(bif (decide (2147483647<(bits .or .i64 y2 (zz .i64 (Int.tmod (wR (rd1 (0:Int) y0 (wR (y1+y3)))) 128) (wR (7*y3))))))then(some (Sum.inl (0,0,false)))
 else(some (Sum.inl ((bits .or .i64 y2 (zz .i64 (Int.tmod (wR (rd1 (0:Int) y0 (wR (y1+y3)))) 128) (wR (7*y3)))),(wR ((wR (y1+y3))+1)),true)))))
 else(bif (decide (2147483647<(bits .or .i64 y2 (zz .i64 (Int.tmod (wR (rd1 (0:Int) y0 (wR (y1+y3)))) 128) (wR (7*y3))))))then(some (Sum.inl (0,0,false)))
 else(some (Sum.inl ((bits .or .i64 y2 (zz .i64 (Int.tmod (wR (rd1 (0:Int) y0 (wR (y1+y3)))) 128) (wR (7*y3)))),(wR ((wR (y1+y3))+1)),true)))))
 else(Xn L (y0,y1,(bits .or .i64 y2 (zz .i64 (Int.tmod (wR (rd1 (0:Int) y0 (wR (y1+y3)))) 128) (wR (7*y3)))),(wR (y3+1))))else none else none else none)))
 else(some (Sum.inr ()))
theorem Yv:OfL Xn YO:=ofL 143 0
def Qgp:rF xR:=fun D L (a0,a1)=>
 (Xn L (a0,a1,0,0)).bind fun z1=>
 Qo z1 (fun u2=>
 some u2)
 (fun z3=>
 some (0,0,false))
theorem QoX:OfF xR Qgp:=ofF 143
end
end Go.Proofs.YtameehmkoglkeaaGreatDoor.M
