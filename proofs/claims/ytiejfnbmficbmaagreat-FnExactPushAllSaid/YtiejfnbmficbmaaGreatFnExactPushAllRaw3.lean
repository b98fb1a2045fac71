/- Plain forms of the functions that FnExactPushAll reaches, part 3. No conditions. -/
import Derived.Test.YtiejfnbmficbmaaGreatFnExactPushAllTab
set_option linter.all false
namespace Go.Proofs.YtiejfnbmficbmaaGreat.M
open Go Go.Eng Go.Proofs
set_option linter.unusedVariables false
noncomputable section
def yk:rL Yf:=fun D L (y0,y1,y2)=>
 bif (decide (y2<(y0.length:Int)))then(bif inb y2 y0.length then
 let e1:=(rd1 Y9 y0 y2);
 bif (!decide (e1.1=y1))then(some (Sum.inl (-1)))
 else(bif inb y2 y0.length then
 let e2:=(rd1 Y9 y0 y2);
 bif (!decide (e2.2.1=(wR (y1+1))))then(some (Sum.inl (-1)))
 else(bif inb y2 y0.length then
 let e3:=(rd1 Y9 y0 y2);
 bif (!decide (e3.2.2=(wR ((wR (y1+1))+1))))then(some (Sum.inl (-1)))
 else(Yf L (y0,(wR ((wR ((wR (y1+1))+1))+1)),(wR (y2+1))))else none)else none)else none)
 else(some (Sum.inr y1))
theorem vx:OfL Yf yk:=ofL 120 0
def Qes:rF zC:=fun D L (a0,a1)=>
 (Yf L (a0,a1,0)).bind fun z4=>
 Qq z4 (fun u5=>
 some u5)
 (fun z6=>
 some z6)
theorem QnN:OfF zC Qes:=ofF 120
def yj:rL Z5:=fun D L (y0,y1,y2)=>
 bif (decide (y2<(y0.length:Int)))then(bif inb y2 y0.length then
 bif (!decide ((rd1 (0:Int) y0 y2)=(IntKind.wrap .u8 y1)))then(some (Sum.inl (-1)))
 else(Z5 L (y0,(wR (y1+1)),(wR (y2+1))))else none)
 else(some (Sum.inr y1))
theorem Qai:OfL Z5 yj:=ofL 121 0
def Qey:rF zU:=fun D L (a0,a1)=>
 (Z5 L (a0,a1,0)).bind fun z1=>
 Qq z1 (fun u2=>
 some u2)
 (fun z3=>
 some z3)
theorem QnS:OfF zU Qey:=ofF 121
def Qid:rF vj:=fun D L (a0,a1,a2,a3,a4,a5,a6,a7,a8,a9,a10,a11,a12,a13,a14,a15,a16,a17,a18,a19)=>
 (QH D (a19,0,(wR (a1 - 1)))).bind fun r1=>
 bif r1 then(some (!decide (a19=a0)))
 else(some false)
theorem Qqe:OfF vj Qid:=ofF 122
def Qiy:rF Qdn:=fun D L (a0,a1,a2,a3,a4,a5,a6,a7,a8,a9,a10,a11,a12,a13,a14,a15,a16,a17,a18,a19,a20,a21)=>
 (xi D (a6,a7,a8)).bind fun r1=>
 bif fits (List.length ([]:List Int)+a9.length) 8 then
 (Qak D (a2,a3)).bind fun r2=>
 some (a19,a0,a20,a21,r1,[],0,(([]:List Int)++a9),[],[],[],r2)else none
theorem QsZ:OfF Qdn Qiy:=ofF 123
def QgR:rF Qbz:=fun D L (a0,a1,a2,a3,a4,a5,a6,a7,a8,a9,a10,a11,a12,a13,a14,a15,a16,a17,a18,a19)=>
 (qL D (a6,a7,a8,a19)).bind fun r1=>
 bif r1.2.2 then(some (r1.1,r1.2.1,true))
 else((KE D (a2,a3)).bind fun r2=>
 some (r2.1,r2.2,false))
theorem QpX:OfF Qbz QgR:=ofF 124
def QbA:rL YZ:=fun D L (y0,y1,y2,y3,y4,y5,y6,y7,y8,y9,y10,y11,y12,y13,y14)=>
 bif (decide (y0<(y14.length:Int)))then(bif inb y0 y14.length then
 (Xf D (rd1 (0:Int) y14 y0)).bind fun r1=>
 bif fits (y13.length+r1.length) 1 then
 YZ L ((wR (y0+1)),y1,y2,y3,y4,y5,y6,y7,y8,y9,y10,y11,y12,(y13++r1),y14)else none else none)
 else(some (y1,y2,y3,y4,y5,y6,y7,y8,y9,y10,y11,y12,y13))
theorem QeS:OfL YZ QbA:=ofL 125 0
def vg:rL Y4:=fun D L (y0,y1,y2,y3,y4,y5,y6,y7,y8,y9,y10,y11,y12,y13)=>
 bif (decide (y0<(y12.length:Int)))then(bif inb y0 y12.length then
 let e10:=(rd1 Xy y12 y0);
 (Xf D e10.1).bind fun r11=>
 bif fits (y13.length+r11.length) 1 then
 bif inb y0 y12.length then
 let e12:=(rd1 Xy y12 y0);
 (Xf D e12.2).bind fun r13=>
 bif fits (List.length (y13++r11)+r13.length) 1 then
 Y4 L ((wR (y0+1)),y1,y2,y3,y4,y5,y6,y7,y8,y9,y10,y11,y12,((y13++r11)++r13))else none else none else none else none)
 else(some y13)
theorem Qeu:OfL Y4 vg:=ofL 125 2
def QhR:rF QaZ:=fun D L (a0,a1,a2,a3,a4,a5,a6,a7,a8,a9,a10,a11)=>
 (YZ L (0,a0,a1,a2,a3,a4,a5,a6,a7,a8,a9,a10,a11,[82,75],[a0,a1,a2,a3,a4])).bind fun z2=>
 (JX D z2.2.2.2.2.2.1).bind fun r3=>
 bif fits (z2.2.2.2.2.2.2.2.2.2.2.2.2.length+r3.length) 1 then
 (Xf D z2.2.2.2.2.2.2.1).bind fun r4=>
 bif fits (List.length (z2.2.2.2.2.2.2.2.2.2.2.2.2++r3)+r4.length) 1 then
 (JX D z2.2.2.2.2.2.2.2.1).bind fun r5=>
 bif fits (List.length ((z2.2.2.2.2.2.2.2.2.2.2.2.2++r3)++r4)+r5.length) 1 then
 (JX D z2.2.2.2.2.2.2.2.2.1).bind fun r6=>
 bif fits (List.length (((z2.2.2.2.2.2.2.2.2.2.2.2.2++r3)++r4)++r5)+r6.length) 1 then
 (zg D (z2.2.2.2.2.2.2.2.2.2.1,z2.2.2.2.2.2.2.2.2.2.2.1)).bind fun r7=>
 (Xf D (r7.length:Int)).bind fun r8=>
 bif fits (List.length ((((z2.2.2.2.2.2.2.2.2.2.2.2.2++r3)++r4)++r5)++r6)+r8.length) 1 then
 bif fits (List.length (((((z2.2.2.2.2.2.2.2.2.2.2.2.2++r3)++r4)++r5)++r6)++r8)+r7.length) 1 then
 (Xf D (z2.2.2.2.2.2.2.2.2.2.2.2.1.length:Int)).bind fun r9=>
 bif fits (List.length ((((((z2.2.2.2.2.2.2.2.2.2.2.2.2++r3)++r4)++r5)++r6)++r8)++r7)+r9.length) 1 then
 (Y4 L (0,z2.1,z2.2.1,z2.2.2.1,z2.2.2.2.1,z2.2.2.2.2.1,z2.2.2.2.2.2.1,z2.2.2.2.2.2.2.1,z2.2.2.2.2.2.2.2.1,z2.2.2.2.2.2.2.2.2.1,z2.2.2.2.2.2.2.2.2.2.1,z2.2.2.2.2.2.2.2.2.2.2.1,z2.2.2.2.2.2.2.2.2.2.2.2.1,(((((((z2.2.2.2.2.2.2.2.2.2.2.2.2++r3)++r4)++r5)++r6)++r8)++r7)++r9))).bind fun z14=>
 some z14 else none else none else none else none else none else none else none
theorem Qpq:OfF QaZ QhR:=ofF 125
def Qjs:rF xe:=fun D L (a0,a1,a2,a3,a4,a5,a6,a7,a8,a9,a10,a11,a12,a13,a14,a15,a16,a17,a18,a19)=>
 (QA D (a19,0,(wR (a1 - 1)))).bind fun r1=>
 bif r1 then(some (!decide (a19=a0)))
 else(some false)
theorem Qsv:OfF xe Qjs:=ofF 126
def QhY:rF QaP:=fun D L (a0,a1,a2,a3,a4,a5,a6,a7,a8,a9,a10,a11,a12,a13,a14,a15,a16,a17,a18,a19,a20,a21)=>
 (JJ D (a6,a7,a8)).bind fun r1=>
 (Yg D a9).bind fun r2=>
 (QaU D (a2,a3)).bind fun r3=>
 some (a19,a0,a20,a21,r1,[],0,r2,[],[],[],r3)
theorem QpR:OfF QaP QhY:=ofF 127
def Ql5:rF QiH:=fun D L (a0,a1,a2,a3,a4,a5,a6,a7,a8,a9,a10,a11,a12,a13,a14,a15,a16,a17,a18,a19)=>
 (Kz D (a0,a1,a2,a3,a4,a5,a6,a7,a8,a9,a10,a11,a12,a13,a14,a15,a16,a17,a18)).bind fun r1=>
 bif (!r1)then(some ([],[],false))
 else((qS D (a6,a7,a8,a19)).bind fun r2=>
 bif (!r2.2.2)then((ZF D (a2,a3)).bind fun r3=>
 some (r3.1,r3.2,false))
 else(some (r2.1,r2.2.1,true)))
theorem QvD:OfF QiH Ql5:=ofF 128
def Qe7:rL qQ:=fun D L (y0,y1,y2)=>
 bif (decide (y2<(y0.length:Int)))then(bif inb y2 y0.length then
 bif (decide ((rd1 (0:Int) y0 y2)=y1))then(some (Sum.inl true))
 else(qQ L (y0,y1,(wR (y2+1))))else none)
 else(some (Sum.inr ()))
theorem Qgx:OfL qQ Qe7:=ofL 132 0
def Qkw:rF QaG:=fun D L (a0,a1)=>
 (qQ L (a0,a1,0)).bind fun z1=>
 Qq z1 (fun u2=>
 some u2)
 (fun z3=>
 some false)
theorem Qul:OfF QaG Qkw:=ofF 132
def qZ:rF Zo:=fun D L (a0,a1)=>
 (Vj D (a0,a1)).bind fun r1=>
 some (decide (0<=r1))
theorem Qge:OfF Zo qZ:=ofF 133
def QhQ:rF JU:=fun D L (a0,a1,a2)=>
 (Qaf D (a0,a2)).bind fun r1=>
 bif (decide (r1<0))then(some (-1))
 else((yY D (a1,r1)).bind fun r2=>
 bif (decide (r2<0))then(some (-1))
 else(some r2))
theorem QpA:OfF JU QhQ:=ofF 135
def QjA:rF QcK:=fun D L (a0,a1,a2)=>
 (JF D (a0,a2)).bind fun r1=>
 bif (decide (r1<0))then(some (-1))
 else(some r1)
theorem QrP:OfF QcK QjA:=ofF 136
def Qk5:rF Qf2:=fun D L (a0,a1,a2,a3)=>
 (yP D (a2,a3)).bind fun r1=>
 bif (decide (r1<0))then(some (-1))
 else(some r1)
theorem Qud:OfF Qf2 Qk5:=ofF 137
def Qjw:rF JF:=fun D L (a0,a1)=>
 bif (decide ((wR (a1 - (a0.length:Int)))<0))then(some (-1))
 else(some (wR (a1 - (a0.length:Int))))
theorem QsE:OfF JF Qjw:=ofF 138
def xI:rL Jf:=fun D L (y0,y1,y2)=>
 bif (decide (y2<(y0.length:Int)))then(bif inb y2 y0.length then
 (JF D ((rd1 ([]:List Int) y0 y2),y1)).bind fun r1=>
 bif (decide (r1<0))then(some (Sum.inl (-1)))
 else(Jf L (y0,r1,(wR (y2+1))))else none)
 else(some (Sum.inr y1))
theorem xX:OfL Jf xI:=ofL 139 0
def Qhl:rF Qaq:=fun D L (a0,a1)=>
 bif (decide ((wR (a1 - (a0.length:Int)))<0))then(some (-1))
 else((Jf L (a0,(wR (a1 - (a0.length:Int))),0)).bind fun z2=>
 Qq z2 (fun u3=>
 some u3)
 (fun z4=>
 some z4))
theorem Qqw:OfF Qaq Qhl:=ofF 139
def Qh6:rF Qap:=fun D L (a0,a1)=>
 bif (decide ((wR (a1 - (a0.length:Int)))<0))then(some (-1))
 else(some (wR (a1 - (a0.length:Int))))
theorem QrA:OfF Qap Qh6:=ofF 140
def QgW:rF Qa0:=fun D L (a0,a1)=>
 bif (decide ((wR (a1 - (a0.length:Int)))<0))then(some (-1))
 else(some (wR (a1 - (a0.length:Int))))
theorem Qqm:OfF Qa0 QgW:=ofF 141
def QgI:rF QbN:=fun D L (a0,a1)=>
 bif (decide ((wR (a1 - (a0.length:Int)))<0))then(some (-1))
 else(some (wR (a1 - (a0.length:Int))))
theorem Qrq:OfF QbN QgI:=ofF 142
def Qhe:rF vd:=fun D L (a0,a1,a2,a3)=>
 (Qc4 D (a0,a2)).bind fun r1=>
 bif r1 then(some (decide (a1=a3)))
 else(some false)
theorem Qq0:OfF vd Qhe:=ofF 143
def QcD:rL KP:=fun D L (y0,y1,y2,y3,y4)=>
 bif (decide (y0<4))then((vO D (y1,y2,y0)).bind fun r2=>
 bif fits (y3.length+ [r2].length) 8 then
 KP L ((wR (y0+1)),y1,y2,(y3++[r2]),y4)else none)
 else(some (y3,y4))
theorem QfK:OfL KP QcD:=ofL 144 0
def QjF:rF Qc7:=fun D L (a0,a1)=>
 (Zs D (a0,a1)).bind fun r1=>
 bif (!r1)then(some ([],0))
 else((KP L (0,a0,a1,[],0)).bind fun z3=>
 (Qc2 D z3.1).bind fun r4=>
 some (z3.1,r4))
theorem QrY:OfF Qc7 QjF:=ofF 144
def Qfb:rL qN:=fun D L (y0,y1,y2,y3)=>
 bif (decide (y0<(y3.length:Int)))then(bif inb y0 y3.length then
 let e3:=(rd1 Yk y3 y0);
 (Zs D e3).bind fun r4=>
 bif (!r4)then(some (Sum.inl false))
 else(qN L ((wR (y0+1)),y1,y2,y3))else none)
 else(some (Sum.inr ()))
theorem Qhy:OfL qN Qfb:=ofL 145 0
def Qkn:rF qE:=fun D L (a0,a1,a2)=>
 (QH D (a0,1,8)).bind fun r1=>
 bif (!r1)then(some false)
 else(bif (decide (a0<(a2.length:Int)))then(some false)
 else((QH D (a1,0,100000)).bind fun r2=>
 bif (!r2)then(some false)
 else(bif (decide (100000<(wR (a1+(a2.length:Int)))))then(some false)
 else((qN L (0,a0,a1,a2)).bind fun z5=>
 Qq z5 (fun u6=>
 some u6)
 (fun z7=>
 some true)))))
theorem Qt6:OfF qE Qkn:=ofF 145
def Qfc:rL qJ:=fun D L (y0,y1,y2)=>
 bif (decide (y2<y1))then(bif inb y2 y0.length then
 (QH D ((rd1 (0:Int) y0 y2),0,100000)).bind fun r2=>
 bif (!r2)then(some (Sum.inl false))
 else(qJ L (y0,y1,(wR (y2+1))))else none)
 else(some (Sum.inr ()))
theorem QhP:OfL qJ Qfc:=ofL 146 0
def Qcq:rF QbE:=fun D L (a0,a1)=>
 (QH D (a1,1,5)).bind fun r1=>
 bif (!r1)then(some false)
 else(bif (!decide ((a0.length:Int)=a1))then(some false)
 else((qJ L (a0,a1,0)).bind fun z3=>
 Qq z3 (fun u4=>
 some u4)
 (fun z5=>
 some true)))
theorem Qt7:OfF QbE Qcq:=ofF 146
def QiB:rF xi:=fun D L (a0,a1,a2)=>
 (qE D (a0,a1,a2)).bind fun r1=>
 bif (!r1)then(some 0)
 else(some (wR (a1+(a2.length:Int))))
theorem QsF:OfF xi QiB:=ofF 147
def Qac:rL VR:=fun D L (y0,y1,y2)=>
 bif (decide (y2<y1))then(bif inb y2 y0.length then
 bif (!decide (((List.length (rd1 ([]:List Int) y0 y2)):Int)=5))then(some (Sum.inl false))
 else((YR L (y0,y1,y2,0)).bind fun z3=>
 Qq z3 (fun u4=>
 some (Sum.inl u4))
 (fun z5=>
 VR L (z5.1,z5.2.1,(wR (z5.2.2+1)))))else none)
 else(some (Sum.inr ()))
theorem QeV:OfL VR Qac:=ofL 148 0
def QaJ:rL YR:=fun D L (y0,y1,y2,y3)=>
 bif inb y2 y0.length then
 bif (decide (y3<((List.length (rd1 ([]:List Int) y0 y2)):Int)))then(bif inb y2 y0.length then
 bif inb y3 (List.length (rd1 ([]:List Int) y0 y2))then
 (QH D ((rd1 (0:Int) (rd1 ([]:List Int) y0 y2) y3),0,1000)).bind fun r2=>
 bif (!r2)then(some (Sum.inl false))
 else(YR L (y0,y1,y2,(wR (y3+1))))else none else none)
 else(some (Sum.inr (y0,y1,y2)))else none
theorem QdF:OfL YR QaJ:=ofL 148 2
def jf:rF QbI:=fun D L (a0,a1)=>
 (QH D (a1,1,5)).bind fun r1=>
 bif (!r1)then(some false)
 else(bif (!decide ((a0.length:Int)=a1))then(some false)
 else((VR L (a0,a1,0)).bind fun z6=>
 Qq z6 (fun u7=>
 some u7)
 (fun z8=>
 some true)))
theorem Qq2:OfF QbI jf:=ofF 148
def Qba:rL Jk:=fun D L (y0,y1,y2,y3,y4,y5,y6,y7,y8,y9,y10,y11,y12,y13,y14,y15,y16,y17,y18,y19)=>
 bif (decide (y0<(y15.length:Int)))then(bif inb y0 y15.length then
 let e1:=(rd1 Kr y15 y0);
 (QH D (e1.1,0,(wR (y2 - 1)))).bind fun r2=>
 bif (!r2)then(some (Sum.inl false))
 else(bif (decide (e1.1=y1))then(some (Sum.inl false))
 else((QH D (e1.2.1,0,100000)).bind fun r3=>
 bif (!r3)then(some (Sum.inl false))
 else((QH D (e1.2.2.2,0,y16)).bind fun r4=>
 bif (!r4)then(some (Sum.inl false))
 else((ZX L (y0,0,e1.1,y1,(decide (e1.1=y1)),e1.2.1,r3,(!r3),e1.2.2.2,y16,r4,(!r4),y1,y2,y3,y4,y5,y6,y7,y8,y9,y10,y11,y12,y13,y14,y15,y16,y17,y18,y19,e1)).bind fun z7=>
 Qq z7 (fun u8=>
 some (Sum.inl u8))
 (fun z9=>
 Jk L ((wR (z9.1+1)),z9.2.2.2.2.2.2.2.2.2.2.2.1,z9.2.2.2.2.2.2.2.2.2.2.2.2.1,z9.2.2.2.2.2.2.2.2.2.2.2.2.2.1,z9.2.2.2.2.2.2.2.2.2.2.2.2.2.2.1,z9.2.2.2.2.2.2.2.2.2.2.2.2.2.2.2.1,z9.2.2.2.2.2.2.2.2.2.2.2.2.2.2.2.2.1,z9.2.2.2.2.2.2.2.2.2.2.2.2.2.2.2.2.2.1,z9.2.2.2.2.2.2.2.2.2.2.2.2.2.2.2.2.2.2.1,z9.2.2.2.2.2.2.2.2.2.2.2.2.2.2.2.2.2.2.2.1,z9.2.2.2.2.2.2.2.2.2.2.2.2.2.2.2.2.2.2.2.2.1,z9.2.2.2.2.2.2.2.2.2.2.2.2.2.2.2.2.2.2.2.2.2.1,z9.2.2.2.2.2.2.2.2.2.2.2.2.2.2.2.2.2.2.2.2.2.2.1,z9.2.2.2.2.2.2.2.2.2.2.2.2.2.2.2.2.2.2.2.2.2.2.2.1,z9.2.2.2.2.2.2.2.2.2.2.2.2.2.2.2.2.2.2.2.2.2.2.2.2.1,z9.2.2.2.2.2.2.2.2.2.2.2.2.2.2.2.2.2.2.2.2.2.2.2.2.2.1,z9.2.2.2.2.2.2.2.2.2.2.2.2.2.2.2.2.2.2.2.2.2.2.2.2.2.2.1,z9.2.2.2.2.2.2.2.2.2.2.2.2.2.2.2.2.2.2.2.2.2.2.2.2.2.2.2.1,z9.2.2.2.2.2.2.2.2.2.2.2.2.2.2.2.2.2.2.2.2.2.2.2.2.2.2.2.2.1,z9.2.2.2.2.2.2.2.2.2.2.2.2.2.2.2.2.2.2.2.2.2.2.2.2.2.2.2.2.2.1))))))else none)
 else(some (Sum.inr ()))
theorem Qej:OfL Jk Qba:=ofL 149 0
def Qbn:rL ZX:=fun D L (y0,y1,y2,y3,y4,y5,y6,y7,y8,y9,y10,y11,y12,y13,y14,y15,y16,y17,y18,y19,y20,y21,y22,y23,y24,y25,y26,y27,y28,y29,y30,y31,y32,y33,y34)=>
 bif (decide (y1<y0))then(bif inb y1 y26.length then
 let e5:=(rd1 Kr y26 y1);
 bif (decide (e5.1=y31))then(bif inb y1 y26.length then
 let e6:=(rd1 Kr y26 y1);
 bif (e6.2.2.1==y33)then(some (Sum.inl false))
 else(ZX L (y0,(wR (y1+1)),y2,y3,y4,y5,y6,y7,y8,y9,y10,y11,y12,y13,y14,y15,y16,y17,y18,y19,y20,y21,y22,y23,y24,y25,y26,y27,y28,y29,y30,y31,y32,y33,y34))else none)
 else(ZX L (y0,(wR (y1+1)),y2,y3,y4,y5,y6,y7,y8,y9,y10,y11,y12,y13,y14,y15,y16,y17,y18,y19,y20,y21,y22,y23,y24,y25,y26,y27,y28,y29,y30,y31,y32,y33,y34))else none)
 else(some (Sum.inr (y0,y2,y3,y4,y5,y6,y7,y8,y9,y10,y11,y12,y13,y14,y15,y16,y17,y18,y19,y20,y21,y22,y23,y24,y25,y26,y27,y28,y29,y30,y31,y32,y33,y34)))
theorem QdT:OfL ZX Qbn:=ofL 149 2
def QgB:rF Qax:=fun D L (a0,a1,a2,a3,a4,a5,a6,a7,a8,a9,a10,a11,a12,a13,a14,a15,a16,a17,a18)=>
 bif (decide (a13<(a14.length:Int)))then(some false)
 else((Jk L (0,a0,a1,a2,a3,a4,a5,a6,a7,a8,a9,a10,a11,a12,a13,a14,a15,a16,a17,a18)).bind fun z10=>
 Qq z10 (fun u11=>
 some u11)
 (fun z12=>
 some true))
theorem QqX:OfF Qax QgB:=ofF 149
def QjH:rF Yw:=fun D L a0=>
 (QH D (a0,0,4)).bind fun r1=>
 some r1
theorem QsT:OfF Yw QjH:=ofF 150
def Qic:rF qb:=fun D L (a0,a1,a2,a3,a4)=>
 (QH D (a0,1,1000)).bind fun r1=>
 bif r1 then((QH D (a1,0,1)).bind fun r2=>
 bif r2 then((QH D (a2,0,100000)).bind fun r3=>
 bif r3 then((QH D (a3,0,1000)).bind fun r4=>
 bif r4 then(some (decide (((ByteArray.size a4):Int)<=8)))
 else(some false))
 else(some false))
 else(some false))
 else(some false)
theorem QqO:OfF qb Qic:=ofF 151
def vt:rL VN:=fun D L (y0,y1,y2,y3)=>
 bif (decide (y1<(y3.length:Int)))then(bif inb y1 y3.length then
 let e1:=(rd1 Xy y3 y1);
 bif (decide (e1.1=y0))then(bif inb y1 y3.length then
 let e2:=(rd1 Xy y3 y1);
 some (Sum.inl e2.2)else none)
 else(VN L (y0,(wR (y1+1)),y2,y3))else none)
 else(some (Sum.inr ()))
theorem QeB:OfL VN vt:=ofL 152 0
def Qhz:rF YF:=fun D L (a0,a1,a2)=>
 (VN L (a2,0,a0,a1)).bind fun z3=>
 Qq z3 (fun u4=>
 some u4)
 (fun z5=>
 some 0)
theorem QrF:OfF YF Qhz:=ofF 152
def QjY:rL yJ:=fun D L (y0,y1,y2)=>
 bif (decide (y2<(y0.length:Int)))then(bif inb y2 y0.length then
 (JE L (y0,(bits .xor .i64 y1 (wR (rd1 (0:Int) y0 y2))),y2,0)).bind fun z1=>
 yJ L (z1.1,z1.2.1,(wR (z1.2.2+1)))else none)
 else(some y1)
theorem Qkd:OfL yJ QjY:=ofL 153 0
def QjU:rL JE:=fun D L (y0,y1,y2,y3)=>
 bif (decide (y3<8))then(bif decide ((2:Int)≠0)then
 bif decide ((2:Int)≠0)then
 bif (decide ((Int.tmod y1 2)=1))then(JE L (y0,(bits .xor .i64 (wR (Int.tdiv y1 2)) 3988292384),y2,(wR (y3+1))))
 else(JE L (y0,(wR (Int.tdiv y1 2)),y2,(wR (y3+1))))else none else none)
 else(some (y0,y1,y2))
theorem Qki:OfL JE QjU:=ofL 153 2
def Qmr:rF jl:=fun D L a0=>
 (yJ L (a0,4294967295,0)).bind fun z2=>
 some (bits .xor .i64 z2 4294967295)
theorem QxI:OfF jl Qmr:=ofF 153
def QaK:rL YN:=fun D L (y0,y1,y2,y3)=>
 bif (decide (y0<(y1.length:Int)))then(bif inb y0 y1.length then
 let e2:=(rd1 XU y1 y0);
 bif inb y0 y1.length then
 let e3:=(rd1 XU y1 y0);
 (Y6 L (y0,0,y1,y2,y3,e2.2.1,e2.2.2.1,e2.2.2.2.1,e2.2.2.2.2.1,e2.2.2.2.2.2,[e3.1,e2.2.1,e2.2.2.1,e2.2.2.2.1,e2.2.2.2.2.1])).bind fun z5=>
 (Qbm D z5.2.2.2.2.2.2.2.2).bind fun r6=>
 bif fits (z5.2.2.2.1.length+r6.length) 1 then
 YN L ((wR (z5.1+1)),z5.2.1,z5.2.2.1,(z5.2.2.2.1++r6))else none else none else none)
 else(some (y1,y2,y3))
theorem Qer:OfL YN QaK:=ofL 156 0
def QaE:rL Y6:=fun D L (y0,y1,y2,y3,y4,y5,y6,y7,y8,y9,y10)=>
 bif (decide (y1<(y10.length:Int)))then(bif inb y1 y10.length then
 (Xf D (rd1 (0:Int) y10 y1)).bind fun r4=>
 bif fits (y4.length+r4.length) 1 then
 Y6 L (y0,(wR (y1+1)),y2,y3,(y4++r4),y5,y6,y7,y8,y9,y10)else none else none)
 else(some (y0,y2,y3,y4,y5,y6,y7,y8,y9))
theorem QeC:OfL Y6 QaE:=ofL 156 2
def Qbq:rL Y7:=fun D L (y0,y1,y2,y3)=>
 bif (decide (y0<(y2.length:Int)))then(bif inb y0 y2.length then
 let e9:=(rd1 Xy y2 y0);
 (Xf D e9.1).bind fun r10=>
 bif fits (y3.length+r10.length) 1 then
 bif inb y0 y2.length then
 let e11:=(rd1 Xy y2 y0);
 (Xf D e11.2).bind fun r12=>
 bif fits (List.length (y3++r10)+r12.length) 1 then
 Y7 L ((wR (y0+1)),y1,y2,((y3++r10)++r12))else none else none else none else none)
 else(some y3)
theorem Qds:OfL Y7 Qbq:=ofL 156 4
def Qhg:rF zg:=fun D L (a0,a1)=>
 (Xf D (a0.length:Int)).bind fun r1=>
 (YN L (0,a0,a1,r1)).bind fun z7=>
 (Xf D (z7.2.1.length:Int)).bind fun r8=>
 bif fits (z7.2.2.length+r8.length) 1 then
 (Y7 L (0,z7.1,z7.2.1,(z7.2.2++r8))).bind fun z13=>
 some z13 else none
theorem QpF:OfF zg Qhg:=ofF 156
def QhD:rF vi:=fun D L (a0,a1)=>
 bif (decide ((a0.length:Int)=0))then(some (decide (a1=0)))
 else(bif (decide ((a0.length:Int)=4))then((JS D (a0,4,1023)).bind fun r1=>
 bif r1 then((QH D (a1,0,1023)).bind fun r2=>
 some r2)
 else(some false))
 else(some false))
theorem QpB:OfF vi QhD:=ofF 157
def Qbe:rL V1:=fun D L (y0,y1,y2)=>
 bif (decide (y2<(y0.length:Int)))then(bif inb y2 y0.length then
 (QH D ((rd1 (0:Int) y0 y2),0,y1)).bind fun r1=>
 bif (!r1)then(some (Sum.inl false))
 else(V1 L (y0,y1,(wR (y2+1))))else none)
 else(some (Sum.inr ()))
theorem Qel:OfL V1 Qbe:=ofL 158 0
def Qh8:rF JS:=fun D L (a0,a1,a2)=>
 bif (decide (a1<(a0.length:Int)))then(some false)
 else((V1 L (a0,a2,0)).bind fun z2=>
 Qq z2 (fun u3=>
 some u3)
 (fun z4=>
 some true))
theorem Qqv:OfF JS Qh8:=ofF 158
def vM:rL Y2:=fun D L (y0,y1)=>
 bif (decide (y1<(y0.length:Int)))then(bif inb y1 y0.length then
 let e1:=(rd1 Xy y0 y1);
 (Yw D e1.1).bind fun r2=>
 bif (!r2)then(some (Sum.inl false))
 else(bif (decide (0<y1))then(bif inb y1 y0.length then
 let e3:=(rd1 Xy y0 y1);
 bif inb (wR (y1 - 1)) y0.length then
 let e4:=(rd1 Xy y0 (wR (y1 - 1)));
 bif (decide (e3.1<=e4.1))then(some (Sum.inl false))
 else(bif inb y1 y0.length then
 let e5:=(rd1 Xy y0 y1);
 (QH D (e5.2,1,1000)).bind fun r6=>
 bif (!r6)then(some (Sum.inl false))
 else(Y2 L (y0,(wR (y1+1))))else none)else none else none)
 else(bif inb y1 y0.length then
 let e7:=(rd1 Xy y0 y1);
 (QH D (e7.2,1,1000)).bind fun r8=>
 bif (!r8)then(some (Sum.inl false))
 else(Y2 L (y0,(wR (y1+1))))else none))else none)
 else(some (Sum.inr ()))
theorem Qdu:OfL Y2 vM:=ofL 159 0
def Qhb:rF Qad:=fun D L a0=>
 (Y2 L (a0,0)).bind fun z9=>
 Qq z9 (fun u10=>
 some u10)
 (fun z11=>
 some true)
theorem Qq4:OfF Qad Qhb:=ofF 159
end
end Go.Proofs.YtiejfnbmficbmaaGreat.M
