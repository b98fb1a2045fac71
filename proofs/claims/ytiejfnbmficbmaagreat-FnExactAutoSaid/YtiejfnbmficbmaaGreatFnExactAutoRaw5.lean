/- Plain forms of the functions that FnExactAuto reaches, part 5. No conditions. -/
import Derived.Test.YtiejfnbmficbmaaGreatFnExactAutoTab
set_option linter.all false
namespace Go.Proofs.YtiejfnbmficbmaaGreat.M
open Go Go.Eng Go.Proofs
set_option linter.unusedVariables false
noncomputable section
def QjE:rF xB:=fun D L (a0,a1,a2)=>
 (Qcy D (a0,a2)).bind fun r1=>
 bif (decide (r1<0))then(some (-1))
 else((vN D (a1,r1)).bind fun r2=>
 bif (decide (r2<0))then(some (-1))
 else(some r2))
theorem QtP:OfF xB QjE:=ofF 135
def Qld:rF QeM:=fun D L (a0,a1,a2)=>
 (qC D (a0,a2)).bind fun r1=>
 bif (decide (r1<0))then(some (-1))
 else(some r1)
theorem Qwu:OfF QeM Qld:=ofF 136
def Qn3:rF Qil:=fun D L (a0,a1,a2,a3)=>
 (vX D (a2,a3)).bind fun r1=>
 bif (decide (r1<0))then(some (-1))
 else(some r1)
theorem QyA:OfF Qil Qn3:=ofF 137
def QlM:rF qC:=fun D L (a0,a1)=>
 bif (decide ((wR (a1 - (a0.length:Int)))<0))then(some (-1))
 else(some (wR (a1 - (a0.length:Int))))
theorem Qwx:OfF qC QlM:=ofF 138
def zZ:rL JE:=fun D L (y0,y1,y2)=>
 bif (decide (y2<(y0.length:Int)))then(bif inb y2 y0.length then
 (qC D ((rd1 ([]:List Int) y0 y2),y1)).bind fun r1=>
 bif (decide (r1<0))then(some (Sum.inl (-1)))
 else(JE L (y0,r1,(wR (y2+1))))else none)
 else(some (Sum.inr y1))
theorem yH:OfL JE zZ:=ofL 139 0
def QjN:rF QbA:=fun D L (a0,a1)=>
 bif (decide ((wR (a1 - (a0.length:Int)))<0))then(some (-1))
 else((JE L (a0,(wR (a1 - (a0.length:Int))),0)).bind fun z2=>
 Qp z2 (fun u3=>
 some u3)
 (fun z4=>
 some z4))
theorem QtT:OfF QbA QjN:=ofF 139
def Qkz:rF Qc2:=fun D L (a0,a1)=>
 bif (decide ((wR (a1 - (a0.length:Int)))<0))then(some (-1))
 else(some (wR (a1 - (a0.length:Int))))
theorem Qu5:OfF Qc2 Qkz:=ofF 140
def Qj3:rF Qca:=fun D L (a0,a1)=>
 bif (decide ((wR (a1 - (a0.length:Int)))<0))then(some (-1))
 else(some (wR (a1 - (a0.length:Int))))
theorem QuV:OfF Qca Qj3:=ofF 141
def Qko:rF Qdf:=fun D L (a0,a1)=>
 bif (decide ((wR (a1 - (a0.length:Int)))<0))then(some (-1))
 else(some (wR (a1 - (a0.length:Int))))
theorem Qu7:OfF Qdf Qko:=ofF 142
def Qjs:rF QcP:=fun D L (a0,a1,a2,a3)=>
 (QeS D (a0,a2)).bind fun r1=>
 bif r1 then(some (decide (a1=a3)))
 else(some false)
theorem QtE:OfF QcP Qjs:=ofF 143
def Qej:rL Vz:=fun D L (y0,y1,y2,y3,y4)=>
 bif (decide (y0<4))then((Qc6 D (y1,y2,y0)).bind fun r2=>
 bif fits (y3.length+ [r2].length) 8 then
 Vz L ((wR (y0+1)),y1,y2,(y3++[r2]),y4)else none)
 else(some (y3,y4))
theorem QhJ:OfL Vz Qej:=ofL 144 0
def QmL:rF zJ:=fun D L (a0,a1)=>
 (XA D (a0,a1)).bind fun r1=>
 bif (!r1)then(some ([],0))
 else((Vz L (0,a0,a1,[],0)).bind fun z3=>
 (Qfa D z3.1).bind fun r4=>
 some (z3.1,r4))
theorem Qwo:OfF zJ QmL:=ofF 144
def Qha:rL zp:=fun D L (y0,y1,y2,y3)=>
 bif (decide (y0<(y3.length:Int)))then(bif inb y0 y3.length then
 let e3:=(rd1 Y9 y3 y0);
 (XA D e3).bind fun r4=>
 bif (!r4)then(some (Sum.inl false))
 else(zp L ((wR (y0+1)),y1,y2,y3))else none)
 else(some (Sum.inr ()))
theorem Qku:OfL zp Qha:=ofL 145 0
def Qne:rF Vr:=fun D L (a0,a1,a2)=>
 (QF D (a0,1,8)).bind fun r1=>
 bif (!r1)then(some false)
 else(bif (decide (a0<(a2.length:Int)))then(some false)
 else((QF D (a1,0,100000)).bind fun r2=>
 bif (!r2)then(some false)
 else(bif (decide (100000<(wR (a1+(a2.length:Int)))))then(some false)
 else((zp L (0,a0,a1,a2)).bind fun z5=>
 Qp z5 (fun u6=>
 some u6)
 (fun z7=>
 some true)))))
theorem Qyz:OfF Vr Qne:=ofF 145
def QgY:rL zu:=fun D L (y0,y1,y2)=>
 bif (decide (y2<y1))then(bif inb y2 y0.length then
 (QF D ((rd1 (0:Int) y0 y2),0,100000)).bind fun r2=>
 bif (!r2)then(some (Sum.inl false))
 else(zu L (y0,y1,(wR (y2+1))))else none)
 else(some (Sum.inr ()))
theorem Qj2:OfL zu QgY:=ofL 146 0
def QdS:rF Qb7:=fun D L (a0,a1)=>
 (QF D (a1,1,5)).bind fun r1=>
 bif (!r1)then(some false)
 else(bif (!decide ((a0.length:Int)=a1))then(some false)
 else((zu L (a0,a1,0)).bind fun z3=>
 Qp z3 (fun u4=>
 some u4)
 (fun z5=>
 some true)))
theorem Qys:OfF Qb7 QdS:=ofF 146
def Ql4:rF qx:=fun D L (a0,a1,a2)=>
 (Vr D (a0,a1,a2)).bind fun r1=>
 bif (!r1)then(some 0)
 else(some (wR (a1+(a2.length:Int))))
theorem QvU:OfF qx Ql4:=ofF 147
def Qcc:rL JG:=fun D L (y0,y1,y2)=>
 bif (decide (y2<y1))then(bif inb y2 y0.length then
 bif (!decide (((List.length (rd1 ([]:List Int) y0 y2)):Int)=5))then(some (Sum.inl false))
 else((K4 L (y0,y1,y2,0)).bind fun z3=>
 Qp z3 (fun u4=>
 some (Sum.inl u4))
 (fun z5=>
 JG L (z5.1,z5.2.1,(wR (z5.2.2+1)))))else none)
 else(some (Sum.inr ()))
theorem QfC:OfL JG Qcc:=ofL 148 0
def Qcr:rL K4:=fun D L (y0,y1,y2,y3)=>
 bif inb y2 y0.length then
 bif (decide (y3<((List.length (rd1 ([]:List Int) y0 y2)):Int)))then(bif inb y2 y0.length then
 bif inb y3 (List.length (rd1 ([]:List Int) y0 y2))then
 (QF D ((rd1 (0:Int) (rd1 ([]:List Int) y0 y2) y3),0,1000)).bind fun r2=>
 bif (!r2)then(some (Sum.inl false))
 else(K4 L (y0,y1,y2,(wR (y3+1))))else none else none)
 else(some (Sum.inr (y0,y1,y2)))else none
theorem Qgz:OfL K4 Qcr:=ofL 148 2
def Qae:rF QbV:=fun D L (a0,a1)=>
 (QF D (a1,1,5)).bind fun r1=>
 bif (!r1)then(some false)
 else(bif (!decide ((a0.length:Int)=a1))then(some false)
 else((JG L (a0,a1,0)).bind fun z6=>
 Qp z6 (fun u7=>
 some u7)
 (fun z8=>
 some true)))
theorem QtI:OfF QbV Qae:=ofF 148
def QbJ:rL JX:=fun D L (y0,y1,y2,y3,y4,y5,y6,y7,y8,y9,y10,y11,y12,y13,y14,y15,y16,y17,y18,y19)=>
 bif (decide (y0<(y15.length:Int)))then(bif inb y0 y15.length then
 let e1:=(rd1 X9 y15 y0);
 (QF D (e1.1,0,(wR (y2 - 1)))).bind fun r2=>
 bif (!r2)then(some (Sum.inl false))
 else(bif (decide (e1.1=y1))then(some (Sum.inl false))
 else((QF D (e1.2.1,0,100000)).bind fun r3=>
 bif (!r3)then(some (Sum.inl false))
 else((QF D (e1.2.2.2,0,y16)).bind fun r4=>
 bif (!r4)then(some (Sum.inl false))
 else((YD L (y0,0,e1.1,y1,(decide (e1.1=y1)),e1.2.1,r3,(!r3),e1.2.2.2,y16,r4,(!r4),y1,y2,y3,y4,y5,y6,y7,y8,y9,y10,y11,y12,y13,y14,y15,y16,y17,y18,y19,e1)).bind fun z7=>
 Qp z7 (fun u8=>
 some (Sum.inl u8))
 (fun z9=>
 JX L ((wR (z9.1+1)),z9.2.2.2.2.2.2.2.2.2.2.2.1,z9.2.2.2.2.2.2.2.2.2.2.2.2.1,z9.2.2.2.2.2.2.2.2.2.2.2.2.2.1,z9.2.2.2.2.2.2.2.2.2.2.2.2.2.2.1,z9.2.2.2.2.2.2.2.2.2.2.2.2.2.2.2.1,z9.2.2.2.2.2.2.2.2.2.2.2.2.2.2.2.2.1,z9.2.2.2.2.2.2.2.2.2.2.2.2.2.2.2.2.2.1,z9.2.2.2.2.2.2.2.2.2.2.2.2.2.2.2.2.2.2.1,z9.2.2.2.2.2.2.2.2.2.2.2.2.2.2.2.2.2.2.2.1,z9.2.2.2.2.2.2.2.2.2.2.2.2.2.2.2.2.2.2.2.2.1,z9.2.2.2.2.2.2.2.2.2.2.2.2.2.2.2.2.2.2.2.2.2.1,z9.2.2.2.2.2.2.2.2.2.2.2.2.2.2.2.2.2.2.2.2.2.2.1,z9.2.2.2.2.2.2.2.2.2.2.2.2.2.2.2.2.2.2.2.2.2.2.2.1,z9.2.2.2.2.2.2.2.2.2.2.2.2.2.2.2.2.2.2.2.2.2.2.2.2.1,z9.2.2.2.2.2.2.2.2.2.2.2.2.2.2.2.2.2.2.2.2.2.2.2.2.2.1,z9.2.2.2.2.2.2.2.2.2.2.2.2.2.2.2.2.2.2.2.2.2.2.2.2.2.2.1,z9.2.2.2.2.2.2.2.2.2.2.2.2.2.2.2.2.2.2.2.2.2.2.2.2.2.2.2.1,z9.2.2.2.2.2.2.2.2.2.2.2.2.2.2.2.2.2.2.2.2.2.2.2.2.2.2.2.2.1,z9.2.2.2.2.2.2.2.2.2.2.2.2.2.2.2.2.2.2.2.2.2.2.2.2.2.2.2.2.2.1))))))else none)
 else(some (Sum.inr ()))
theorem Qfx:OfL JX QbJ:=ofL 149 0
def Qcp:rL YD:=fun D L (y0,y1,y2,y3,y4,y5,y6,y7,y8,y9,y10,y11,y12,y13,y14,y15,y16,y17,y18,y19,y20,y21,y22,y23,y24,y25,y26,y27,y28,y29,y30,y31,y32,y33,y34)=>
 bif (decide (y1<y0))then(bif inb y1 y26.length then
 let e5:=(rd1 X9 y26 y1);
 bif (decide (e5.1=y31))then(bif inb y1 y26.length then
 let e6:=(rd1 X9 y26 y1);
 bif (e6.2.2.1==y33)then(some (Sum.inl false))
 else(YD L (y0,(wR (y1+1)),y2,y3,y4,y5,y6,y7,y8,y9,y10,y11,y12,y13,y14,y15,y16,y17,y18,y19,y20,y21,y22,y23,y24,y25,y26,y27,y28,y29,y30,y31,y32,y33,y34))else none)
 else(YD L (y0,(wR (y1+1)),y2,y3,y4,y5,y6,y7,y8,y9,y10,y11,y12,y13,y14,y15,y16,y17,y18,y19,y20,y21,y22,y23,y24,y25,y26,y27,y28,y29,y30,y31,y32,y33,y34))else none)
 else(some (Sum.inr (y0,y2,y3,y4,y5,y6,y7,y8,y9,y10,y11,y12,y13,y14,y15,y16,y17,y18,y19,y20,y21,y22,y23,y24,y25,y26,y27,y28,y29,y30,y31,y32,y33,y34)))
theorem QgO:OfL YD Qcp:=ofL 149 2
def QiH:rF QbB:=fun D L (a0,a1,a2,a3,a4,a5,a6,a7,a8,a9,a10,a11,a12,a13,a14,a15,a16,a17,a18)=>
 bif (decide (a13<(a14.length:Int)))then(some false)
 else((JX L (0,a0,a1,a2,a3,a4,a5,a6,a7,a8,a9,a10,a11,a12,a13,a14,a15,a16,a17,a18)).bind fun z10=>
 Qp z10 (fun u11=>
 some u11)
 (fun z12=>
 some true))
theorem Qu2:OfF QbB QiH:=ofF 149
def Qma:rF Yt:=fun D L a0=>
 (QF D (a0,0,4)).bind fun r1=>
 some r1
theorem QwL:OfF Yt Qma:=ofF 150
def QiZ:rF qR:=fun D L (a0,a1,a2,a3,a4)=>
 (QF D (a0,1,1000)).bind fun r1=>
 bif r1 then((QF D (a1,0,1)).bind fun r2=>
 bif r2 then((QF D (a2,0,100000)).bind fun r3=>
 bif r3 then((QF D (a3,0,1000)).bind fun r4=>
 bif r4 then(some (decide (((ByteArray.size a4):Int)<=8)))
 else(some false))
 else(some false))
 else(some false))
 else(some false)
theorem QtM:OfF qR QiZ:=ofF 151
def QaS:rL JU:=fun D L (y0,y1,y2,y3)=>
 bif (decide (y1<(y3.length:Int)))then(bif inb y1 y3.length then
 let e1:=(rd1 XP y3 y1);
 bif (decide (e1.1=y0))then(bif inb y1 y3.length then
 let e2:=(rd1 XP y3 y1);
 some (Sum.inl e2.2)else none)
 else(JU L (y0,(wR (y1+1)),y2,y3))else none)
 else(some (Sum.inr ()))
theorem QgD:OfL JU QaS:=ofL 152 0
def QkK:rF KC:=fun D L (a0,a1,a2)=>
 (JU L (a2,0,a0,a1)).bind fun z3=>
 Qp z3 (fun u4=>
 some u4)
 (fun z5=>
 some 0)
theorem Qvv:OfF KC QkK:=ofF 152
def Qm6:rL vu:=fun D L (y0,y1,y2)=>
 bif (decide (y2<(y0.length:Int)))then(bif inb y2 y0.length then
 (qA L (y0,(bits .xor .i64 y1 (wR (rd1 (0:Int) y0 y2))),y2,0)).bind fun z1=>
 vu L (z1.1,z1.2.1,(wR (z1.2.2+1)))else none)
 else(some y1)
theorem Qoc:OfL vu Qm6:=ofL 153 0
def Qm4:rL qA:=fun D L (y0,y1,y2,y3)=>
 bif (decide (y3<8))then(bif decide ((2:Int)≠0)then
 bif decide ((2:Int)≠0)then
 bif (decide ((Int.tmod y1 2)=1))then(qA L (y0,(bits .xor .i64 (wR (Int.tdiv y1 2)) 3988292384),y2,(wR (y3+1))))
 else(qA L (y0,(wR (Int.tdiv y1 2)),y2,(wR (y3+1))))else none else none)
 else(some (y0,y1,y2))
theorem QnK:OfL qA Qm4:=ofL 153 2
def Qqp:rF Qem:=fun D L a0=>
 (vu L (a0,4294967295,0)).bind fun z2=>
 some (bits .xor .i64 z2 4294967295)
theorem QCi:OfF Qem Qqp:=ofF 153
def Qbi:rL KY:=fun D L (y0,y1,y2,y3)=>
 bif (decide (y0<(y1.length:Int)))then(bif inb y0 y1.length then
 let e2:=(rd1 XV y1 y0);
 bif inb y0 y1.length then
 let e3:=(rd1 XV y1 y0);
 (KP L (y0,0,y1,y2,y3,e2.2.1,e2.2.2.1,e2.2.2.2.1,e2.2.2.2.2.1,e2.2.2.2.2.2,[e3.1,e2.2.1,e2.2.2.1,e2.2.2.2.1,e2.2.2.2.2.1])).bind fun z5=>
 (Qdg D z5.2.2.2.2.2.2.2.2).bind fun r6=>
 bif fits (z5.2.2.2.1.length+r6.length) 1 then
 KY L ((wR (z5.1+1)),z5.2.1,z5.2.2.1,(z5.2.2.2.1++r6))else none else none else none)
 else(some (y1,y2,y3))
theorem Qgs:OfL KY Qbi:=ofL 156 0
def Qbb:rL KP:=fun D L (y0,y1,y2,y3,y4,y5,y6,y7,y8,y9,y10)=>
 bif (decide (y1<(y10.length:Int)))then(bif inb y1 y10.length then
 (Z6 D (rd1 (0:Int) y10 y1)).bind fun r4=>
 bif fits (y4.length+r4.length) 1 then
 KP L (y0,(wR (y1+1)),y2,y3,(y4++r4),y5,y6,y7,y8,y9,y10)else none else none)
 else(some (y0,y2,y3,y4,y5,y6,y7,y8,y9))
theorem QfP:OfL KP Qbb:=ofL 156 2
def Qdr:rL KT:=fun D L (y0,y1,y2,y3)=>
 bif (decide (y0<(y2.length:Int)))then(bif inb y0 y2.length then
 let e9:=(rd1 XP y2 y0);
 (Z6 D e9.1).bind fun r10=>
 bif fits (y3.length+r10.length) 1 then
 bif inb y0 y2.length then
 let e11:=(rd1 XP y2 y0);
 (Z6 D e11.2).bind fun r12=>
 bif fits (List.length (y3++r10)+r12.length) 1 then
 KT L ((wR (y0+1)),y1,y2,((y3++r10)++r12))else none else none else none else none)
 else(some y3)
theorem QfU:OfL KT Qdr:=ofL 156 4
def QiR:rF Qa2:=fun D L (a0,a1)=>
 (Z6 D (a0.length:Int)).bind fun r1=>
 (KY L (0,a0,a1,r1)).bind fun z7=>
 (Z6 D (z7.2.1.length:Int)).bind fun r8=>
 bif fits (z7.2.2.length+r8.length) 1 then
 (KT L (0,z7.1,z7.2.1,(z7.2.2++r8))).bind fun z13=>
 some z13 else none
theorem Qus:OfF Qa2 QiR:=ofF 156
def QiU:rF Qdc:=fun D L (a0,a1)=>
 bif (decide ((a0.length:Int)=0))then(some (decide (a1=0)))
 else(bif (decide ((a0.length:Int)=4))then((xi D (a0,4,1023)).bind fun r1=>
 bif r1 then((QF D (a1,0,1023)).bind fun r2=>
 some r2)
 else(some false))
 else(some false))
theorem Qtl:OfF Qdc QiU:=ofF 157
def QcJ:rL qj:=fun D L (y0,y1,y2)=>
 bif (decide (y2<(y0.length:Int)))then(bif inb y2 y0.length then
 (QF D ((rd1 (0:Int) y0 y2),0,y1)).bind fun r1=>
 bif (!r1)then(some (Sum.inl false))
 else(qj L (y0,y1,(wR (y2+1))))else none)
 else(some (Sum.inr ()))
theorem QfK:OfL qj QcJ:=ofL 158 0
def Qkx:rF xi:=fun D L (a0,a1,a2)=>
 bif (decide (a1<(a0.length:Int)))then(some false)
 else((qj L (a0,a2,0)).bind fun z2=>
 Qp z2 (fun u3=>
 some u3)
 (fun z4=>
 some true))
theorem Quu:OfF xi Qkx:=ofF 158
def Qb1:rL KV:=fun D L (y0,y1)=>
 bif (decide (y1<(y0.length:Int)))then(bif inb y1 y0.length then
 let e1:=(rd1 XP y0 y1);
 (Yt D e1.1).bind fun r2=>
 bif (!r2)then(some (Sum.inl false))
 else(bif (decide (0<y1))then(bif inb y1 y0.length then
 let e3:=(rd1 XP y0 y1);
 bif inb (wR (y1 - 1)) y0.length then
 let e4:=(rd1 XP y0 (wR (y1 - 1)));
 bif (decide (e3.1<=e4.1))then(some (Sum.inl false))
 else(bif inb y1 y0.length then
 let e5:=(rd1 XP y0 y1);
 (QF D (e5.2,1,1000)).bind fun r6=>
 bif (!r6)then(some (Sum.inl false))
 else(KV L (y0,(wR (y1+1))))else none)else none else none)
 else(bif inb y1 y0.length then
 let e7:=(rd1 XP y0 y1);
 (QF D (e7.2,1,1000)).bind fun r8=>
 bif (!r8)then(some (Sum.inl false))
 else(KV L (y0,(wR (y1+1))))else none))else none)
 else(some (Sum.inr ()))
theorem QfA:OfL KV Qb1:=ofL 159 0
def QkV:rF yP:=fun D L a0=>
 (KV L (a0,0)).bind fun z9=>
 Qp z9 (fun u10=>
 some u10)
 (fun z11=>
 some true)
theorem Qut:OfF yP QkV:=ofF 159
def Qja:rF xL:=fun D L (a0,a1)=>
 (QbM D a0).bind fun r1=>
 (vS D a1).bind fun r2=>
 some (r1,r2)
theorem Qup:OfF xL Qja:=ofF 160
def Qlo:rF QeA:=fun D L (a0,a1)=>
 (qO D a0).bind fun r1=>
 some (r1,a1)
theorem QvO:OfF QeA Qlo:=ofF 161
def Qnx:rF Qh3:=fun D L (a0,a1,a2)=>
 (vO D a2).bind fun r1=>
 some (a0,a1,r1)
theorem Qyo:OfF Qh3 Qnx:=ofF 162
def Qby:rL J3:=fun D L (y0,y1,y2)=>
 bif (decide (y1<(y0.length:Int)))then(bif inb y1 y0.length then
 (qO D (rd1 ([]:List Int) y0 y1)).bind fun r1=>
 bif inb y1 y2.length then
 let l2:=List.set y2 (Int.toNat y1) r1;
 J3 L (y0,(wR (y1+1)),l2)else none else none)
 else(some y2)
theorem Qfn:OfL J3 Qby:=ofL 163 0
def Qkr:rF Qbd:=fun D L a0=>
 bif (decide ((0:Int)<=(a0.length:Int)/\((a0.length:Int):Int)=(a0.length:Int))&&fits (Int.toNat (a0.length:Int)) 24)then
 (J3 L (a0,0,(List.replicate (Int.toNat (a0.length:Int)) []))).bind fun z3=>
 some z3 else none
theorem Qvn:OfF Qbd Qkr:=ofF 163
def Qa3:rL qm:=fun D L (y0,y1,y2)=>
 bif (decide (y1<(y0.length:Int)))then(bif inb y1 y0.length then
 let e1:=(rd1 X9 y0 y1);
 (QeL D e1).bind fun r2=>
 bif inb y1 y2.length then
 let l3:=List.set y2 (Int.toNat y1) r2;
 qm L (y0,(wR (y1+1)),l3)else none else none)
 else(some y2)
theorem Qf4:OfL qm Qa3:=ofL 164 0
def Qkp:rF Qbj:=fun D L a0=>
 bif (decide ((0:Int)<=(a0.length:Int)/\((a0.length:Int):Int)=(a0.length:Int))&&fits (Int.toNat (a0.length:Int)) 32)then
 (qm L (a0,0,(List.replicate (Int.toNat (a0.length:Int)) (0,0,false,0)))).bind fun z4=>
 some z4 else none
theorem Qva:OfF Qbj Qkp:=ofF 164
def QbR:rL JK:=fun D L (y0,y1,y2)=>
 bif (decide (y1<(y0.length:Int)))then(bif inb y1 y0.length then
 let e1:=(rd1 Zq y0 y1);
 (QeO D e1).bind fun r2=>
 bif inb y1 y2.length then
 let l3:=List.set y2 (Int.toNat y1) r2;
 JK L (y0,(wR (y1+1)),l3)else none else none)
 else(some y2)
theorem QgB:OfL JK QbR:=ofL 165 0
def QkB:rF QaV:=fun D L a0=>
 bif (decide ((0:Int)<=(a0.length:Int)/\((a0.length:Int):Int)=(a0.length:Int))&&fits (Int.toNat (a0.length:Int)) 24)then
 (JK L (a0,0,(List.replicate (Int.toNat (a0.length:Int)) (0,0,0)))).bind fun z4=>
 some z4 else none
theorem QtC:OfF QaV QkB:=ofF 165
def Qc9:rL qn:=fun D L (y0,y1,y2)=>
 bif (decide (y1<(y0.length:Int)))then(bif inb y1 y0.length then
 bif inb y1 y2.length then
 let l1:=List.set y2 (Int.toNat y1) (rd1 (0:Int) y0 y1);
 qn L (y0,(wR (y1+1)),l1)else none else none)
 else(some y2)
theorem Qgo:OfL qn Qc9:=ofL 166 0
def QjC:rF QbD:=fun D L a0=>
 bif (decide ((0:Int)<=(a0.length:Int)/\((a0.length:Int):Int)=(a0.length:Int))&&fits (Int.toNat (a0.length:Int)) 1)then
 (qn L (a0,0,(List.replicate (Int.toNat (a0.length:Int)) 0))).bind fun z2=>
 some z2 else none
theorem Qtf:OfF QbD QjC:=ofF 166
def yX:rL Yd:=fun D L (y0,y1,y2,y3,y4,y5)=>
 bif (decide (y2<y1))then(bif inb y2 y0.length then
 let e3:=(rd1 XV y0 y2);
 (XW D e3.1).bind fun r4=>
 (XW D e3.2.1).bind fun r5=>
 (XW D e3.2.2.1).bind fun r6=>
 (XW D e3.2.2.2.1).bind fun r7=>
 (XW D e3.2.2.2.2.1).bind fun r8=>
 (Qb5 D e3.2.2.2.2.2).bind fun r9=>
 (Kq D [y5,r4,r5,r6,r7,r8,r9]).bind fun r10=>
 Yd L (y0,y1,(wR (y2+1)),y3,y4,r10)else none)
 else(some (y3,y4,y5))
theorem QaQ:OfL Yd yX:=ofL 169 0
def yK:rL Yi:=fun D L (y0,y1,y2,y3)=>
 bif (decide (y2<y1))then(bif inb y2 y0.length then
 let e14:=(rd1 XP y0 y2);
 (XW D e14.1).bind fun r15=>
 (XW D e14.2).bind fun r16=>
 (Kq D [y3,r15,r16]).bind fun r17=>
 Yi L (y0,y1,(wR (y2+1)),r17)else none)
 else(some y3)
theorem QaM:OfL Yi yK:=ofL 169 2
def Qdz:rF ym:=fun D L (a0,a1)=>
 (Xs D (a0,a1)).bind fun r1=>
 bif (!r1)then(some [])
 else((XW D (a0.length:Int)).bind fun r2=>
 (Yd L (a0,(a0.length:Int),0,a0,a1,r2)).bind fun z11=>
 (XW D (z11.2.1.length:Int)).bind fun r12=>
 (Kq D [z11.2.2,r12]).bind fun r13=>
 (Yi L (z11.2.1,(z11.2.1.length:Int),0,r13)).bind fun z18=>
 some z18)
theorem QpZ:OfF ym Qdz:=ofF 169
def QlK:rF Yu:=fun D L a0=>
 (QA D (a0,0,4)).bind fun r1=>
 some r1
theorem Qwk:OfF Yu QlK:=ofF 170
def Qd5:rL xE:=fun D L (y0,y1,y2,y3,y4)=>
 bif (decide (y2<y1))then(bif inb y2 y0.length then
 (QA D ((rd1 (0:Int) y0 y2),0,1023)).bind fun r1=>
 bif (!r1)then(some (Sum.inl false))
 else(xE L (y0,y1,(wR (y2+1)),y3,y4))else none)
 else(some (Sum.inr (y3,y4)))
theorem Qhg:OfL xE Qd5:=ofL 171 0
def QlZ:rF Qe5:=fun D L (a0,a1)=>
 bif (decide ((a0.length:Int)=0))then(some (decide (a1=0)))
 else((xE L (a0,(a0.length:Int),0,a0,a1)).bind fun z2=>
 Qp z2 (fun u3=>
 some u3)
 (fun z4=>
 bif (decide ((z4.1.length:Int)=4))then((QA D (z4.2,0,1023)).bind fun r5=>
 some r5)
 else(some false)))
theorem Qv1:OfF Qe5 QlZ:=ofF 171
def Qa5:rL KS:=fun D L (y0,y1,y2,y3)=>
 bif (decide (y3<y2))then(bif inb y3 y1.length then
 let e1:=(rd1 XP y1 y3);
 (Yu D e1.1).bind fun r2=>
 bif (!r2)then(some (Sum.inl false))
 else((QA D (e1.2,1,1000)).bind fun r3=>
 bif (!r3)then(some (Sum.inl false))
 else(bif (decide (0<y3))then(bif inb (wR (y3 - 1)) y0.length then
 let e4:=(rd1 XP y0 (wR (y3 - 1)));
 bif (decide (e1.1<=e4.1))then(some (Sum.inl false))
 else(KS L (y0,y1,y2,(wR (y3+1))))else none)
 else(KS L (y0,y1,y2,(wR (y3+1))))))else none)
 else(some (Sum.inr ()))
theorem Qft:OfL KS Qa5:=ofL 172 0
def Qi7:rF yy:=fun D L a0=>
 (KS L (a0,a0,(a0.length:Int),0)).bind fun z5=>
 Qp z5 (fun u6=>
 some u6)
 (fun z7=>
 some true)
theorem QuX:OfF yy Qi7:=ofF 172
def Qed:rL qY:=fun D L (y0,y1,y2,y3)=>
 bif (decide (y2<y1))then(bif inb y2 y0.length then
 bif fits (y3.length+List.length (rd1 ([]:List Int) y0 y2)) 1 then
 qY L (y0,y1,(wR (y2+1)),(y3++(rd1 ([]:List Int) y0 y2)))else none else none)
 else(some y3)
theorem QhC:OfL qY Qed:=ofL 173 0
def Qln:rF Kq:=fun D L a0=>
 (qY L (a0,(a0.length:Int),0,[])).bind fun z1=>
 some z1
theorem Qxf:OfF Kq Qln:=ofF 173
def jJ:rL xA:=fun D L (y0,y1)=>
 bif (decide (128<=y0))then(bif decide ((128:Int)≠0)then
 bif fits (y1.length+ [(IntKind.wrap .u8 (wR ((Int.tmod y0 128)+128)))].length) 1 then
 bif decide ((128:Int)≠0)then
 xA L ((wR (Int.tdiv y0 128)),(y1++[(IntKind.wrap .u8 (wR ((Int.tmod y0 128)+128)))]))else none else none else none)
 else(some (y0,y1))
theorem QhM:OfL xA jJ:=ofL 174 0
def Qlj:rF XW:=fun D L a0=>
 (QA D (a0,0,2147483647)).bind fun r1=>
 bif (!r1)then(some [])
 else((xA L (a0,[])).bind fun z2=>
 bif fits (z2.2.length+ [(IntKind.wrap .u8 z2.1)].length) 1 then
 some (z2.2++[(IntKind.wrap .u8 z2.1)])else none)
theorem Qwc:OfF XW Qlj:=ofF 174
end
end Go.Proofs.YtiejfnbmficbmaaGreat.M
