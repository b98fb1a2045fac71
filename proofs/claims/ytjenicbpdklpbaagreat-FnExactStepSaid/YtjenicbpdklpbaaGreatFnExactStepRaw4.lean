/- Plain forms of the functions that FnExactStep reaches, part 4. No conditions. -/
import Derived.Test.YtjenicbpdklpbaaGreatFnExactStepTab
set_option linter.all false
namespace Go.Proofs.YtjenicbpdklpbaaGreat.M
open Go Go.Eng Go.Proofs
set_option linter.unusedVariables false
noncomputable section
def zM:rL Js:=fun D L (y0,y1,y2)=>
 bif (decide (y2<(y0.length:Int)))then(bif inb y2 y0.length then
 let e1:=(rd1 XU y0 y2);
 (QeL D (e1.1,e1.2.1,e1.2.2.1,e1.2.2.2.1,e1.2.2.2.2.1,e1.2.2.2.2.2,y1)).bind fun r2=>
 bif (decide (r2<0))then(some (Sum.inl (-1)))
 else(Js L (y0,r2,(wR (y2+1))))else none)
 else(some (Sum.inr y1))
theorem yB:OfL Js zM:=ofL 146 0
def Qjz:rF Qck:=fun D L (a0,a1)=>
 bif (decide ((wR (a1 - (a0.length:Int)))<0))then(some (-1))
 else((Js L (a0,(wR (a1 - (a0.length:Int))),0)).bind fun z3=>
 Qn z3 (fun u4=>
 some u4)
 (fun z5=>
 some z5))
theorem Qtk:OfF Qck Qjz:=ofF 146
def Qg9:rF vx:=fun D L (a0,a1)=>
 bif (decide ((wR (a1 - (a0.length:Int)))<0))then(some (-1))
 else(some (wR (a1 - (a0.length:Int))))
theorem QrV:OfF vx Qg9:=ofF 147
def xN:rL VE:=fun D L (y0,y1,y2)=>
 bif (decide (y2<(y0.length:Int)))then(bif inb y2 y0.length then
 let e1:=(rd1 Y8 y0 y2);
 (qS D (e1.1,e1.2,y1)).bind fun r2=>
 bif (decide (r2<0))then(some (Sum.inl (-1)))
 else(VE L (y0,r2,(wR (y2+1))))else none)
 else(some (Sum.inr y1))
theorem zC:OfL VE xN:=ofL 148 0
def Qht:rF vz:=fun D L (a0,a1)=>
 bif (decide ((wR (a1 - (a0.length:Int)))<0))then(some (-1))
 else((VE L (a0,(wR (a1 - (a0.length:Int))),0)).bind fun z3=>
 Qn z3 (fun u4=>
 some u4)
 (fun z5=>
 some z5))
theorem Qsa:OfF vz Qht:=ofF 148
def QlL:rF ZY:=fun D L (a0,a1)=>
 bif fits (List.length ([]:List Qd)+a0.length) 56 then
 bif fits (List.length ([]:List Qa)+a1.length) 16 then
 some ((([]:List Qd)++a0),(([]:List Qa)++a1))else none else none
theorem Qv0:OfF ZY QlL:=ofF 149
def QkF:rF Kr:=fun D L (a0,a1)=>
 bif fits (List.length ([]:List Int)+a0.length) 8 then
 some ((([]:List Int)++a0),a1)else none
theorem Qvx:OfF Kr QkF:=ofF 150
def QdM:rL xx:=fun D L (y0,y1,y2,y3,y4,y5,y6)=>
 bif (decide (y0<(y3.length:Int)))then(bif inb y0 y3.length then
 let e1:=(rd1 Y8 y3 y0);
 (ZY D e1).bind fun r2=>
 bif fits (y6.length+ [r2].length) 48 then
 xx L ((wR (y0+1)),y1,y2,y3,y4,y5,(y6++[r2]))else none else none)
 else(some (y4,y5,y6))
theorem QgL:OfL xx QdM:=ofL 151 0
def Qls:rF zy:=fun D L (a0,a1,a2)=>
 (xx L (0,a0,a1,a2,a0,a1,[])).bind fun z3=>
 some z3
theorem QvF:OfF zy Qls:=ofF 151
def QdV:rL qX:=fun D L (y0,y1,y2)=>
 bif (decide (y1<(y0.length:Int)))then(bif inb y1 y0.length then
 bif fits (List.length ([]:List Int)+List.length (rd1 ([]:List Int) y0 y1)) 8 then
 bif fits (y2.length+List.length ([(([]:List Int)++(rd1 ([]:List Int) y0 y1))]:List (List Int))) 24 then
 qX L (y0,(wR (y1+1)),(y2++([(([]:List Int)++(rd1 ([]:List Int) y0 y1))]:List (List Int))))else none else none else none)
 else(some y2)
theorem QgY:OfL qX QdV:=ofL 152 0
def Qlv:rF vm:=fun D L a0=>
 (qX L (a0,0,[])).bind fun z1=>
 some z1
theorem Qws:OfF vm Qlv:=ofF 152
def Qjc:rF QbV:=fun D L (a0,a1,a2,a3)=>
 (Qel D (a0,a2)).bind fun r1=>
 bif r1 then(some (decide (a1=a3)))
 else(some false)
theorem Qto:OfF QbV Qjc:=ofF 153
def QdH:rL Vv:=fun D L (y0,y1,y2,y3,y4)=>
 bif (decide (y0<4))then((Qcq D (y1,y2,y0)).bind fun r2=>
 bif fits (y3.length+ [r2].length) 8 then
 Vv L ((wR (y0+1)),y1,y2,(y3++[r2]),y4)else none)
 else(some (y3,y4))
theorem Qg5:OfL Vv QdH:=ofL 154 0
def Qkx:rF zo:=fun D L (a0,a1)=>
 (XA D (a0,a1)).bind fun r1=>
 bif (!r1)then(some ([],0))
 else((Vv L (0,a0,a1,[],0)).bind fun z3=>
 (QeE D z3.1).bind fun r4=>
 some (z3.1,r4))
theorem Qvt:OfF zo Qkx:=ofF 154
def Qgx:rL zj:=fun D L (y0,y1,y2)=>
 bif (decide (y2<y1))then(bif inb y2 y0.length then
 (QE D ((rd1 (0:Int) y0 y2),0,100000)).bind fun r2=>
 bif (!r2)then(some (Sum.inl false))
 else(zj L (y0,y1,(wR (y2+1))))else none)
 else(some (Sum.inr ()))
theorem Qia:OfL zj Qgx:=ofL 155 0
def Qdz:rF QaR:=fun D L (a0,a1)=>
 (QE D (a1,1,5)).bind fun r1=>
 bif (!r1)then(some false)
 else(bif (!decide ((a0.length:Int)=a1))then(some false)
 else((zj L (a0,a1,0)).bind fun z3=>
 Qn z3 (fun u4=>
 some u4)
 (fun z5=>
 some true)))
theorem Qxw:OfF QaR Qdz:=ofF 155
def QbD:rL JT:=fun D L (y0,y1,y2)=>
 bif (decide (y2<y1))then(bif inb y2 y0.length then
 bif (!decide (((List.length (rd1 ([]:List Int) y0 y2)):Int)=5))then(some (Sum.inl false))
 else((KL L (y0,y1,y2,0)).bind fun z3=>
 Qn z3 (fun u4=>
 some (Sum.inl u4))
 (fun z5=>
 JT L (z5.1,z5.2.1,(wR (z5.2.2+1)))))else none)
 else(some (Sum.inr ()))
theorem QeZ:OfL JT QbD:=ofL 156 0
def QaJ:rL KL:=fun D L (y0,y1,y2,y3)=>
 bif inb y2 y0.length then
 bif (decide (y3<((List.length (rd1 ([]:List Int) y0 y2)):Int)))then(bif inb y2 y0.length then
 bif inb y3 (List.length (rd1 ([]:List Int) y0 y2))then
 (QE D ((rd1 (0:Int) (rd1 ([]:List Int) y0 y2) y3),0,1000)).bind fun r2=>
 bif (!r2)then(some (Sum.inl false))
 else(KL L (y0,y1,y2,(wR (y3+1))))else none else none)
 else(some (Sum.inr (y0,y1,y2)))else none
theorem Qgi:OfL KL QaJ:=ofL 156 2
def vP:rF Qbn:=fun D L (a0,a1)=>
 (QE D (a1,1,5)).bind fun r1=>
 bif (!r1)then(some false)
 else(bif (!decide ((a0.length:Int)=a1))then(some false)
 else((JT L (a0,a1,0)).bind fun z6=>
 Qn z6 (fun u7=>
 some u7)
 (fun z8=>
 some true)))
theorem QuK:OfF Qbn vP:=ofF 156
def QaY:rL ql:=fun D L (y0,y1,y2,y3,y4,y5,y6,y7,y8,y9,y10,y11,y12,y13,y14,y15,y16,y17,y18,y19)=>
 bif (decide (y0<(y15.length:Int)))then(bif inb y0 y15.length then
 let e1:=(rd1 X7 y15 y0);
 (QE D (e1.1,0,(wR (y2 - 1)))).bind fun r2=>
 bif (!r2)then(some (Sum.inl false))
 else(bif (decide (e1.1=y1))then(some (Sum.inl false))
 else((QE D (e1.2.1,0,100000)).bind fun r3=>
 bif (!r3)then(some (Sum.inl false))
 else((QE D (e1.2.2.2,0,y16)).bind fun r4=>
 bif (!r4)then(some (Sum.inl false))
 else((YC L (y0,0,e1.1,y1,(decide (e1.1=y1)),e1.2.1,r3,(!r3),e1.2.2.2,y16,r4,(!r4),y1,y2,y3,y4,y5,y6,y7,y8,y9,y10,y11,y12,y13,y14,y15,y16,y17,y18,y19,e1)).bind fun z7=>
 Qn z7 (fun u8=>
 some (Sum.inl u8))
 (fun z9=>
 ql L ((wR (z9.1+1)),z9.2.2.2.2.2.2.2.2.2.2.2.1,z9.2.2.2.2.2.2.2.2.2.2.2.2.1,z9.2.2.2.2.2.2.2.2.2.2.2.2.2.1,z9.2.2.2.2.2.2.2.2.2.2.2.2.2.2.1,z9.2.2.2.2.2.2.2.2.2.2.2.2.2.2.2.1,z9.2.2.2.2.2.2.2.2.2.2.2.2.2.2.2.2.1,z9.2.2.2.2.2.2.2.2.2.2.2.2.2.2.2.2.2.1,z9.2.2.2.2.2.2.2.2.2.2.2.2.2.2.2.2.2.2.1,z9.2.2.2.2.2.2.2.2.2.2.2.2.2.2.2.2.2.2.2.1,z9.2.2.2.2.2.2.2.2.2.2.2.2.2.2.2.2.2.2.2.2.1,z9.2.2.2.2.2.2.2.2.2.2.2.2.2.2.2.2.2.2.2.2.2.1,z9.2.2.2.2.2.2.2.2.2.2.2.2.2.2.2.2.2.2.2.2.2.2.1,z9.2.2.2.2.2.2.2.2.2.2.2.2.2.2.2.2.2.2.2.2.2.2.2.1,z9.2.2.2.2.2.2.2.2.2.2.2.2.2.2.2.2.2.2.2.2.2.2.2.2.1,z9.2.2.2.2.2.2.2.2.2.2.2.2.2.2.2.2.2.2.2.2.2.2.2.2.2.1,z9.2.2.2.2.2.2.2.2.2.2.2.2.2.2.2.2.2.2.2.2.2.2.2.2.2.2.1,z9.2.2.2.2.2.2.2.2.2.2.2.2.2.2.2.2.2.2.2.2.2.2.2.2.2.2.2.1,z9.2.2.2.2.2.2.2.2.2.2.2.2.2.2.2.2.2.2.2.2.2.2.2.2.2.2.2.2.1,z9.2.2.2.2.2.2.2.2.2.2.2.2.2.2.2.2.2.2.2.2.2.2.2.2.2.2.2.2.2.1))))))else none)
 else(some (Sum.inr ()))
theorem QfO:OfL ql QaY:=ofL 157 0
def QcE:rL YC:=fun D L (y0,y1,y2,y3,y4,y5,y6,y7,y8,y9,y10,y11,y12,y13,y14,y15,y16,y17,y18,y19,y20,y21,y22,y23,y24,y25,y26,y27,y28,y29,y30,y31,y32,y33,y34)=>
 bif (decide (y1<y0))then(bif inb y1 y26.length then
 let e5:=(rd1 X7 y26 y1);
 bif (decide (e5.1=y31))then(bif inb y1 y26.length then
 let e6:=(rd1 X7 y26 y1);
 bif (e6.2.2.1==y33)then(some (Sum.inl false))
 else(YC L (y0,(wR (y1+1)),y2,y3,y4,y5,y6,y7,y8,y9,y10,y11,y12,y13,y14,y15,y16,y17,y18,y19,y20,y21,y22,y23,y24,y25,y26,y27,y28,y29,y30,y31,y32,y33,y34))else none)
 else(YC L (y0,(wR (y1+1)),y2,y3,y4,y5,y6,y7,y8,y9,y10,y11,y12,y13,y14,y15,y16,y17,y18,y19,y20,y21,y22,y23,y24,y25,y26,y27,y28,y29,y30,y31,y32,y33,y34))else none)
 else(some (Sum.inr (y0,y2,y3,y4,y5,y6,y7,y8,y9,y10,y11,y12,y13,y14,y15,y16,y17,y18,y19,y20,y21,y22,y23,y24,y25,y26,y27,y28,y29,y30,y31,y32,y33,y34)))
theorem QeY:OfL YC QcE:=ofL 157 2
def QjC:rF Qbg:=fun D L (a0,a1,a2,a3,a4,a5,a6,a7,a8,a9,a10,a11,a12,a13,a14,a15,a16,a17,a18)=>
 bif (decide (a13<(a14.length:Int)))then(some false)
 else((ql L (0,a0,a1,a2,a3,a4,a5,a6,a7,a8,a9,a10,a11,a12,a13,a14,a15,a16,a17,a18)).bind fun z10=>
 Qn z10 (fun u11=>
 some u11)
 (fun z12=>
 some true))
theorem Qtr:OfF Qbg QjC:=ofF 157
def Qnq:rF Qbf:=fun D L (a0,a1)=>
 bif (decide (a0<a1))then(some a0)
 else(some a1)
theorem QxC:OfF Qbf Qnq:=ofF 158
def Qco:rL JC:=fun D L (y0,y1,y2)=>
 bif (decide (y1<(y0.length:Int)))then(bif inb y1 y0.length then
 let e1:=(rd1 XU y0 y1);
 (QeQ D e1).bind fun r2=>
 bif inb y1 y2.length then
 let l3:=List.set y2 (Int.toNat y1) r2;
 JC L (y0,(wR (y1+1)),l3)else none else none)
 else(some y2)
theorem QfI:OfL JC Qco:=ofL 159 0
def Qil:rF Qcn:=fun D L a0=>
 bif (decide ((0:Int)<=(a0.length:Int)/\((a0.length:Int):Int)=(a0.length:Int))&&fits (Int.toNat (a0.length:Int)) 56)then
 (JC L (a0,0,(List.replicate (Int.toNat (a0.length:Int)) (0,0,0,0,0,ByteArray.empty)))).bind fun z4=>
 some z4 else none
theorem QuV:OfF Qcn Qil:=ofF 159
def vO:rL VF:=fun D L (y0,y1,y2)=>
 bif (decide (y1<(y0.length:Int)))then(bif inb y1 y0.length then
 let e1:=(rd1 XN y0 y1);
 (QcP D e1).bind fun r2=>
 bif inb y1 y2.length then
 let l3:=List.set y2 (Int.toNat y1) r2;
 VF L (y0,(wR (y1+1)),l3)else none else none)
 else(some y2)
theorem Qdf:OfL VF vO:=ofL 160 0
def Qhb:rF vI:=fun D L a0=>
 bif (decide ((0:Int)<=(a0.length:Int)/\((a0.length:Int):Int)=(a0.length:Int))&&fits (Int.toNat (a0.length:Int)) 16)then
 (VF L (a0,0,(List.replicate (Int.toNat (a0.length:Int)) (0,0)))).bind fun z4=>
 some z4 else none
theorem QrY:OfF vI Qhb:=ofF 160
def vX:rL VW:=fun D L (y0,y1,y2)=>
 bif (decide (y1<(y0.length:Int)))then(bif inb y1 y0.length then
 let e1:=(rd1 Y8 y0 y1);
 (qK D e1).bind fun r2=>
 bif inb y1 y2.length then
 let l3:=List.set y2 (Int.toNat y1) r2;
 VW L (y0,(wR (y1+1)),l3)else none else none)
 else(some y2)
theorem Qde:OfL VW vX:=ofL 161 0
def Qhk:rF vB:=fun D L a0=>
 bif (decide ((0:Int)<=(a0.length:Int)/\((a0.length:Int):Int)=(a0.length:Int))&&fits (Int.toNat (a0.length:Int)) 48)then
 (VW L (a0,0,(List.replicate (Int.toNat (a0.length:Int)) ([],[])))).bind fun z4=>
 some z4 else none
theorem Qr1:OfF vB Qhk:=ofF 161
def Qln:rF Qem:=fun D L (a0,a1,a2,a3)=>
 some (a0,a1,a2,a3)
theorem Qva:OfF Qem Qln:=ofF 162
def QkC:rF QeU:=fun D L (a0,a1,a2)=>
 some (a0,a1,a2)
theorem QvP:OfF QeU QkC:=ofF 163
def Qgb:rF X4:=fun D L (a0,a1)=>
 bif fits (List.length ([]:List Qd)+a0.length) 56 then
 bif fits (List.length ([]:List Qa)+a1.length) 16 then
 some ((([]:List Qd)++a0),(([]:List Qa)++a1))else none else none
theorem QqE:OfF X4 Qgb:=ofF 164
def Qhd:rF Z4:=fun D L (a0,a1)=>
 (ZF D a0).bind fun r1=>
 some (r1,a1)
theorem Qr2:OfF Z4 Qhd:=ofF 165
def Qbv:rL J3:=fun D L (y0,y1,y2,y3,y4,y5)=>
 bif (decide (y2<y1))then(bif inb y2 y0.length then
 let e1:=(rd1 Y8 y0 y2);
 (X4 D e1).bind fun r2=>
 bif fits (y5.length+ [r2].length) 48 then
 J3 L (y0,y1,(wR (y2+1)),y3,y4,(y5++[r2]))else none else none)
 else(some (y3,y4,y5))
theorem Qf8:OfL J3 Qbv:=ofL 166 0
def Qiv:rF Kt:=fun D L (a0,a1,a2)=>
 (J3 L (a2,(a2.length:Int),0,a0,a1,[])).bind fun z3=>
 some z3
theorem Qt6:OfF Kt Qiv:=ofF 166
def Qhn:rF ZF:=fun D L a0=>
 bif fits (List.length ([]:List Int)+a0.length) 8 then
 some (([]:List Int)++a0)else none
theorem QrX:OfF ZF Qhn:=ofF 167
def jE:rL Va:=fun D L (y0,y1,y2,y3)=>
 bif (decide (y2<y1))then(bif inb y2 y0.length then
 (ZF D (rd1 ([]:List Int) y0 y2)).bind fun r1=>
 bif fits (y3.length+List.length ([r1]:List (List Int))) 24 then
 Va L (y0,y1,(wR (y2+1)),(y3++([r1]:List (List Int))))else none else none)
 else(some y3)
theorem Qcs:OfL Va jE:=ofL 168 0
def Qgp:rF qN:=fun D L a0=>
 (Va L (a0,(a0.length:Int),0,[])).bind fun z2=>
 some z2
theorem QqD:OfF qN Qgp:=ofF 168
def Qg0:rF vE:=fun D L (a0,a1,a2,a3)=>
 (V7 D (a0,a2)).bind fun r1=>
 bif r1 then(some (decide (a1=a3)))
 else(some false)
theorem QrN:OfF vE Qg0:=ofF 169
def QdZ:rL Vt:=fun D L (y0,y1,y2,y3,y4)=>
 bif (decide (y0<4))then((QaO D (y1,y2,y0)).bind fun r2=>
 bif fits (y3.length+ [r2].length) 8 then
 Vt L ((wR (y0+1)),y1,y2,(y3++[r2]),y4)else none)
 else(some (y3,y4))
theorem Qg2:OfL Vt QdZ:=ofL 170 0
def Qk2:rF zw:=fun D L (a0,a1)=>
 (Xp D (a0,a1)).bind fun r1=>
 bif (!r1)then(some ([],0))
 else((Vt L (0,a0,a1,[],0)).bind fun z3=>
 (Qed D z3.1).bind fun r4=>
 some (z3.1,r4))
theorem Qu4:OfF zw Qk2:=ofF 170
def QgF:rL zb:=fun D L (y0,y1,y2,y3,y4)=>
 bif (decide (y4<y3))then(bif inb y4 y2.length then
 (QA D ((rd1 (0:Int) y2 y4),0,100000)).bind fun r1=>
 bif (!r1)then(some (Sum.inl false))
 else(zb L (y0,y1,y2,y3,(wR (y4+1))))else none)
 else(some (Sum.inr (y0,y1)))
theorem Qh7:OfL zb QgF:=ofL 171 0
def QmO:rF Qb7:=fun D L (a0,a1)=>
 (zb L (a0,a1,a0,(a0.length:Int),0)).bind fun z2=>
 Qn z2 (fun u3=>
 some u3)
 (fun z4=>
 (QA D (z4.2,1,5)).bind fun r5=>
 bif r5 then(some (decide ((z4.1.length:Int)=z4.2)))
 else(some false))
theorem QxO:OfF Qb7 QmO:=ofF 171
def xX:rL ZJ:=fun D L (y0,y1,y2)=>
 bif (decide (y2<(y0.length:Int)))then(bif inb y2 y0.length then
 ZJ L (y0,(mxI y1 (rd1 (0:Int) y0 y2)),(wR (y2+1)))else none)
 else(some y1)
theorem jy:OfL ZJ xX:=ofL 172 0
def Qan:rF Ve:=fun D L a0=>
 bif (decide ((a0.length:Int)<1))then(none)
 else(bif inb 0 a0.length then
 (ZJ L (a0,(rd1 (0:Int) a0 0),1)).bind fun z1=>
 some z1 else none)
theorem Qoq:OfF Ve Qan:=ofF 172
def QcF:rL Jw:=fun D L (y0,y1,y2,y3,y4)=>
 bif (decide (y4<y3))then(bif inb y4 y2.length then
 (KX L (y0,y1,(rd1 ([]:List Int) y2 y4),y2,y3,y4,(rd1 ([]:List Int) y2 y4),((List.length (rd1 ([]:List Int) y2 y4)):Int),0)).bind fun z2=>
 Qn z2 (fun u3=>
 some (Sum.inl u3))
 (fun z4=>
 bif (!decide ((z4.2.2.1.length:Int)=5))then(some (Sum.inl false))
 else(Jw L (z4.1,z4.2.1,z4.2.2.2.1,z4.2.2.2.2.1,(wR (z4.2.2.2.2.2+1)))))else none)
 else(some (Sum.inr (y0,y1)))
theorem Qfd:OfL Jw QcF:=ofL 173 0
def QcM:rL KX:=fun D L (y0,y1,y2,y3,y4,y5,y6,y7,y8)=>
 bif (decide (y8<y7))then(bif inb y8 y6.length then
 (QA D ((rd1 (0:Int) y6 y8),0,1000)).bind fun r1=>
 bif (!r1)then(some (Sum.inl false))
 else(KX L (y0,y1,y2,y3,y4,y5,y6,y7,(wR (y8+1))))else none)
 else(some (Sum.inr (y0,y1,y2,y3,y4,y5)))
theorem Qfu:OfL KX QcM:=ofL 173 2
def Qiq:rF Qa3:=fun D L (a0,a1)=>
 (Jw L (a0,a1,a0,(a0.length:Int),0)).bind fun z5=>
 Qn z5 (fun u6=>
 some u6)
 (fun z7=>
 (QA D (z7.2,1,5)).bind fun r8=>
 bif r8 then(some (decide ((z7.1.length:Int)=z7.2)))
 else(some false))
theorem QsU:OfF Qa3 Qiq:=ofF 173
def Qd9:rL xl:=fun D L (y0,y1,y2,y3,y4,y5,y6,y7,y8,y9,y10,y11,y12,y13,y14,y15,y16,y17,y18,y19,y20,y21)=>
 bif (decide (y2<y1))then(bif inb y2 y0.length then
 let e1:=(rd1 X7 y0 y2);
 (zp D (y3,y4,y5,y6,y7,y8,y9,y10,y11,y12,y13,y14,y15,y16,y17,y18,y19,y20,y21,e1.1)).bind fun r2=>
 bif (!r2)then(some (Sum.inl false))
 else((QA D (e1.2.1,0,100000)).bind fun r3=>
 bif (!r3)then(some (Sum.inl false))
 else((QA D (e1.2.2.2,0,y18)).bind fun r4=>
 bif (!r4)then(some (Sum.inl false))
 else((xG D (y3,y4,y5,y6,y7,y8,y9,y10,y11,y12,y13,y14,y15,y16,y17,y18,y19,y20,y21,e1.1,e1.2.2.1)).bind fun r5=>
 bif (!decide (r5=y2))then(some (Sum.inl false))
 else(xl L (y0,y1,(wR (y2+1)),y3,y4,y5,y6,y7,y8,y9,y10,y11,y12,y13,y14,y15,y16,y17,y18,y19,y20,y21)))))else none)
 else(some (Sum.inr (y3,y4,y5,y6,y7,y8,y9,y10,y11,y12,y13,y14,y15,y16,y17,y18,y19,y20,y21)))
theorem Qhc:OfL xl Qd9:=ofL 174 0
def Qla:rF QeO:=fun D L (a0,a1,a2,a3,a4,a5,a6,a7,a8,a9,a10,a11,a12,a13,a14,a15,a16,a17,a18)=>
 (xl L (a14,(a14.length:Int),0,a0,a1,a2,a3,a4,a5,a6,a7,a8,a9,a10,a11,a12,a13,a14,a15,a16,a17,a18)).bind fun z6=>
 Qn z6 (fun u7=>
 some u7)
 (fun z8=>
 (QA D (z8.2.2.2.2.2.2.2.2.2.2.2.2.2.1,1,4)).bind fun r9=>
 bif r9 then(some (decide ((z8.2.2.2.2.2.2.2.2.2.2.2.2.2.2.1.length:Int)<=z8.2.2.2.2.2.2.2.2.2.2.2.2.2.1)))
 else(some false))
theorem Qvj:OfF QeO Qla:=ofF 174
def Qbx:rL Jt:=fun D L (y0,y1,y2,y3,y4,y5,y6,y7,y8,y9,y10,y11,y12,y13,y14,y15,y16,y17,y18,y19,y20,y21)=>
 bif (decide (y2<y1))then(bif inb y2 y0.length then
 let e1:=(rd1 Zo y0 y2);
 (QA D (e1.1,0,1000)).bind fun r2=>
 bif (!r2)then(some (Sum.inl false))
 else((QA D (e1.2.1,0,100000)).bind fun r3=>
 bif (!r3)then(some (Sum.inl false))
 else((QA D (e1.2.2,0,y20)).bind fun r4=>
 bif (!r4)then(some (Sum.inl false))
 else(Jt L (y0,y1,(wR (y2+1)),y3,y4,y5,y6,y7,y8,y9,y10,y11,y12,y13,y14,y15,y16,y17,y18,y19,y20,y21))))else none)
 else(some (Sum.inr (y3,y4,y5,y6,y7,y8,y9,y10,y11,y12,y13,y14,y15,y16,y17,y18,y19,y20,y21)))
theorem Qgd:OfL Jt Qbx:=ofL 175 0
def QjP:rF QaL:=fun D L (a0,a1,a2,a3,a4,a5,a6,a7,a8,a9,a10,a11,a12,a13,a14,a15,a16,a17,a18)=>
 (Jt L (a18,(a18.length:Int),0,a0,a1,a2,a3,a4,a5,a6,a7,a8,a9,a10,a11,a12,a13,a14,a15,a16,a17,a18)).bind fun z5=>
 Qn z5 (fun u6=>
 some u6)
 (fun z7=>
 some (decide ((z7.2.2.2.2.2.2.2.2.2.2.2.2.2.2.2.2.2.2.length:Int)=5)))
theorem Qsv:OfF QaL QjP:=ofF 175
def vT:rL VX:=fun D L (y0,y1,y2)=>
 bif (decide (y2<(y0.length:Int)))then(bif inb y2 y0.length then
 let e1:=(rd1 XN y0 y2);
 bif inb y2 y1.length then
 let e2:=(rd1 XN y1 y2);
 (QcW D (e1.1,e1.2,e2)).bind fun r3=>
 bif (!r3)then(some (Sum.inl false))
 else(VX L (y0,y1,(wR (y2+1))))else none else none)
 else(some (Sum.inr ()))
theorem Qds:OfL VX vT:=ofL 176 0
def QgU:rF vD:=fun D L (a0,a1)=>
 bif (!decide ((a0.length:Int)=(a1.length:Int)))then(some false)
 else((VX L (a0,a1,0)).bind fun z4=>
 Qn z4 (fun u5=>
 some u5)
 (fun z6=>
 some true))
theorem QrI:OfF vD QgU:=ofF 176
def vZ:rL VY:=fun D L (y0,y1,y2)=>
 bif (decide (y2<(y0.length:Int)))then(bif inb y2 y0.length then
 let e1:=(rd1 Y8 y0 y2);
 bif inb y2 y1.length then
 let e2:=(rd1 Y8 y1 y2);
 (xf D (e1.1,e1.2,e2)).bind fun r3=>
 bif (!r3)then(some (Sum.inl false))
 else(VY L (y0,y1,(wR (y2+1))))else none else none)
 else(some (Sum.inr ()))
theorem Qdn:OfL VY vZ:=ofL 177 0
def Qhj:rF vA:=fun D L (a0,a1)=>
 bif (!decide ((a0.length:Int)=(a1.length:Int)))then(some false)
 else((VY L (a0,a1,0)).bind fun z4=>
 Qn z4 (fun u5=>
 some u5)
 (fun z6=>
 some true))
theorem QrT:OfF vA Qhj:=ofF 177
def Qk5:rF Qev:=fun D L (a0,a1,a2,a3,a4,a5,a6,a7)=>
 bif (!decide (a0=a4))then(some false)
 else(bif (!decide (a1=a5))then(some false)
 else(bif (!(a2==a6))then(some false)
 else(bif (!decide (a3=a7))then(some false)
 else(some true))))
theorem QvV:OfF Qev Qk5:=ofF 178
def QkK:rF Qep:=fun D L (a0,a1,a2,a3,a4,a5)=>
 bif (!decide (a0=a3))then(some false)
 else(bif (!decide (a1=a4))then(some false)
 else(bif (!decide (a2=a5))then(some false)
 else(some true)))
theorem Qv1:OfF Qep QkK:=ofF 179
def yD:rL Ya:=fun D L (y0,y1,y2)=>
 bif (decide (y1<(y2.length:Int)))then(bif inb y1 y2.length then
 let e1:=(rd1 XN y2 y1);
 let l2:=List.set y2 (Int.toNat y1) (y0,e1.2);
 bif inb y1 l2.length then
 let e3:=(rd1 XN l2 y1);
 let l4:=List.set l2 (Int.toNat y1) (e3.1,(wR (y0+1)));
 Ya L ((wR ((wR (y0+1))+1)),(wR (y1+1)),l4)else none else none)
 else(some (y0,y2))
theorem Qaa:OfL Ya yD:=ofL 180 0
def Qdo:rF KR:=fun D L (a0,a1)=>
 (Ya L (a1,0,a0)).bind fun z5=>
 some z5
theorem Qpc:OfF KR Qdo:=ofF 180
end
end Go.Proofs.YtjenicbpdklpbaaGreat.M
