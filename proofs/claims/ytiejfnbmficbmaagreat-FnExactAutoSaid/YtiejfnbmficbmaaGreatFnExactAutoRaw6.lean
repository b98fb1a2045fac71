/- Plain forms of the functions that FnExactAuto reaches, part 6. No conditions. -/
import Derived.Test.YtiejfnbmficbmaaGreatFnExactAutoTab
set_option linter.all false
namespace Go.Proofs.YtiejfnbmficbmaaGreat.M
open Go Go.Eng Go.Proofs
set_option linter.unusedVariables false
noncomputable section
def QhQ:rF vL:=fun D L (a0,a1,a2,a3)=>
 (Ji D (a0,a2)).bind fun r1=>
 bif r1 then(some (decide (a1=a3)))
 else(some false)
theorem QsD:OfF vL QhQ:=ofF 177
def Qd2:rL VD:=fun D L (y0,y1,y2,y3,y4)=>
 bif (decide (y0<4))then((QbP D (y1,y2,y0)).bind fun r2=>
 bif fits (y3.length+ [r2].length) 8 then
 VD L ((wR (y0+1)),y1,y2,(y3++[r2]),y4)else none)
 else(some (y3,y4))
theorem Qhp:OfL VD Qd2:=ofL 178 0
def Ql3:rF zG:=fun D L (a0,a1)=>
 (Xs D (a0,a1)).bind fun r1=>
 bif (!r1)then(some ([],0))
 else((VD L (0,a0,a1,[],0)).bind fun z3=>
 (QeT D z3.1).bind fun r4=>
 some (z3.1,r4))
theorem Qxo:OfF zG Ql3:=ofF 178
def QlS:rF Vx:=fun D L (a0,a1,a2)=>
 (YB D (a0,a1,a2)).bind fun r1=>
 bif (!r1)then(some 0)
 else(some (wR (a1+(a2.length:Int))))
theorem Qwt:OfF Vx QlS:=ofF 179
def Qg4:rL zk:=fun D L (y0,y1,y2,y3,y4,y5)=>
 bif (decide (y2<y1))then(bif inb y2 y0.length then
 let e1:=(rd1 Y9 y0 y2);
 (Xs D e1).bind fun r2=>
 bif (!r2)then(some (Sum.inl false))
 else(zk L (y0,y1,(wR (y2+1)),y3,y4,y5))else none)
 else(some (Sum.inr (y3,y4,y5)))
theorem QkP:OfL zk Qg4:=ofL 180 0
def Qng:rF YB:=fun D L (a0,a1,a2)=>
 (zk L (a2,(a2.length:Int),0,a0,a1,a2)).bind fun z3=>
 Qp z3 (fun u4=>
 some u4)
 (fun z5=>
 (QA D (z5.1,1,8)).bind fun r6=>
 bif r6 then(bif (decide ((z5.2.2.length:Int)<=z5.1))then((QA D (z5.2.1,0,100000)).bind fun r7=>
 bif r7 then(some (decide ((wR (z5.2.1+(z5.2.2.length:Int)))<=100000)))
 else(some false))
 else(some false))
 else(some false))
theorem QyG:OfF YB Qng:=ofF 180
def Qg6:rL zw:=fun D L (y0,y1,y2,y3,y4)=>
 bif (decide (y4<y3))then(bif inb y4 y2.length then
 (QA D ((rd1 (0:Int) y2 y4),0,100000)).bind fun r1=>
 bif (!r1)then(some (Sum.inl false))
 else(zw L (y0,y1,y2,y3,(wR (y4+1))))else none)
 else(some (Sum.inr (y0,y1)))
theorem Qky:OfL zw Qg6:=ofL 181 0
def QnD:rF QbO:=fun D L (a0,a1)=>
 (zw L (a0,a1,a0,(a0.length:Int),0)).bind fun z2=>
 Qp z2 (fun u3=>
 some u3)
 (fun z4=>
 (QA D (z4.2,1,5)).bind fun r5=>
 bif r5 then(some (decide ((z4.1.length:Int)=z4.2)))
 else(some false))
theorem QyN:OfF QbO QnD:=ofF 181
def xX:rL ZN:=fun D L (y0,y1,y2)=>
 bif (decide (y2<(y0.length:Int)))then(bif inb y2 y0.length then
 ZN L (y0,(mxI y1 (rd1 (0:Int) y0 y2)),(wR (y2+1)))else none)
 else(some y1)
theorem jQ:OfL ZN xX:=ofL 182 0
def QaF:rF Vg:=fun D L a0=>
 bif (decide ((a0.length:Int)<1))then(none)
 else(bif inb 0 a0.length then
 (ZN L (a0,(rd1 (0:Int) a0 0),1)).bind fun z1=>
 some z1 else none)
theorem QoR:OfF Vg QaF:=ofF 182
def QbF:rL J1:=fun D L (y0,y1,y2,y3,y4)=>
 bif (decide (y4<y3))then(bif inb y4 y2.length then
 (K0 L (y0,y1,(rd1 ([]:List Int) y2 y4),y2,y3,y4,(rd1 ([]:List Int) y2 y4),((List.length (rd1 ([]:List Int) y2 y4)):Int),0)).bind fun z2=>
 Qp z2 (fun u3=>
 some (Sum.inl u3))
 (fun z4=>
 bif (!decide ((z4.2.2.1.length:Int)=5))then(some (Sum.inl false))
 else(J1 L (z4.1,z4.2.1,z4.2.2.2.1,z4.2.2.2.2.1,(wR (z4.2.2.2.2.2+1)))))else none)
 else(some (Sum.inr (y0,y1)))
theorem Qgv:OfL J1 QbF:=ofL 183 0
def QbS:rL K0:=fun D L (y0,y1,y2,y3,y4,y5,y6,y7,y8)=>
 bif (decide (y8<y7))then(bif inb y8 y6.length then
 (QA D ((rd1 (0:Int) y6 y8),0,1000)).bind fun r1=>
 bif (!r1)then(some (Sum.inl false))
 else(K0 L (y0,y1,y2,y3,y4,y5,y6,y7,(wR (y8+1))))else none)
 else(some (Sum.inr (y0,y1,y2,y3,y4,y5)))
theorem Qgk:OfL K0 QbS:=ofL 183 2
def Qjg:rF Qcn:=fun D L (a0,a1)=>
 (J1 L (a0,a1,a0,(a0.length:Int),0)).bind fun z5=>
 Qp z5 (fun u6=>
 some u6)
 (fun z7=>
 (QA D (z7.2,1,5)).bind fun r8=>
 bif r8 then(some (decide ((z7.1.length:Int)=z7.2)))
 else(some false))
theorem Qvu:OfF Qcn Qjg:=ofF 183
def Qew:rL xz:=fun D L (y0,y1,y2,y3,y4,y5,y6,y7,y8,y9,y10,y11,y12,y13,y14,y15,y16,y17,y18,y19,y20,y21)=>
 bif (decide (y2<y1))then(bif inb y2 y0.length then
 let e1:=(rd1 X9 y0 y2);
 (zL D (y3,y4,y5,y6,y7,y8,y9,y10,y11,y12,y13,y14,y15,y16,y17,y18,y19,y20,y21,e1.1)).bind fun r2=>
 bif (!r2)then(some (Sum.inl false))
 else((QA D (e1.2.1,0,100000)).bind fun r3=>
 bif (!r3)then(some (Sum.inl false))
 else((QA D (e1.2.2.2,0,y18)).bind fun r4=>
 bif (!r4)then(some (Sum.inl false))
 else((xR D (y3,y4,y5,y6,y7,y8,y9,y10,y11,y12,y13,y14,y15,y16,y17,y18,y19,y20,y21,e1.1,e1.2.2.1)).bind fun r5=>
 bif (!decide (r5=y2))then(some (Sum.inl false))
 else(xz L (y0,y1,(wR (y2+1)),y3,y4,y5,y6,y7,y8,y9,y10,y11,y12,y13,y14,y15,y16,y17,y18,y19,y20,y21)))))else none)
 else(some (Sum.inr (y3,y4,y5,y6,y7,y8,y9,y10,y11,y12,y13,y14,y15,y16,y17,y18,y19,y20,y21)))
theorem Qhk:OfL xz Qew:=ofL 184 0
def Qmp:rF Qe3:=fun D L (a0,a1,a2,a3,a4,a5,a6,a7,a8,a9,a10,a11,a12,a13,a14,a15,a16,a17,a18)=>
 (xz L (a14,(a14.length:Int),0,a0,a1,a2,a3,a4,a5,a6,a7,a8,a9,a10,a11,a12,a13,a14,a15,a16,a17,a18)).bind fun z6=>
 Qp z6 (fun u7=>
 some u7)
 (fun z8=>
 (QA D (z8.2.2.2.2.2.2.2.2.2.2.2.2.2.1,1,4)).bind fun r9=>
 bif r9 then(some (decide ((z8.2.2.2.2.2.2.2.2.2.2.2.2.2.2.1.length:Int)<=z8.2.2.2.2.2.2.2.2.2.2.2.2.2.1)))
 else(some false))
theorem Qxe:OfF Qe3 Qmp:=ofF 184
def QcB:rL JT:=fun D L (y0,y1,y2,y3,y4,y5,y6,y7,y8,y9,y10,y11,y12,y13,y14,y15,y16,y17,y18,y19,y20,y21)=>
 bif (decide (y2<y1))then(bif inb y2 y0.length then
 let e1:=(rd1 Zq y0 y2);
 (QA D (e1.1,0,1000)).bind fun r2=>
 bif (!r2)then(some (Sum.inl false))
 else((QA D (e1.2.1,0,100000)).bind fun r3=>
 bif (!r3)then(some (Sum.inl false))
 else((QA D (e1.2.2,0,y20)).bind fun r4=>
 bif (!r4)then(some (Sum.inl false))
 else(JT L (y0,y1,(wR (y2+1)),y3,y4,y5,y6,y7,y8,y9,y10,y11,y12,y13,y14,y15,y16,y17,y18,y19,y20,y21))))else none)
 else(some (Sum.inr (y3,y4,y5,y6,y7,y8,y9,y10,y11,y12,y13,y14,y15,y16,y17,y18,y19,y20,y21)))
theorem QgK:OfL JT QcB:=ofL 185 0
def Qjc:rF Qdd:=fun D L (a0,a1,a2,a3,a4,a5,a6,a7,a8,a9,a10,a11,a12,a13,a14,a15,a16,a17,a18)=>
 (JT L (a18,(a18.length:Int),0,a0,a1,a2,a3,a4,a5,a6,a7,a8,a9,a10,a11,a12,a13,a14,a15,a16,a17,a18)).bind fun z5=>
 Qp z5 (fun u6=>
 some u6)
 (fun z7=>
 some (decide ((z7.2.2.2.2.2.2.2.2.2.2.2.2.2.2.2.2.2.2.length:Int)=5)))
theorem QuM:OfF Qdd Qjc:=ofF 185
def Qki:rF yu:=fun D L (a0,a1,a2,a3,a4)=>
 (QA D (a0,1,1000)).bind fun r1=>
 bif r1 then((QA D (a1,0,1)).bind fun r2=>
 bif r2 then((QA D (a2,0,100000)).bind fun r3=>
 bif r3 then((QA D (a3,0,1000)).bind fun r4=>
 bif r4 then(some (decide (((ByteArray.size a4):Int)<=8)))
 else(some false))
 else(some false))
 else(some false))
 else(some false)
theorem QtQ:OfF yu Qki:=ofF 186
def Qbf:rL JA:=fun D L (y0,y1,y2,y3)=>
 bif (decide (y3<y2))then(bif inb y3 y1.length then
 let e1:=(rd1 XP y1 y3);
 bif (decide (e1.1=y0))then(some (Sum.inl e1.2))
 else(JA L (y0,y1,y2,(wR (y3+1))))else none)
 else(some (Sum.inr ()))
theorem QfO:OfL JA Qbf:=ofL 187 0
def Qkq:rF V4:=fun D L (a0,a1,a2)=>
 (JA L (a2,a1,(a1.length:Int),0)).bind fun z2=>
 Qp z2 (fun u3=>
 some u3)
 (fun z4=>
 some 0)
theorem Qux:OfF V4 Qkq:=ofF 187
def Qji:rF xN:=fun D L (a0,a1,a2,a3)=>
 (Qdo D (a0,a2)).bind fun r1=>
 bif (!r1)then(some false)
 else((vM D (a1,a3)).bind fun r2=>
 bif (!r2)then(some false)
 else(some true))
theorem Qud:OfF xN Qji:=ofF 188
def Ql1:rF QeE:=fun D L (a0,a1,a2,a3)=>
 (qy D (a0,a2)).bind fun r1=>
 bif (!r1)then(some false)
 else(bif (!decide (a1=a3))then(some false)
 else(some true))
theorem Qwy:OfF QeE Ql1:=ofF 189
def Qnw:rF Qic:=fun D L (a0,a1,a2,a3,a4,a5)=>
 bif (!decide (a0=a3))then(some false)
 else(bif (!decide (a1=a4))then(some false)
 else((vT D (a2,a5)).bind fun r1=>
 bif (!r1)then(some false)
 else(some true)))
theorem Qyx:OfF Qic Qnw:=ofF 190
def QaZ:rL qc:=fun D L (y0,y1,y2)=>
 bif (decide (y2<(y0.length:Int)))then(bif inb y2 y0.length then
 bif inb y2 y1.length then
 (qy D ((rd1 ([]:List Int) y0 y2),(rd1 ([]:List Int) y1 y2))).bind fun r1=>
 bif (!r1)then(some (Sum.inl false))
 else(qc L (y0,y1,(wR (y2+1))))else none else none)
 else(some (Sum.inr ()))
theorem Qfs:OfL qc QaZ:=ofL 191 0
def Qkj:rF Qdx:=fun D L (a0,a1)=>
 bif (!decide ((a0.length:Int)=(a1.length:Int)))then(some false)
 else((qc L (a0,a1,0)).bind fun z2=>
 Qp z2 (fun u3=>
 some u3)
 (fun z4=>
 some true))
theorem Qvt:OfF Qdx Qkj:=ofF 191
def Qbz:rL ql:=fun D L (y0,y1,y2)=>
 bif (decide (y2<(y0.length:Int)))then(bif inb y2 y0.length then
 let e1:=(rd1 X9 y0 y2);
 bif inb y2 y1.length then
 let e2:=(rd1 X9 y1 y2);
 (QeC D (e1.1,e1.2.1,e1.2.2.1,e1.2.2.2,e2)).bind fun r3=>
 bif (!r3)then(some (Sum.inl false))
 else(ql L (y0,y1,(wR (y2+1))))else none else none)
 else(some (Sum.inr ()))
theorem Qf0:OfL ql Qbz:=ofL 192 0
def QiI:rF Qck:=fun D L (a0,a1)=>
 bif (!decide ((a0.length:Int)=(a1.length:Int)))then(some false)
 else((ql L (a0,a1,0)).bind fun z4=>
 Qp z4 (fun u5=>
 some u5)
 (fun z6=>
 some true))
theorem Quj:OfF Qck QiI:=ofF 192
def QcM:rL J6:=fun D L (y0,y1,y2)=>
 bif (decide (y2<(y0.length:Int)))then(bif inb y2 y0.length then
 let e1:=(rd1 Zq y0 y2);
 bif inb y2 y1.length then
 let e2:=(rd1 Zq y1 y2);
 (Qe8 D (e1.1,e1.2.1,e1.2.2,e2)).bind fun r3=>
 bif (!r3)then(some (Sum.inl false))
 else(J6 L (y0,y1,(wR (y2+1))))else none else none)
 else(some (Sum.inr ()))
theorem Qf5:OfL J6 QcM:=ofL 193 0
def Qjr:rF Qda:=fun D L (a0,a1)=>
 bif (!decide ((a0.length:Int)=(a1.length:Int)))then(some false)
 else((J6 L (a0,a1,0)).bind fun z4=>
 Qp z4 (fun u5=>
 some u5)
 (fun z6=>
 some true))
theorem QuC:OfF Qda Qjr:=ofF 193
def Qdm:rL qu:=fun D L (y0,y1,y2)=>
 bif (decide (y2<(y0.length:Int)))then(bif inb y2 y0.length then
 bif inb y2 y1.length then
 bif (!decide ((rd1 (0:Int) y0 y2)=(rd1 (0:Int) y1 y2)))then(some (Sum.inl false))
 else(qu L (y0,y1,(wR (y2+1))))else none else none)
 else(some (Sum.inr ()))
theorem Qgl:OfL qu Qdm:=ofL 194 0
def Qkg:rF QcA:=fun D L (a0,a1)=>
 bif (!decide ((a0.length:Int)=(a1.length:Int)))then(some false)
 else((qu L (a0,a1,0)).bind fun z1=>
 Qp z1 (fun u2=>
 some u2)
 (fun z3=>
 some true))
theorem Qve:OfF QcA Qkg:=ofF 194
def QlY:rF Ks:=fun D L (a0,a1)=>
 bif fits (List.length ([]:List Int)+a0.length) 8 then
 some ((([]:List Int)++a0),a1)else none
theorem Qv3:OfF Ks QlY:=ofF 195
def Qd8:rL xK:=fun D L (y0,y1,y2,y3,y4,y5,y6)=>
 bif (decide (y0<(y3.length:Int)))then(bif inb y0 y3.length then
 let e1:=(rd1 Y9 y3 y0);
 (Z2 D e1).bind fun r2=>
 bif fits (y6.length+ [r2].length) 48 then
 xK L ((wR (y0+1)),y1,y2,y3,y4,y5,(y6++[r2]))else none else none)
 else(some (y4,y5,y6))
theorem QhL:OfL xK Qd8:=ofL 196 0
def Qli:rF zI:=fun D L (a0,a1,a2)=>
 (xK L (0,a0,a1,a2,a0,a1,[])).bind fun z3=>
 some z3
theorem Qwg:OfF zI Qli:=ofF 196
def Qd7:rL xl:=fun D L (y0,y1,y2)=>
 bif (decide (y1<(y0.length:Int)))then(bif inb y1 y0.length then
 bif fits (List.length ([]:List Int)+List.length (rd1 ([]:List Int) y0 y1)) 8 then
 bif fits (y2.length+List.length ([(([]:List Int)++(rd1 ([]:List Int) y0 y1))]:List (List Int))) 24 then
 xl L (y0,(wR (y1+1)),(y2++([(([]:List Int)++(rd1 ([]:List Int) y0 y1))]:List (List Int))))else none else none else none)
 else(some y2)
theorem QhG:OfL xl Qd7:=ofL 197 0
def Qme:rF vr:=fun D L a0=>
 (xl L (a0,0,[])).bind fun z1=>
 some z1
theorem Qv2:OfF vr Qme:=ofF 197
def QbH:rL J7:=fun D L (y0,y1,y2,y3)=>
 bif (decide (y1<(y2.length:Int)))then(bif inb y1 y2.length then
 let e1:=(rd1 XV y2 y1);
 bif (decide (e1.1=y0))then(bif inb y1 y2.length then
 let e2:=(rd1 XV y2 y1);
 some (Sum.inl (true,e2.2))else none)
 else(J7 L (y0,(wR (y1+1)),y2,y3))else none)
 else(some (Sum.inr ()))
theorem QgH:OfL J7 QbH:=ofL 198 0
def Qke:rF YH:=fun D L (a0,a1,a2)=>
 (J7 L (a2,0,a0,a1)).bind fun z3=>
 Qp z3 (fun u4=>
 some (u4.2.1,u4.2.2.1,u4.2.2.2.1,u4.2.2.2.2.1,u4.2.2.2.2.2,u4.1))
 (fun z5=>
 some (0,0,0,0,ByteArray.empty,false))
theorem QuF:OfF YH Qke:=ofF 198
def Qkd:rL xD:=fun D L (y0,y1,y2,y3)=>
 bif (decide (y0<(y1.length:Int)))then(bif inb y0 y1.length then
 let e2:=(rd1 XV y1 y0);
 bif (decide (e2.2.2.1=0))then(bif inb y0 y1.length then
 let e3:=(rd1 XV y1 y0);
 bif fits (y3.length+ [e3].length) 56 then
 xD L ((wR (y0+1)),y1,y2,(y3++[e3]))else none else none)
 else(xD L ((wR (y0+1)),y1,y2,y3))else none)
 else(some y3)
theorem QlP:OfL xD Qkd:=ofL 199 0
def Qps:rF QlW:=fun D L (a0,a1)=>
 (XA D (a0,a1)).bind fun r1=>
 bif (!r1)then(some [])
 else((xD L (0,a0,a1,[])).bind fun z4=>
 some z4)
theorem QzG:OfF QlW Qps:=ofF 199
def Qkb:rF Qbs:=fun D L (a0,a1,a2,a3,a4)=>
 bif (decide (a2=0))then((QBo D (a0,a1,a3)).bind fun r1=>
 some r1)
 else(bif (decide (a2=1))then((Qc0 D (a0,a1,a3)).bind fun r2=>
 some r2)
 else(bif (decide (a2=2))then((QBE D (a0,a1,a3,a4)).bind fun r3=>
 some r3)
 else((QzE D (a0,a1,a3)).bind fun r4=>
 some r4)))
theorem Qtz:OfF Qbs Qkb:=ofF 200
def QlB:rF QeJ:=fun D L (a0,a1,a2,a3,a4)=>
 (zI D (a0,a1,a2)).bind fun r1=>
 (Vr D (a0,a1,a2)).bind fun r2=>
 bif (!r2)then(some (r1.1,r1.2.1,r1.2.2,false))
 else((XA D (a3,a4)).bind fun r3=>
 bif (!r3)then(some (r1.1,r1.2.1,r1.2.2,false))
 else(bif (decide ((wR (a1+(a2.length:Int)))=100000))then(some (r1.1,r1.2.1,r1.2.2,false))
 else((Z2 D (a3,a4)).bind fun r4=>
 bif fits (r1.2.2.length+ [r4].length) 48 then
 bif (decide (r1.1<((List.length (r1.2.2++[r4])):Int)))then(bif decide ((0:Int)<=1/\1<=(((List.length (r1.2.2++[r4])):Int):Int)/\((List.length (r1.2.2++[r4])):Int)<=((List.length (r1.2.2++[r4])):Int))then
 bif fits (List.length ([]:List Qi)+List.length (List.take (Int.toNat (((List.length (r1.2.2++[r4])):Int) - 1)) (List.drop (Int.toNat 1) (r1.2.2++[r4])))) 48 then
 some (r1.1,(wR (r1.2.1+1)),(([]:List Qi)++List.take (Int.toNat (((List.length (r1.2.2++[r4])):Int) - 1)) (List.drop (Int.toNat 1) (r1.2.2++[r4]))),true)else none else none)
 else(some (r1.1,r1.2.1,(r1.2.2++[r4]),true))else none)))
theorem Qv4:OfF QeJ QlB:=ofF 201
def QcU:rL ZR:=fun D L (y0,y1,y2,y3,y4,y5,y6,y7,y8,y9,y10,y11,y12,y13,y14,y15,y16,y17,y18,y19,y20,y21,y22,y23,y24,y25,y26,y27,y28,y29,y30,y31,y32,y33,y34,y35,y36,y37,y38)=>
 bif (decide (y0<(y22.length:Int)))then(bif inb y0 y22.length then
 let e7:=(rd1 XV y22 y0);
 bif inb e7.1 y38.length then
 let e8:=(rd1 Zq y38 e7.1);
 bif (decide (e8.1<e7.2.1))then(bif inb e7.1 y38.length then
 let l9:=List.set y38 (Int.toNat e7.1) (e7.2.1,e7.2.2.2.1,y18);
 ZR L ((wR (y0+1)),y1,y2,y3,y4,y5,y6,y7,y8,y9,y10,y11,y12,y13,y14,y15,y16,y17,y18,y19,y20,y21,y22,y23,y24,y25,y26,y27,y28,y29,y30,y31,y32,y33,y34,y35,y36,y37,l9)else none)
 else(bif (decide (e7.2.1=e8.1))then(bif (decide (e8.2.1<e7.2.2.2.1))then(bif inb e7.1 y38.length then
 let l10:=List.set y38 (Int.toNat e7.1) (e7.2.1,e7.2.2.2.1,y18);
 ZR L ((wR (y0+1)),y1,y2,y3,y4,y5,y6,y7,y8,y9,y10,y11,y12,y13,y14,y15,y16,y17,y18,y19,y20,y21,y22,y23,y24,y25,y26,y27,y28,y29,y30,y31,y32,y33,y34,y35,y36,y37,l10)else none)
 else(ZR L ((wR (y0+1)),y1,y2,y3,y4,y5,y6,y7,y8,y9,y10,y11,y12,y13,y14,y15,y16,y17,y18,y19,y20,y21,y22,y23,y24,y25,y26,y27,y28,y29,y30,y31,y32,y33,y34,y35,y36,y37,y38)))
 else(ZR L ((wR (y0+1)),y1,y2,y3,y4,y5,y6,y7,y8,y9,y10,y11,y12,y13,y14,y15,y16,y17,y18,y19,y20,y21,y22,y23,y24,y25,y26,y27,y28,y29,y30,y31,y32,y33,y34,y35,y36,y37,y38)))else none else none)
 else(some (y20,y21,y22,y23,y24,y25,y26,y27,y28,y29,y30,y31,y32,y33,y34,y35,y36,y37,y38))
theorem Qgd:OfL ZR QcU:=ofL 202 0
def QjK:rF xd:=fun D L (a0,a1,a2,a3,a4,a5,a6,a7,a8,a9,a10,a11,a12,a13,a14,a15,a16,a17,a18,a19,a20)=>
 (Xr D (a0,a1,a2,a3,a4,a5,a6,a7,a8,a9,a10,a11,a12,a13,a14,a15,a16,a17,a18)).bind fun r1=>
 (Yr D (a2,a3,a19,a20)).bind fun r2=>
 (xy D r2).bind fun r3=>
 (K9 D (a11,a0,r3)).bind fun r4=>
 (Qct D (r2.1,r2.2,r4)).bind fun r5=>
 (zJ D r5).bind fun r6=>
 (ZR L (0,a0,a1,a2,a3,a4,a5,a6,a7,a8,a9,a10,a11,a12,a13,a14,a15,a16,a17,a18,r1.1,r1.2.1,r5.1,r5.2,r6.1,r6.2,r1.2.2.2.2.2.2.1,r1.2.2.2.2.2.2.2.1,r1.2.2.2.2.2.2.2.2.1,r1.2.2.2.2.2.2.2.2.2.1,r1.2.2.2.2.2.2.2.2.2.2.1,r4,r1.2.2.2.2.2.2.2.2.2.2.2.2)).bind fun z11=>
 some z11
theorem Qt2:OfF xd QjK:=ofF 202
def QhK:rF Z7:=fun D L (a0,a1)=>
 (ZI D a0).bind fun r1=>
 some (r1,a1)
theorem QsV:OfF Z7 QhK:=ofF 203
def Qc4:rL JB:=fun D L (y0,y1,y2,y3,y4,y5)=>
 bif (decide (y2<y1))then(bif inb y2 y0.length then
 let e1:=(rd1 Y9 y0 y2);
 (X2 D e1).bind fun r2=>
 bif fits (y5.length+ [r2].length) 48 then
 JB L (y0,y1,(wR (y2+1)),y3,y4,(y5++[r2]))else none else none)
 else(some (y3,y4,y5))
theorem QgG:OfL JB Qc4:=ofL 204 0
def QiV:rF KE:=fun D L (a0,a1,a2)=>
 (JB L (a2,(a2.length:Int),0,a0,a1,[])).bind fun z3=>
 some z3
theorem Qtk:OfF KE QiV:=ofF 204
def Qhu:rF ZI:=fun D L a0=>
 bif fits (List.length ([]:List Int)+a0.length) 8 then
 some (([]:List Int)++a0)else none
theorem Qsr:OfF ZI Qhu:=ofF 205
def j7:rL Vk:=fun D L (y0,y1,y2,y3)=>
 bif (decide (y2<y1))then(bif inb y2 y0.length then
 (ZI D (rd1 ([]:List Int) y0 y2)).bind fun r1=>
 bif fits (y3.length+List.length ([r1]:List (List Int))) 24 then
 Vk L (y0,y1,(wR (y2+1)),(y3++([r1]:List (List Int))))else none else none)
 else(some y3)
theorem QaU:OfL Vk j7:=ofL 206 0
def QfJ:rF xG:=fun D L a0=>
 (Vk L (a0,(a0.length:Int),0,[])).bind fun z2=>
 some z2
theorem Qrq:OfF xG QfJ:=ofF 206
def Qbm:rL JY:=fun D L (y0,y1,y2,y3)=>
 bif (decide (y3<y2))then(bif inb y3 y1.length then
 let e1:=(rd1 XV y1 y3);
 bif (decide (e1.1=y0))then(some (Sum.inl (true,e1.2)))
 else(JY L (y0,y1,y2,(wR (y3+1))))else none)
 else(some (Sum.inr ()))
theorem QfB:OfL JY Qbm:=ofL 207 0
def Qkn:rF VP:=fun D L (a0,a1,a2)=>
 (JY L (a2,a0,(a0.length:Int),0)).bind fun z2=>
 Qp z2 (fun u3=>
 some (u3.2.1,u3.2.2.1,u3.2.2.2.1,u3.2.2.2.2.1,u3.2.2.2.2.2,u3.1))
 (fun z4=>
 some (0,0,0,0,ByteArray.empty,false))
theorem Quo:OfF VP Qkn:=ofF 207
def QjW:rL xr:=fun D L (y0,y1,y2,y3)=>
 bif (decide (y2<y1))then(bif inb y2 y0.length then
 let e2:=(rd1 XV y0 y2);
 bif (decide (e2.2.2.1=0))then(bif fits (y3.length+ [e2].length) 56 then
 xr L (y0,y1,(wR (y2+1)),(y3++[e2]))else none)
 else(xr L (y0,y1,(wR (y2+1)),y3))else none)
 else(some y3)
theorem Qlg:OfL xr QjW:=ofL 208 0
def QpD:rF Qmb:=fun D L (a0,a1)=>
 (Xs D (a0,a1)).bind fun r1=>
 bif (!r1)then(some [])
 else((xr L (a0,(a0.length:Int),0,[])).bind fun z3=>
 some z3)
theorem Qzm:OfF Qmb QpD:=ofF 208
def Qn0:rF Qh5:=fun D L (a0,a1,a2,a3,a4)=>
 bif (decide (a2=0))then((QAQ D (a0,a1,a3)).bind fun r1=>
 some r1)
 else(bif (decide (a2=1))then((Qcd D (a0,a1,a3)).bind fun r2=>
 some r2)
 else(bif (decide (a2=2))then((QCF D (a0,a1,a3,a4)).bind fun r3=>
 some r3)
 else((QAb D (a0,a1,a3)).bind fun r4=>
 some r4)))
theorem QyK:OfF Qh5 Qn0:=ofF 209
def QlJ:rF Qfg:=fun D L (a0,a1,a2,a3,a4)=>
 (KE D (a0,a1,a2)).bind fun r1=>
 (YB D (a0,a1,a2)).bind fun r2=>
 bif (!r2)then(some (r1.1,r1.2.1,r1.2.2,false))
 else((Xs D (a3,a4)).bind fun r3=>
 bif (!r3)then(some (r1.1,r1.2.1,r1.2.2,false))
 else((X2 D (a3,a4)).bind fun r4=>
 bif fits (r1.2.2.length+ [r4].length) 48 then
 bif (decide (a0<((List.length (r1.2.2++[r4])):Int)))then(bif decide ((0:Int)<=1/\1<=(((List.length (r1.2.2++[r4])):Int):Int)/\((List.length (r1.2.2++[r4])):Int)<=((List.length (r1.2.2++[r4])):Int))then
 (YB D (r1.1,(wR (r1.2.1+1)),List.take (Int.toNat (((List.length (r1.2.2++[r4])):Int) - 1)) (List.drop (Int.toNat 1) (r1.2.2++[r4])))).bind fun r5=>
 bif (!r5)then((KE D (a0,a1,a2)).bind fun r6=>
 some (r6.1,r6.2.1,r6.2.2,false))
 else(some (r1.1,(wR (r1.2.1+1)),List.take (Int.toNat (((List.length (r1.2.2++[r4])):Int) - 1)) (List.drop (Int.toNat 1) (r1.2.2++[r4])),true))else none)
 else((YB D (r1.1,r1.2.1,(r1.2.2++[r4]))).bind fun r7=>
 bif (!r7)then((KE D (a0,a1,a2)).bind fun r8=>
 some (r8.1,r8.2.1,r8.2.2,false))
 else(some (r1.1,r1.2.1,(r1.2.2++[r4]),true)))else none))
theorem Qxi:OfF Qfg QlJ:=ofF 210
end
end Go.Proofs.YtiejfnbmficbmaaGreat.M
