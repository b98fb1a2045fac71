/- Plain forms of the functions that FnExactPushAll reaches, part 0. No conditions. -/
import Derived.Test.YtiejfnbmficbmaaGreatFnExactPushAllTab
set_option linter.all false
namespace Go.Proofs.YtiejfnbmficbmaaGreat.M
open Go Go.Eng Go.Proofs
set_option linter.unusedVariables false
noncomputable section
def zV:rF xq:=fun D L (a0,a1,a2)=>
 (QaS D (a0,a1,a2,1048576)).bind fun r1=>
 bif (decide (r1<0))then(some true)
 else((K7 D (a0,a1,a2)).bind fun r2=>
 (Qaz D r2).bind fun r3=>
 (K7 D (a0,a1,a2)).bind fun r4=>
 (xQ D r4).bind fun r5=>
 (YH D (r5.1,r5.2.1,r5.2.2,r3)).bind fun r6=>
 bif (!r6)then(some false)
 else((K7 D (a0,a1,a2)).bind fun r7=>
 (YH D (r4.1,r4.2.1,r4.2.2,r7)).bind fun r8=>
 bif (!r8)then(some false)
 else((KI D (r4.1,r4.2.1,r4.2.2,1)).bind fun r9=>
 bif (decide (r9.1<0))then(some false)
 else((YH D (r5.1,r5.2.1,r5.2.2,r3)).bind fun r10=>
 bif (!r10)then(some false)
 else((KI D (r5.1,r5.2.1,r5.2.2,1)).bind fun r11=>
 (KH D (r11.2.1,r11.2.2.1,r11.2.2.2,1)).bind fun r12=>
 bif (decide (r12<0))then(some false)
 else(bif (!decide (r12=r11.1))then(some false)
 else((K7 D (a0,a1,a2)).bind fun r13=>
 (xQ D r13).bind fun r14=>
 (YH D (r14.1,r14.2.1,r14.2.2,r3)).bind fun r15=>
 bif (!r15)then(some false)
 else((KH D (r11.2.1,r11.2.2.1,r11.2.2.2,1)).bind fun r16=>
 bif (decide (r16<0))then(some false)
 else(bif (!decide (r16=r11.1))then(some false)
 else(some true))))))))))
theorem QjX:OfF xq zV:=ofF 5
def Qip:rF QaS:=fun D L (a0,a1,a2,a3)=>
 (vX D (a0,a3)).bind fun r1=>
 bif (decide (r1<0))then(some (-1))
 else((QbJ D (a1,r1)).bind fun r2=>
 bif (decide (r2<0))then(some (-1))
 else((jZ D (a2,r2)).bind fun r3=>
 bif (decide (r3<0))then(some (-1))
 else(some r3)))
theorem QqN:OfF QaS Qip:=ofF 8
def QgL:rF K7:=fun D L (a0,a1,a2)=>
 (vm D a0).bind fun r1=>
 (vD D a1).bind fun r2=>
 (Qbg D a2).bind fun r3=>
 some (r1,r2,r3)
theorem QqG:OfF K7 QgL:=ofF 10
def Qib:rF YH:=fun D L (a0,a1,a2,a3,a4,a5)=>
 (Qby D (a0,a3)).bind fun r1=>
 bif (!r1)then(some false)
 else((QaF D (a1,a4)).bind fun r2=>
 bif (!r2)then(some false)
 else((Qae D (a2,a5)).bind fun r3=>
 bif (!r3)then(some false)
 else(some true)))
theorem Qq3:OfF YH Qib:=ofF 12
def QeW:rF KI:=fun D L (a0,a1,a2,a3)=>
 (zp D (a0,a3)).bind fun r1=>
 (zq D (a1,r1.1)).bind fun r2=>
 (zo D (a2,r2.1)).bind fun r3=>
 some (r3.1,r1.2,r2.2,r3.2)
theorem QnW:OfF KI QeW:=ofF 15
def QeK:rF KH:=fun D L (a0,a1,a2,a3)=>
 (zR D (a0,a3)).bind fun r1=>
 bif (decide (r1<0))then(some (-1))
 else((zP D (a1,r1)).bind fun r2=>
 bif (decide (r2<0))then(some (-1))
 else((zH D (a2,r2)).bind fun r3=>
 bif (decide (r3<0))then(some (-1))
 else(some r3)))
theorem QnO:OfF KH QeK:=ofF 16
def Qbi:rL Jc:=fun D L (y0,y1,y2,y3,y4,y5,y6)=>
 bif (decide (y0<(y1.length:Int)))then((ZM L (y0,0,y1,y2,y3,y4,y5,y6)).bind fun z6=>
 Jc L ((wR (z6.1+1)),z6.2))
 else(some (y4,y5,y6))
theorem QdC:OfL Jc Qbi:=ofL 17 0
def Qaw:rL ZM:=fun D L (y0,y1,y2,y3,y4,y5,y6,y7)=>
 bif (decide (y1<(y2.length:Int)))then(bif inb y0 y2.length then
 let e3:=(rd1 QO y2 y0);
 (QjD D (e3.1,e3.2.1,e3.2.2.1,e3.2.2.2.1,e3.2.2.2.2.1,e3.2.2.2.2.2.1,e3.2.2.2.2.2.2.1,e3.2.2.2.2.2.2.2.1,e3.2.2.2.2.2.2.2.2.1,e3.2.2.2.2.2.2.2.2.2.1,e3.2.2.2.2.2.2.2.2.2.2.1,e3.2.2.2.2.2.2.2.2.2.2.2.1,e3.2.2.2.2.2.2.2.2.2.2.2.2.1,e3.2.2.2.2.2.2.2.2.2.2.2.2.2.1,e3.2.2.2.2.2.2.2.2.2.2.2.2.2.2.1,e3.2.2.2.2.2.2.2.2.2.2.2.2.2.2.2.1,e3.2.2.2.2.2.2.2.2.2.2.2.2.2.2.2.2.1,e3.2.2.2.2.2.2.2.2.2.2.2.2.2.2.2.2.2.1,e3.2.2.2.2.2.2.2.2.2.2.2.2.2.2.2.2.2.2,y1)).bind fun r4=>
 bif r4.2.2.2.2.2.2.2.2.2.2.2.2 then(bif (decide ((y6.length:Int)<12))then((qV D (r4.1,r4.2.1,r4.2.2.1,r4.2.2.2.1,r4.2.2.2.2.1,r4.2.2.2.2.2.1,r4.2.2.2.2.2.2.1,r4.2.2.2.2.2.2.2.1,r4.2.2.2.2.2.2.2.2.1,r4.2.2.2.2.2.2.2.2.2.1,r4.2.2.2.2.2.2.2.2.2.2.1,r4.2.2.2.2.2.2.2.2.2.2.2.1)).bind fun r5=>
 bif fits (y6.length+ [(y1,r5,false)].length) 40 then
 ZM L (y0,(wR (y1+1)),y2,y3,y4,y5,(y6++[(y1,r5,false)]),y7)else none)
 else(ZM L (y0,(wR (y1+1)),y2,y3,y4,y5,y6,y7)))
 else(ZM L (y0,(wR (y1+1)),y2,y3,y4,y5,y6,y7))else none)
 else(some (y0,y2,y3,y4,y5,y6,y7))
theorem Qea:OfL ZM Qaw:=ofL 17 2
def QgQ:rF Qaz:=fun D L (a0,a1,a2)=>
 (vZ D (a0,a1,a2)).bind fun r1=>
 (vq D (a0,a1,a2)).bind fun r2=>
 bif (!r2)then(some r1)
 else((Jc L (0,a0,a1,a2,r1.1,[],r1.2.2)).bind fun z7=>
 some z7)
theorem Qqb:OfF Qaz QgQ:=ofF 17
def QbP:rL VS:=fun D L (y0,y1,y2,y3,y4,y5,y6,y7,y8)=>
 bif (decide (y2<y1))then(bif inb y2 y0.length then
 let e3:=(rd1 QO y0 y2);
 (YU L (y0,y1,y2,(y3.length:Int),0,y3,y4,y5,y6,y7,y8,e3)).bind fun z6=>
 VS L (z6.1,z6.2.1,(wR (z6.2.2.1+1)),z6.2.2.2)else none)
 else(some (y6,y7,y8))
theorem Qez:OfL VS QbP:=ofL 18 0
def Qa2:rL YU:=fun D L (y0,y1,y2,y3,y4,y5,y6,y7,y8,y9,y10,y11,y12,y13,y14,y15,y16,y17,y18,y19,y20,y21,y22,y23,y24,y25,y26,y27,y28,y29)=>
 bif (decide (y4<y3))then((QjB D (y11,y12,y13,y14,y15,y16,y17,y18,y19,y20,y21,y22,y23,y24,y25,y26,y27,y28,y29,y4)).bind fun r4=>
 bif r4.2.2.2.2.2.2.2.2.2.2.2.2 then((Qjm D (y8,y9,y10,r4.1,r4.2.1,r4.2.2.1,r4.2.2.2.1,r4.2.2.2.2.1,r4.2.2.2.2.2.1,r4.2.2.2.2.2.2.1,r4.2.2.2.2.2.2.2.1,r4.2.2.2.2.2.2.2.2.1,r4.2.2.2.2.2.2.2.2.2.1,r4.2.2.2.2.2.2.2.2.2.2.1,r4.2.2.2.2.2.2.2.2.2.2.2.1)).bind fun r5=>
 YU L (y0,y1,y2,y3,(wR (y4+1)),y5,y6,y7,r5.1,r5.2.1,r5.2.2,y11,y12,y13,y14,y15,y16,y17,y18,y19,y20,y21,y22,y23,y24,y25,y26,y27,y28,y29))
 else(YU L (y0,y1,y2,y3,(wR (y4+1)),y5,y6,y7,y8,y9,y10,y11,y12,y13,y14,y15,y16,y17,y18,y19,y20,y21,y22,y23,y24,y25,y26,y27,y28,y29)))
 else(some (y0,y1,y2,y5,y6,y7,y8,y9,y10))
theorem QeD:OfL YU Qa2:=ofL 18 2
def Qhu:rF xQ:=fun D L (a0,a1,a2)=>
 (zD D (a0,a1,a2)).bind fun r1=>
 (QaQ D (a0,a1,a2)).bind fun r2=>
 bif (!r2)then(some r1)
 else((VS L (a0,(a0.length:Int),0,a0,a1,a2,r1.1,[],r1.2.2)).bind fun z7=>
 some z7)
theorem Qre:OfF xQ Qhu:=ofF 18
def Qcl:rL qj:=fun D L (y0,y1,y2)=>
 bif (decide (y1<(y0.length:Int)))then(bif inb y1 y0.length then
 bif inb y1 y2.length then
 let l1:=List.set y2 (Int.toNat y1) (rd1 (0:Int) y0 y1);
 qj L (y0,(wR (y1+1)),l1)else none else none)
 else(some y2)
theorem Qfm:OfL qj Qcl:=ofL 20 0
def QjJ:rF JI:=fun D L a0=>
 bif (decide ((0:Int)<=(a0.length:Int)/\((a0.length:Int):Int)=(a0.length:Int))&&fits (Int.toNat (a0.length:Int)) 8)then
 (qj L (a0,0,(List.replicate (Int.toNat (a0.length:Int)) 0))).bind fun z2=>
 some z2 else none
theorem QsI:OfF JI QjJ:=ofF 20
def Qcw:rL JR:=fun D L (y0,y1,y2)=>
 bif (decide (y2<(y0.length:Int)))then(bif inb y2 y0.length then
 bif inb y2 y1.length then
 bif (!decide ((rd1 (0:Int) y0 y2)=(rd1 (0:Int) y1 y2)))then(some (Sum.inl false))
 else(JR L (y0,y1,(wR (y2+1))))else none else none)
 else(some (Sum.inr ()))
theorem Qfp:OfL JR Qcw:=ofL 22 0
def Qiz:rF Jz:=fun D L (a0,a1)=>
 bif (!decide ((a0.length:Int)=(a1.length:Int)))then(some false)
 else((JR L (a0,a1,0)).bind fun z1=>
 Qq z1 (fun u2=>
 some u2)
 (fun z3=>
 some true))
theorem Qsr:OfF Jz Qiz:=ofF 22
def js:rL Ys:=fun D L (y0,y1,y2)=>
 bif (decide (y1<(y2.length:Int)))then(bif inb y1 y2.length then
 let l1:=List.set y2 (Int.toNat y1) y0;
 Ys L ((wR (y0+1)),(wR (y1+1)),l1)else none)
 else(some (y0,y2))
theorem QbZ:OfL Ys js:=ofL 23 0
def QfB:rF Kg:=fun D L (a0,a1)=>
 (Ys L (a1,0,a0)).bind fun z2=>
 some z2
theorem Qpp:OfF Kg QfB:=ofF 23
def xJ:rL Vw:=fun D L (y0,y1,y2)=>
 bif (decide (y2<(y0.length:Int)))then(bif inb y2 y0.length then
 let e1:=(rd1 QO y0 y2);
 (QcT D (e1.1,e1.2.1,e1.2.2.1,e1.2.2.2.1,e1.2.2.2.2.1,e1.2.2.2.2.2.1,e1.2.2.2.2.2.2.1,e1.2.2.2.2.2.2.2.1,e1.2.2.2.2.2.2.2.2.1,e1.2.2.2.2.2.2.2.2.2.1,e1.2.2.2.2.2.2.2.2.2.2.1,e1.2.2.2.2.2.2.2.2.2.2.2.1,e1.2.2.2.2.2.2.2.2.2.2.2.2.1,e1.2.2.2.2.2.2.2.2.2.2.2.2.2.1,e1.2.2.2.2.2.2.2.2.2.2.2.2.2.2.1,e1.2.2.2.2.2.2.2.2.2.2.2.2.2.2.2.1,e1.2.2.2.2.2.2.2.2.2.2.2.2.2.2.2.2.1,e1.2.2.2.2.2.2.2.2.2.2.2.2.2.2.2.2.2.1,e1.2.2.2.2.2.2.2.2.2.2.2.2.2.2.2.2.2.2,y1)).bind fun r2=>
 bif (decide (r2<0))then(some (Sum.inl (-1)))
 else(Vw L (y0,r2,(wR (y2+1))))else none)
 else(some (Sum.inr y1))
theorem xP:OfL Vw xJ:=ofL 26 0
def Qhi:rF vX:=fun D L (a0,a1)=>
 bif (decide ((wR (a1 - (a0.length:Int)))<0))then(some (-1))
 else((Vw L (a0,(wR (a1 - (a0.length:Int))),0)).bind fun z3=>
 Qq z3 (fun u4=>
 some u4)
 (fun z5=>
 some z5))
theorem Qqk:OfF vX Qhi:=ofF 26
def xB:rL V7:=fun D L (y0,y1,y2)=>
 bif (decide (y2<(y0.length:Int)))then(bif inb y2 y0.length then
 let e1:=(rd1 Jg y0 y2);
 (QcY D (e1.1,e1.2.1,e1.2.2,y1)).bind fun r2=>
 bif (decide (r2<0))then(some (Sum.inl (-1)))
 else(V7 L (y0,r2,(wR (y2+1))))else none)
 else(some (Sum.inr y1))
theorem zk:OfL V7 xB:=ofL 27 0
def Qie:rF QbJ:=fun D L (a0,a1)=>
 bif (decide ((wR (a1 - (a0.length:Int)))<0))then(some (-1))
 else((V7 L (a0,(wR (a1 - (a0.length:Int))),0)).bind fun z3=>
 Qq z3 (fun u4=>
 some u4)
 (fun z5=>
 some z5))
theorem QpQ:OfF QbJ Qie:=ofF 27
def xF:rL VD:=fun D L (y0,y1,y2)=>
 bif (decide (y2<(y0.length:Int)))then(bif inb y2 y0.length then
 let e1:=(rd1 YT y0 y2);
 (Qdd D (e1.1,e1.2.1,e1.2.2,y1)).bind fun r2=>
 bif (decide (r2<0))then(some (Sum.inl (-1)))
 else(VD L (y0,r2,(wR (y2+1))))else none)
 else(some (Sum.inr y1))
theorem x0:OfL VD xF:=ofL 28 0
def Qh2:rF jZ:=fun D L (a0,a1)=>
 bif (decide ((wR (a1 - (a0.length:Int)))<0))then(some (-1))
 else((VD L (a0,(wR (a1 - (a0.length:Int))),0)).bind fun z3=>
 Qq z3 (fun u4=>
 some u4)
 (fun z5=>
 some z5))
theorem Qru:OfF jZ Qh2:=ofF 28
def j6:rL Jq:=fun D L (y0,y1,y2,y3,y4)=>
 bif (decide (y1<y0))then(bif inb y1 y2.length then
 let e2:=(rd1 QO y2 y1);
 (Jv D e2).bind fun r3=>
 bif (!r3)then(some (Sum.inl false))
 else(bif inb y1 y2.length then
 let e4:=(rd1 QO y2 y1);
 bif (!decide (e4.2.1=y0))then(some (Sum.inl false))
 else(bif inb y1 y2.length then
 let e5:=(rd1 QO y2 y1);
 bif (!decide (e5.1=y1))then(some (Sum.inl false))
 else(Jq L (y0,(wR (y1+1)),y2,y3,y4))else none)else none)else none)
 else(some (Sum.inr (y0,y2,y3,y4)))
theorem QdO:OfL Jq j6:=ofL 29 0
def Qay:rL V5:=fun D L (y0,y1,y2,y3,y4)=>
 bif (decide (y1<(y3.length:Int)))then(bif inb y1 y3.length then
 let e9:=(rd1 Jg y3 y1);
 (QH D (e9.1,0,(wR (y0 - 1)))).bind fun r10=>
 bif (!r10)then(some (Sum.inl false))
 else(V5 L (y0,(wR (y1+1)),y2,y3,y4))else none)
 else(some (Sum.inr (y0,y2,y3,y4)))
theorem Qem:OfL V5 Qay:=ofL 29 2
def Qbd:rL Vu:=fun D L (y0,y1,y2,y3,y4)=>
 bif (decide (y1<(y4.length:Int)))then(bif inb y1 y4.length then
 let e14:=(rd1 YT y4 y1);
 (QH D (e14.1,0,(wR (y0 - 1)))).bind fun r15=>
 bif (!r15)then(some (Sum.inl false))
 else(bif inb y1 y4.length then
 let e16:=(rd1 YT y4 y1);
 (Zs D e16.2).bind fun r17=>
 bif (!r17)then(some (Sum.inl false))
 else(Vu L (y0,(wR (y1+1)),y2,y3,y4))else none)else none)
 else(some (Sum.inr ()))
theorem QdL:OfL Vu Qbd:=ofL 29 4
def Qg0:rF vq:=fun D L (a0,a1,a2)=>
 (QH D ((a0.length:Int),1,5)).bind fun r1=>
 bif (!r1)then(some false)
 else(bif (decide (12<(a1.length:Int)))then(some false)
 else(bif (decide (40<(a2.length:Int)))then(some false)
 else((Jq L ((a0.length:Int),0,a0,a1,a2)).bind fun z6=>
 Qq z6 (fun u7=>
 some u7)
 (fun z8=>
 (V5 L (z8.1,0,z8.2)).bind fun z11=>
 Qq z11 (fun u12=>
 some u12)
 (fun z13=>
 (Vu L (z13.1,0,z13.2)).bind fun z18=>
 Qq z18 (fun u19=>
 some u19)
 (fun z20=>
 some true))))))
theorem Qqr:OfF vq Qg0:=ofF 29
def QbS:rL Jd:=fun D L (y0,y1,y2)=>
 bif (decide (y1<(y0.length:Int)))then(bif inb y1 y0.length then
 let e1:=(rd1 QO y0 y1);
 (Qc8 D e1).bind fun r2=>
 bif inb y1 y2.length then
 let l3:=List.set y2 (Int.toNat y1) r2;
 Jd L (y0,(wR (y1+1)),l3)else none else none)
 else(some y2)
theorem Qex:OfL Jd QbS:=ofL 31 0
def Qhp:rF vm:=fun D L a0=>
 bif (decide ((0:Int)<=(a0.length:Int)/\((a0.length:Int):Int)=(a0.length:Int))&&fits (Int.toNat (a0.length:Int)) 296)then
 (Jd L (a0,0,(List.replicate (Int.toNat (a0.length:Int)) (0,0,[],[],[],0,0,0,[],[],[],[],0,0,[],0,0,0,[])))).bind fun z4=>
 some z4 else none
theorem QpN:OfF vm Qhp:=ofF 31
def j9:rL VK:=fun D L (y0,y1,y2)=>
 bif (decide (y1<(y0.length:Int)))then(bif inb y1 y0.length then
 let e1:=(rd1 Jg y0 y1);
 (Qdq D e1).bind fun r2=>
 bif inb y1 y2.length then
 let l3:=List.set y2 (Int.toNat y1) r2;
 VK L (y0,(wR (y1+1)),l3)else none else none)
 else(some y2)
theorem Qdz:OfL VK j9:=ofL 32 0
def QgK:rF vD:=fun D L a0=>
 bif (decide ((0:Int)<=(a0.length:Int)/\((a0.length:Int):Int)=(a0.length:Int))&&fits (Int.toNat (a0.length:Int)) 40)then
 (VK L (a0,0,(List.replicate (Int.toNat (a0.length:Int)) (0,[],false)))).bind fun z4=>
 some z4 else none
theorem Qq9:OfF vD QgK:=ofF 32
def Qa4:rL V3:=fun D L (y0,y1,y2)=>
 bif (decide (y1<(y0.length:Int)))then(bif inb y1 y0.length then
 let e1:=(rd1 YT y0 y1);
 (QcV D e1).bind fun r2=>
 bif inb y1 y2.length then
 let l3:=List.set y2 (Int.toNat y1) r2;
 V3 L (y0,(wR (y1+1)),l3)else none else none)
 else(some y2)
theorem Qd0:OfL V3 Qa4:=ofL 33 0
def QhZ:rF Qbg:=fun D L a0=>
 bif (decide ((0:Int)<=(a0.length:Int)/\((a0.length:Int):Int)=(a0.length:Int))&&fits (Int.toNat (a0.length:Int)) 56)then
 (V3 L (a0,0,(List.replicate (Int.toNat (a0.length:Int)) (0,[],[])))).bind fun z4=>
 some z4 else none
theorem Qqq:OfF Qbg QhZ:=ofF 33
def Qa7:rL Jl:=fun D L (y0,y1,y2,y3,y4,y5)=>
 bif (decide (y2<y1))then(bif inb y2 y0.length then
 let e2:=(rd1 QO y0 y2);
 (Kz D e2).bind fun r3=>
 bif (!r3)then(some (Sum.inl false))
 else(bif (!decide (e2.2.1=(y3.length:Int)))then(some (Sum.inl false))
 else(bif (!decide (e2.1=y2))then(some (Sum.inl false))
 else(Jl L (y0,y1,(wR (y2+1)),y3,y4,y5))))else none)
 else(some (Sum.inr (y3,y4,y5)))
theorem QeJ:OfL Jl Qa7:=ofL 35 0
def j0:rL VH:=fun D L (y0,y1,y2,y3,y4,y5)=>
 bif (decide (y2<y1))then(bif inb y2 y0.length then
 let e7:=(rd1 Jg y0 y2);
 (zi D (y3,y4,y5,e7.1)).bind fun r8=>
 bif (!r8)then(some (Sum.inl false))
 else(VH L (y0,y1,(wR (y2+1)),y3,y4,y5))else none)
 else(some (Sum.inr (y3,y4,y5)))
theorem Qe0:OfL VH j0:=ofL 35 2
def Qau:rL Je:=fun D L (y0,y1,y2,y3,y4,y5)=>
 bif (decide (y2<y1))then(bif inb y2 y0.length then
 let e12:=(rd1 YT y0 y2);
 (zi D (y3,y4,y5,e12.1)).bind fun r13=>
 bif (!r13)then(some (Sum.inl false))
 else((XT D e12.2).bind fun r14=>
 bif (!r14)then(some (Sum.inl false))
 else(Je L (y0,y1,(wR (y2+1)),y3,y4,y5)))else none)
 else(some (Sum.inr ()))
theorem Qeq:OfL Je Qau:=ofL 35 4
def QhF:rF QaQ:=fun D L (a0,a1,a2)=>
 (QA D ((a0.length:Int),1,5)).bind fun r1=>
 bif (!r1)then(some false)
 else(bif (decide (12<(a1.length:Int)))then(some false)
 else(bif (decide (40<(a2.length:Int)))then(some false)
 else((Jl L (a0,(a0.length:Int),0,a0,a1,a2)).bind fun z4=>
 Qq z4 (fun u5=>
 some u5)
 (fun z6=>
 (VH L (z6.2.1,(z6.2.1.length:Int),0,z6)).bind fun z9=>
 Qq z9 (fun u10=>
 some u10)
 (fun z11=>
 (Je L (z11.2.2,(z11.2.2.length:Int),0,z11)).bind fun z15=>
 Qq z15 (fun u16=>
 some u16)
 (fun z17=>
 some true))))))
theorem Qpx:OfF QaQ QhF:=ofF 35
def Qas:rL Vy:=fun D L (y0,y1,y2)=>
 bif (decide (y2<(y0.length:Int)))then(bif inb y2 y0.length then
 let e1:=(rd1 QO y0 y2);
 bif inb y2 y1.length then
 let e2:=(rd1 QO y1 y2);
 (Qc0 D (e1.1,e1.2.1,e1.2.2.1,e1.2.2.2.1,e1.2.2.2.2.1,e1.2.2.2.2.2.1,e1.2.2.2.2.2.2.1,e1.2.2.2.2.2.2.2.1,e1.2.2.2.2.2.2.2.2.1,e1.2.2.2.2.2.2.2.2.2.1,e1.2.2.2.2.2.2.2.2.2.2.1,e1.2.2.2.2.2.2.2.2.2.2.2.1,e1.2.2.2.2.2.2.2.2.2.2.2.2.1,e1.2.2.2.2.2.2.2.2.2.2.2.2.2.1,e1.2.2.2.2.2.2.2.2.2.2.2.2.2.2.1,e1.2.2.2.2.2.2.2.2.2.2.2.2.2.2.2.1,e1.2.2.2.2.2.2.2.2.2.2.2.2.2.2.2.2.1,e1.2.2.2.2.2.2.2.2.2.2.2.2.2.2.2.2.2.1,e1.2.2.2.2.2.2.2.2.2.2.2.2.2.2.2.2.2.2,e2)).bind fun r3=>
 bif (!r3)then(some (Sum.inl false))
 else(Vy L (y0,y1,(wR (y2+1))))else none else none)
 else(some (Sum.inr ()))
theorem QdQ:OfL Vy Qas:=ofL 36 0
def QhO:rF Qby:=fun D L (a0,a1)=>
 bif (!decide ((a0.length:Int)=(a1.length:Int)))then(some false)
 else((Vy L (a0,a1,0)).bind fun z4=>
 Qq z4 (fun u5=>
 some u5)
 (fun z6=>
 some true))
theorem QqS:OfF Qby QhO:=ofF 36
def QaW:rL V4:=fun D L (y0,y1,y2)=>
 bif (decide (y2<(y0.length:Int)))then(bif inb y2 y0.length then
 let e1:=(rd1 Jg y0 y2);
 bif inb y2 y1.length then
 let e2:=(rd1 Jg y1 y2);
 (Qda D (e1.1,e1.2.1,e1.2.2,e2)).bind fun r3=>
 bif (!r3)then(some (Sum.inl false))
 else(V4 L (y0,y1,(wR (y2+1))))else none else none)
 else(some (Sum.inr ()))
theorem Qen:OfL V4 QaW:=ofL 37 0
def Qhw:rF QaF:=fun D L (a0,a1)=>
 bif (!decide ((a0.length:Int)=(a1.length:Int)))then(some false)
 else((V4 L (a0,a1,0)).bind fun z4=>
 Qq z4 (fun u5=>
 some u5)
 (fun z6=>
 some true))
theorem Qpv:OfF QaF Qhw:=ofF 37
def QaX:rL VE:=fun D L (y0,y1,y2)=>
 bif (decide (y2<(y0.length:Int)))then(bif inb y2 y0.length then
 let e1:=(rd1 YT y0 y2);
 bif inb y2 y1.length then
 let e2:=(rd1 YT y1 y2);
 (Qdj D (e1.1,e1.2.1,e1.2.2,e2)).bind fun r3=>
 bif (!r3)then(some (Sum.inl false))
 else(VE L (y0,y1,(wR (y2+1))))else none else none)
 else(some (Sum.inr ()))
theorem QeI:OfL VE QaX:=ofL 38 0
def QhB:rF Qae:=fun D L (a0,a1)=>
 bif (!decide ((a0.length:Int)=(a1.length:Int)))then(some false)
 else((VE L (a0,a1,0)).bind fun z4=>
 Qq z4 (fun u5=>
 some u5)
 (fun z6=>
 some true))
theorem QqR:OfF Qae QhB:=ofF 38
def QaY:rL VI:=fun D L (y0,y1,y2,y3,y4,y5,y6)=>
 bif (decide (y0<(y1.length:Int)))then(bif inb y0 y1.length then
 let e1:=(rd1 QO y1 y0);
 (QaD D e1).bind fun r2=>
 bif fits (y4.length+ [r2].length) 296 then
 VI L ((wR (y0+1)),y1,y2,y3,(y4++[r2]),y5,y6)else none else none)
 else(some (y1,y2,y3,y4,y5,y6))
theorem QeT:OfL VI QaY:=ofL 39 0
def vk:rL Ja:=fun D L (y0,y1,y2,y3,y4,y5,y6)=>
 bif (decide (y0<(y2.length:Int)))then(bif inb y0 y2.length then
 let e4:=(rd1 Jg y2 y0);
 (QaN D e4).bind fun r5=>
 bif fits (y5.length+ [r5].length) 40 then
 Ja L ((wR (y0+1)),y1,y2,y3,y4,(y5++[r5]),y6)else none else none)
 else(some (y1,y2,y3,y4,y5,y6))
theorem QdM:OfL Ja vk:=ofL 39 2
def vC:rL VM:=fun D L (y0,y1,y2,y3,y4,y5,y6)=>
 bif (decide (y0<(y3.length:Int)))then(bif inb y0 y3.length then
 let e7:=(rd1 YT y3 y0);
 bif inb y0 y3.length then
 let e8:=(rd1 YT y3 y0);
 (KE D e8.2).bind fun r9=>
 bif fits (y6.length+ [(e7.1,r9)].length) 56 then
 VM L ((wR (y0+1)),y1,y2,y3,y4,y5,(y6++[(e7.1,r9)]))else none else none else none)
 else(some (y4,y5,y6))
theorem Qd9:OfL VM vC:=ofL 39 4
def Qik:rF vZ:=fun D L (a0,a1,a2)=>
 (VI L (0,a0,a1,a2,[],[],[])).bind fun z3=>
 (Ja L (0,z3)).bind fun z6=>
 (VM L (0,z6)).bind fun z10=>
 some z10
theorem Qrj:OfF vZ Qik:=ofF 39
def yu:rL Kl:=fun D L (y0,y1,y2,y3,y4,y5,y6,y7,y8)=>
 bif (decide (y2<y1))then(bif inb y2 y0.length then
 let e1:=(rd1 QO y0 y2);
 (yV D e1).bind fun r2=>
 bif fits (y6.length+ [r2].length) 296 then
 Kl L (y0,y1,(wR (y2+1)),y3,y4,y5,(y6++[r2]),y7,y8)else none else none)
 else(some (y3,y4,y5,y6,y7,y8))
theorem QbK:OfL Kl yu:=ofL 41 0
def yi:rL Km:=fun D L (y0,y1,y2,y3,y4,y5,y6,y7,y8)=>
 bif (decide (y2<y1))then(bif inb y2 y0.length then
 let e4:=(rd1 Jg y0 y2);
 (yT D e4).bind fun r5=>
 bif fits (y7.length+ [r5].length) 40 then
 Km L (y0,y1,(wR (y2+1)),y3,y4,y5,y6,(y7++[r5]),y8)else none else none)
 else(some (y3,y4,y5,y6,y7,y8))
theorem vf:OfL Km yi:=ofL 41 2
def zY:rL Kk:=fun D L (y0,y1,y2,y3,y4,y5)=>
 bif (decide (y2<y1))then(bif inb y2 y0.length then
 let e7:=(rd1 YT y0 y2);
 (ZF D e7.2).bind fun r8=>
 bif fits (y5.length+ [(e7.1,r8)].length) 56 then
 Kk L (y0,y1,(wR (y2+1)),y3,y4,(y5++[(e7.1,r8)]))else none else none)
 else(some (y3,y4,y5))
theorem Qa3:OfL Kk zY:=ofL 41 4
def QeR:rF zD:=fun D L (a0,a1,a2)=>
 (Kl L (a0,(a0.length:Int),0,a0,a1,a2,[],[],[])).bind fun z3=>
 (Km L (z3.2.1,(z3.2.1.length:Int),0,z3)).bind fun z6=>
 (Kk L (z6.2.2.1,(z6.2.2.1.length:Int),0,z6.2.2.2)).bind fun z9=>
 some z9
theorem QnK:OfF zD QeR:=ofF 41
end
end Go.Proofs.YtiejfnbmficbmaaGreat.M
