/- Plain forms of the functions that FnExactGiveAll reaches, part 0. No conditions. -/
import Derived.Test.YtiejfnbmficbmaaGreatFnExactGiveAllTab
set_option linter.all false
namespace Go.Proofs.YtiejfnbmficbmaaGreat.M
open Go Go.Eng Go.Proofs
set_option linter.unusedVariables false
noncomputable section
def vG:rF yD:=fun D L (a0,a1,a2,a3)=>
 bif (decide (1048576<(a3.length:Int)))then(some true)
 else((Qdd D (a0,a1,a2,1048576)).bind fun r1=>
 bif (decide (r1<0))then(some true)
 else((Je D (a0,a1,a2)).bind fun r2=>
 (Z3 D a3).bind fun r3=>
 (Qcx D (r2.1,r2.2.1,r2.2.2,r3)).bind fun r4=>
 (Je D (a0,a1,a2)).bind fun r5=>
 (Z3 D a3).bind fun r6=>
 (jO D (r5.1,r5.2.1,r5.2.2,r6)).bind fun r7=>
 (KF D (r7.1,r7.2.1,r7.2.2,r4)).bind fun r8=>
 bif (!r8)then(some false)
 else((Je D (a0,a1,a2)).bind fun r9=>
 (KF D (r5.1,r5.2.1,r5.2.2,r9)).bind fun r10=>
 bif (!r10)then(some false)
 else((Z3 D a3).bind fun r11=>
 (VS D (r6,r11)).bind fun r12=>
 bif (!r12)then(some false)
 else((VV D (r5.1,r5.2.1,r5.2.2,1)).bind fun r13=>
 (Y4 D (r6,r13.1)).bind fun r14=>
 bif (decide (r14.1<0))then(some false)
 else((KF D (r7.1,r7.2.1,r7.2.2,r4)).bind fun r15=>
 bif (!r15)then(some false)
 else((VV D (r7.1,r7.2.1,r7.2.2,1)).bind fun r16=>
 (VX D (r16.2.1,r16.2.2.1,r16.2.2.2,1)).bind fun r17=>
 bif (decide (r17<0))then(some false)
 else(bif (!decide (r17=r16.1))then(some false)
 else((Je D (a0,a1,a2)).bind fun r18=>
 (Z3 D a3).bind fun r19=>
 (jO D (r18.1,r18.2.1,r18.2.2,r19)).bind fun r20=>
 (KF D (r20.1,r20.2.1,r20.2.2,r4)).bind fun r21=>
 bif (!r21)then(some false)
 else((VX D (r16.2.1,r16.2.2.1,r16.2.2.2,1)).bind fun r22=>
 bif (decide (r22<0))then(some false)
 else(bif (!decide (r22=r16.1))then(some false)
 else(some true))))))))))))
theorem Qn7:OfF yD vG:=ofF 7
def QkD:rF Qdd:=fun D L (a0,a1,a2,a3)=>
 (Qcu D (a0,a3)).bind fun r1=>
 bif (decide (r1<0))then(some (-1))
 else((Qdr D (a1,r1)).bind fun r2=>
 bif (decide (r2<0))then(some (-1))
 else((Qd4 D (a2,r2)).bind fun r3=>
 bif (decide (r3<0))then(some (-1))
 else(some r3)))
theorem Qvn:OfF Qdd QkD:=ofF 8
def Qk4:rF Je:=fun D L (a0,a1,a2)=>
 (QcM D a0).bind fun r1=>
 (QdO D a1).bind fun r2=>
 (Qej D a2).bind fun r3=>
 some (r1,r2,r3)
theorem Qw6:OfF Je Qk4:=ofF 10
def Qll:rF KF:=fun D L (a0,a1,a2,a3,a4,a5)=>
 (Qcc D (a0,a3)).bind fun r1=>
 bif (!r1)then(some false)
 else((Qd5 D (a1,a4)).bind fun r2=>
 bif (!r2)then(some false)
 else((Qdo D (a2,a5)).bind fun r3=>
 bif (!r3)then(some false)
 else(some true)))
theorem QvV:OfF KF Qll:=ofF 12
def QhG:rF VV:=fun D L (a0,a1,a2,a3)=>
 (va D (a0,a3)).bind fun r1=>
 (vr D (a1,r1.1)).bind fun r2=>
 (jY D (a2,r2.1)).bind fun r3=>
 some (r3.1,r1.2,r2.2,r3.2)
theorem QsF:OfF VV QhG:=ofF 15
def QgQ:rF VX:=fun D L (a0,a1,a2,a3)=>
 (vq D (a0,a3)).bind fun r1=>
 bif (decide (r1<0))then(some (-1))
 else((j0 D (a1,r1)).bind fun r2=>
 bif (decide (r2<0))then(some (-1))
 else((vd D (a2,r2)).bind fun r3=>
 bif (decide (r3<0))then(some (-1))
 else(some r3)))
theorem QsL:OfF VX QgQ:=ofF 16
def QfC:rL xP:=fun D L (y0,y1,y2)=>
 bif (decide (y1<(y0.length:Int)))then(bif inb y1 y0.length then
 bif inb y1 y2.length then
 let l1:=List.set y2 (Int.toNat y1) (rd1 (0:Int) y0 y1);
 xP L (y0,(wR (y1+1)),l1)else none else none)
 else(some y2)
theorem Qjn:OfL xP QfC:=ofL 20 0
def Qnl:rF Z3:=fun D L a0=>
 bif (decide ((0:Int)<=(a0.length:Int)/\((a0.length:Int):Int)=(a0.length:Int))&&fits (Int.toNat (a0.length:Int)) 8)then
 (xP L (a0,0,(List.replicate (Int.toNat (a0.length:Int)) 0))).bind fun z2=>
 some z2 else none
theorem QyP:OfF Z3 Qnl:=ofF 20
def Qfu:rL xN:=fun D L (y0,y1,y2)=>
 bif (decide (y2<(y0.length:Int)))then(bif inb y2 y0.length then
 bif inb y2 y1.length then
 bif (!decide ((rd1 (0:Int) y0 y2)=(rd1 (0:Int) y1 y2)))then(some (Sum.inl false))
 else(xN L (y0,y1,(wR (y2+1))))else none else none)
 else(some (Sum.inr ()))
theorem QiI:OfL xN Qfu:=ofL 22 0
def Qm1:rF VS:=fun D L (a0,a1)=>
 bif (!decide ((a0.length:Int)=(a1.length:Int)))then(some false)
 else((xN L (a0,a1,0)).bind fun z1=>
 Qn z1 (fun u2=>
 some u2)
 (fun z3=>
 some true))
theorem QyJ:OfF VS Qm1:=ofF 22
def Qbq:rL Kn:=fun D L (y0,y1,y2)=>
 bif (decide (y1<(y2.length:Int)))then(bif inb y1 y2.length then
 let l1:=List.set y2 (Int.toNat y1) y0;
 Kn L ((wR (y0+1)),(wR (y1+1)),l1)else none)
 else(some (y0,y2))
theorem QeT:OfL Kn Qbq:=ofL 23 0
def Qjq:rF Y4:=fun D L (a0,a1)=>
 (Kn L (a1,0,a0)).bind fun z2=>
 some z2
theorem Qt7:OfF Y4 Qjq:=ofF 23
def Qcd:rL K8:=fun D L (y0,y1,y2,y3,y4,y5,y6,y7)=>
 bif (decide (y1<(y0.length:Int)))then(bif inb y1 y0.length then
 bif inb (rd1 (0:Int) y0 y1) y3.length then
 let e4:=(rd1 VH y3 (rd1 (0:Int) y0 y1));
 bif inb e4.1 y5.length then
 let e5:=(rd1 QG y5 e4.1);
 (xr D (e5.1,e5.2.1,(rd1 QG y5 e4.1).2.2.1,(rd1 QG y5 e4.1).2.2.2.1,(rd1 QG y5 e4.1).2.2.2.2.1,e5.2.2.2.2.2.1,e5.2.2.2.2.2.2.1,e5.2.2.2.2.2.2.2.1,(rd1 QG y5 e4.1).2.2.2.2.2.2.2.2.1,(rd1 QG y5 e4.1).2.2.2.2.2.2.2.2.2.1,(rd1 QG y5 e4.1).2.2.2.2.2.2.2.2.2.2.1,(rd1 QG y5 e4.1).2.2.2.2.2.2.2.2.2.2.2.1,e5.2.2.2.2.2.2.2.2.2.2.2.2.1,e5.2.2.2.2.2.2.2.2.2.2.2.2.2.1,(rd1 QG y5 e4.1).2.2.2.2.2.2.2.2.2.2.2.2.2.2.1,e5.2.2.2.2.2.2.2.2.2.2.2.2.2.2.2.1,e5.2.2.2.2.2.2.2.2.2.2.2.2.2.2.2.2.1,e5.2.2.2.2.2.2.2.2.2.2.2.2.2.2.2.2.2.1,(rd1 QG y5 e4.1).2.2.2.2.2.2.2.2.2.2.2.2.2.2.2.2.2.2,e4.2.1)).bind fun r6=>
 bif inb e4.1 y5.length then
 let l7:=List.set y5 (Int.toNat e4.1) (r6.1,r6.2.1,r6.2.2.1,r6.2.2.2.1,r6.2.2.2.2.1,r6.2.2.2.2.2.1,r6.2.2.2.2.2.2.1,r6.2.2.2.2.2.2.2.1,r6.2.2.2.2.2.2.2.2.1,r6.2.2.2.2.2.2.2.2.2.1,r6.2.2.2.2.2.2.2.2.2.2.1,r6.2.2.2.2.2.2.2.2.2.2.2.1,r6.2.2.2.2.2.2.2.2.2.2.2.2.1,r6.2.2.2.2.2.2.2.2.2.2.2.2.2.1,r6.2.2.2.2.2.2.2.2.2.2.2.2.2.2.1,r6.2.2.2.2.2.2.2.2.2.2.2.2.2.2.2.1,r6.2.2.2.2.2.2.2.2.2.2.2.2.2.2.2.2.1,r6.2.2.2.2.2.2.2.2.2.2.2.2.2.2.2.2.2.1,r6.2.2.2.2.2.2.2.2.2.2.2.2.2.2.2.2.2.2.1);
 K8 L (y0,(wR (y1+1)),y2,y3,y4,l7,y6,y7)else none else none else none else none)
 else(some (y5,y6,y7))
theorem QhO:OfL K8 Qcd:=ofL 24 0
def Qj9:rF Qcx:=fun D L (a0,a1,a2,a3)=>
 (Qer D (a0,a1,a2)).bind fun r1=>
 (QdE D (a0,a1,a2)).bind fun r2=>
 bif (!r2)then(some r1)
 else((zM D (a3,(a1.length:Int))).bind fun r3=>
 bif (!r3)then(some r1)
 else((K8 L (a3,0,a0,a1,a2,r1)).bind fun z8=>
 some (z8.1,[],z8.2.2)))
theorem Qva:OfF Qcx Qj9:=ofF 24
def Qeg:rL K1:=fun D L (y0,y1,y2,y3,y4,y5,y6,y7,y8)=>
 bif (decide (y2<y1))then(bif inb y2 y0.length then
 bif inb (rd1 (0:Int) y0 y2) y4.length then
 let e4:=(rd1 VH y4 (rd1 (0:Int) y0 y2));
 bif inb e4.1 y6.length then
 let e5:=(rd1 QG y6 e4.1);
 (xx D (e5.1,e5.2.1,(rd1 QG y6 e4.1).2.2.1,(rd1 QG y6 e4.1).2.2.2.1,(rd1 QG y6 e4.1).2.2.2.2.1,e5.2.2.2.2.2.1,e5.2.2.2.2.2.2.1,e5.2.2.2.2.2.2.2.1,(rd1 QG y6 e4.1).2.2.2.2.2.2.2.2.1,(rd1 QG y6 e4.1).2.2.2.2.2.2.2.2.2.1,(rd1 QG y6 e4.1).2.2.2.2.2.2.2.2.2.2.1,(rd1 QG y6 e4.1).2.2.2.2.2.2.2.2.2.2.2.1,e5.2.2.2.2.2.2.2.2.2.2.2.2.1,e5.2.2.2.2.2.2.2.2.2.2.2.2.2.1,(rd1 QG y6 e4.1).2.2.2.2.2.2.2.2.2.2.2.2.2.2.1,e5.2.2.2.2.2.2.2.2.2.2.2.2.2.2.2.1,e5.2.2.2.2.2.2.2.2.2.2.2.2.2.2.2.2.1,e5.2.2.2.2.2.2.2.2.2.2.2.2.2.2.2.2.2.1,(rd1 QG y6 e4.1).2.2.2.2.2.2.2.2.2.2.2.2.2.2.2.2.2.2,e4.2.1)).bind fun r6=>
 bif inb e4.1 y6.length then
 let l7:=List.set y6 (Int.toNat e4.1) (r6.1,r6.2.1,r6.2.2.1,r6.2.2.2.1,r6.2.2.2.2.1,r6.2.2.2.2.2.1,r6.2.2.2.2.2.2.1,r6.2.2.2.2.2.2.2.1,r6.2.2.2.2.2.2.2.2.1,r6.2.2.2.2.2.2.2.2.2.1,r6.2.2.2.2.2.2.2.2.2.2.1,r6.2.2.2.2.2.2.2.2.2.2.2.1,r6.2.2.2.2.2.2.2.2.2.2.2.2.1,r6.2.2.2.2.2.2.2.2.2.2.2.2.2.1,r6.2.2.2.2.2.2.2.2.2.2.2.2.2.2.1,r6.2.2.2.2.2.2.2.2.2.2.2.2.2.2.2.1,r6.2.2.2.2.2.2.2.2.2.2.2.2.2.2.2.2.1,r6.2.2.2.2.2.2.2.2.2.2.2.2.2.2.2.2.2.1,r6.2.2.2.2.2.2.2.2.2.2.2.2.2.2.2.2.2.2.1);
 K1 L (y0,y1,(wR (y2+1)),y3,y4,y5,l7,y7,y8)else none else none else none else none)
 else(some (y6,y7,y8))
theorem Qh2:OfL K1 Qeg:=ofL 25 0
def QlM:rF jO:=fun D L (a0,a1,a2,a3)=>
 (vc D (a0,a1,a2)).bind fun r1=>
 (QdG D (a0,a1,a2)).bind fun r2=>
 bif (!r2)then(some r1)
 else((zH D (a3,(a1.length:Int))).bind fun r3=>
 bif (!r3)then(some r1)
 else((K1 L (a3,(a3.length:Int),0,a0,a1,a2,r1)).bind fun z8=>
 some (z8.1,[],z8.2.2)))
theorem QvL:OfF jO QlM:=ofF 25
def jc:rL J6:=fun D L (y0,y1,y2)=>
 bif (decide (y2<(y0.length:Int)))then(bif inb y2 y0.length then
 let e1:=(rd1 QG y0 y2);
 (Qgj D (n11T e1 (y1))).bind fun r2=>
 bif (decide (r2<0))then(some (Sum.inl (-1)))
 else(J6 L (y0,r2,(wR (y2+1))))else none)
 else(some (Sum.inr y1))
theorem jL:OfL J6 jc:=ofL 26 0
def Qlx:rF Qcu:=fun D L (a0,a1)=>
 bif (decide ((wR (a1 - (a0.length:Int)))<0))then(some (-1))
 else((J6 L (a0,(wR (a1 - (a0.length:Int))),0)).bind fun z3=>
 Qn z3 (fun u4=>
 some u4)
 (fun z5=>
 some z5))
theorem Qxx:OfF Qcu Qlx:=ofF 26
def yO:rL qH:=fun D L (y0,y1,y2)=>
 bif (decide (y2<(y0.length:Int)))then(bif inb y2 y0.length then
 let e1:=(rd1 VH y0 y2);
 (Qf8 D (e1.1,e1.2.1,e1.2.2,y1)).bind fun r2=>
 bif (decide (r2<0))then(some (Sum.inl (-1)))
 else(qH L (y0,r2,(wR (y2+1))))else none)
 else(some (Sum.inr y1))
theorem jM:OfL qH yO:=ofL 27 0
def Qkb:rF Qdr:=fun D L (a0,a1)=>
 bif (decide ((wR (a1 - (a0.length:Int)))<0))then(some (-1))
 else((qH L (a0,(wR (a1 - (a0.length:Int))),0)).bind fun z3=>
 Qn z3 (fun u4=>
 some u4)
 (fun z5=>
 some z5))
theorem QuW:OfF Qdr Qkb:=ofF 27
def yK:rL qp:=fun D L (y0,y1,y2)=>
 bif (decide (y2<(y0.length:Int)))then(bif inb y2 y0.length then
 let e1:=(rd1 KO y0 y2);
 (Qf5 D (e1.1,e1.2.1,e1.2.2,y1)).bind fun r2=>
 bif (decide (r2<0))then(some (Sum.inl (-1)))
 else(qp L (y0,r2,(wR (y2+1))))else none)
 else(some (Sum.inr y1))
theorem jF:OfL qp yK:=ofL 28 0
def Qmp:rF Qd4:=fun D L (a0,a1)=>
 bif (decide ((wR (a1 - (a0.length:Int)))<0))then(some (-1))
 else((qp L (a0,(wR (a1 - (a0.length:Int))),0)).bind fun z3=>
 Qn z3 (fun u4=>
 some u4)
 (fun z5=>
 some z5))
theorem QuT:OfF Qd4 Qmp:=ofF 28
def QdL:rL qO:=fun D L (y0,y1,y2,y3,y4)=>
 bif (decide (y1<y0))then(bif inb y1 y2.length then
 let e2:=(rd1 QG y2 y1);
 (qV D e2).bind fun r3=>
 bif (!r3)then(some (Sum.inl false))
 else(bif inb y1 y2.length then
 let e4:=(rd1 QG y2 y1);
 bif (!decide (e4.2.1=y0))then(some (Sum.inl false))
 else(bif inb y1 y2.length then
 let e5:=(rd1 QG y2 y1);
 bif (!decide (e5.1=y1))then(some (Sum.inl false))
 else(qO L (y0,(wR (y1+1)),y2,y3,y4))else none)else none)else none)
 else(some (Sum.inr (y0,y2,y3,y4)))
theorem Qhc:OfL qO QdL:=ofL 29 0
def Qd1:rL J4:=fun D L (y0,y1,y2,y3,y4)=>
 bif (decide (y1<(y3.length:Int)))then(bif inb y1 y3.length then
 let e9:=(rd1 VH y3 y1);
 (QL D (e9.1,0,(wR (y0 - 1)))).bind fun r10=>
 bif (!r10)then(some (Sum.inl false))
 else(J4 L (y0,(wR (y1+1)),y2,y3,y4))else none)
 else(some (Sum.inr (y0,y2,y3,y4)))
theorem Qhd:OfL J4 Qd1:=ofL 29 2
def QcB:rL qL:=fun D L (y0,y1,y2,y3,y4)=>
 bif (decide (y1<(y4.length:Int)))then(bif inb y1 y4.length then
 let e14:=(rd1 KO y4 y1);
 (QL D (e14.1,0,(wR (y0 - 1)))).bind fun r15=>
 bif (!r15)then(some (Sum.inl false))
 else(bif inb y1 y4.length then
 let e16:=(rd1 KO y4 y1);
 (Zo D e16.2).bind fun r17=>
 bif (!r17)then(some (Sum.inl false))
 else(qL L (y0,(wR (y1+1)),y2,y3,y4))else none)else none)
 else(some (Sum.inr ()))
theorem Qhy:OfL qL QcB:=ofL 29 4
def Qlu:rF QdE:=fun D L (a0,a1,a2)=>
 (QL D ((a0.length:Int),1,5)).bind fun r1=>
 bif (!r1)then(some false)
 else(bif (decide (12<(a1.length:Int)))then(some false)
 else(bif (decide (40<(a2.length:Int)))then(some false)
 else((qO L ((a0.length:Int),0,a0,a1,a2)).bind fun z6=>
 Qn z6 (fun u7=>
 some u7)
 (fun z8=>
 (J4 L (z8.1,0,z8.2)).bind fun z11=>
 Qn z11 (fun u12=>
 some u12)
 (fun z13=>
 (qL L (z13.1,0,z13.2)).bind fun z18=>
 Qn z18 (fun u19=>
 some u19)
 (fun z20=>
 some true))))))
theorem QwC:OfF QdE Qlu:=ofF 29
def QaX:rL zV:=fun D L (y0,y1,y2,y3,y4,y5,y6,y7,y8,y9,y10,y11,y12,y13,y14,y15,y16,y17,y18)=>
 bif (decide ((wR (y2+1))<(y15.length:Int)))then(bif inb y2 y15.length then
 bif inb (wR (y2+1)) y15.length then
 bif fits (y14.length+ [((rd1 (0:Int) y15 y2),(rd1 (0:Int) y15 (wR (y2+1))))].length) 16 then
 zV L (y0,y1,(wR (y2+2)),y3,y4,y5,y6,y7,y8,y9,y10,y11,y12,y13,(y14++[((rd1 (0:Int) y15 y2),(rd1 (0:Int) y15 (wR (y2+1))))]),y15,y16,y17,y18)else none else none else none)
 else(some (y0,y1,y3,y4,y5,y6,y7,y8,y9,y10,y11,y12,y13,y14,y16,y17,y18))
theorem Qbj:OfL zV QaX:=ofL 30 0
def QoF:rF QjE:=fun D L a0=>
 bif (decide ((a0.length:Int)<6))then(some (0,0,0,0,0,[],0,[],[],[],[],[],false))
 else(bif decide ((0:Int)<=0/\0<=((wR ((a0.length:Int) - 4)):Int)/\(wR ((a0.length:Int) - 4))<=(a0.length:Int))then
 (QaF D (List.take (Int.toNat ((wR ((a0.length:Int) - 4)) - 0)) (List.drop (Int.toNat 0) a0))).bind fun r1=>
 bif decide ((0:Int)<=(wR ((a0.length:Int) - 4))/\(wR ((a0.length:Int) - 4))<=((a0.length:Int):Int)/\(a0.length:Int)<=(a0.length:Int))then
 bif (!X0 (QM r1) (QM (List.take (Int.toNat ((a0.length:Int) - (wR ((a0.length:Int) - 4)))) (List.drop (Int.toNat (wR ((a0.length:Int) - 4))) a0))))then(some (0,0,0,0,0,[],0,[],[],[],[],[],false))
 else(bif decide ((0:Int)<=0/\0<=((wR ((a0.length:Int) - 4)):Int)/\(wR ((a0.length:Int) - 4))<=(a0.length:Int))then
 (Q6 D (List.take (Int.toNat ((wR ((a0.length:Int) - 4)) - 0)) (List.drop (Int.toNat 0) a0),2,false)).bind fun r2=>
 (Q6 D (List.take (Int.toNat ((wR ((a0.length:Int) - 4)) - 0)) (List.drop (Int.toNat 0) a0),r2.2)).bind fun r3=>
 (Q6 D (List.take (Int.toNat ((wR ((a0.length:Int) - 4)) - 0)) (List.drop (Int.toNat 0) a0),r3.2)).bind fun r4=>
 (Q6 D (List.take (Int.toNat ((wR ((a0.length:Int) - 4)) - 0)) (List.drop (Int.toNat 0) a0),r4.2)).bind fun r5=>
 (Q6 D (List.take (Int.toNat ((wR ((a0.length:Int) - 4)) - 0)) (List.drop (Int.toNat 0) a0),r5.2)).bind fun r6=>
 (Za D (List.take (Int.toNat ((wR ((a0.length:Int) - 4)) - 0)) (List.drop (Int.toNat 0) a0),r6.2.1,r6.2.2,1)).bind fun r7=>
 (Q6 D (List.take (Int.toNat ((wR ((a0.length:Int) - 4)) - 0)) (List.drop (Int.toNat 0) a0),r7.2)).bind fun r8=>
 (Za D (List.take (Int.toNat ((wR ((a0.length:Int) - 4)) - 0)) (List.drop (Int.toNat 0) a0),r8.2.1,r8.2.2,1)).bind fun r9=>
 (Za D (List.take (Int.toNat ((wR ((a0.length:Int) - 4)) - 0)) (List.drop (Int.toNat 0) a0),r9.2.1,r9.2.2,1)).bind fun r10=>
 (Q6 D (List.take (Int.toNat ((wR ((a0.length:Int) - 4)) - 0)) (List.drop (Int.toNat 0) a0),r10.2)).bind fun r11=>
 bif r11.2.2 then(some (0,0,0,0,0,[],0,[],[],[],[],[],false))
 else(bif (decide ((wR (((List.length (List.take (Int.toNat ((wR ((a0.length:Int) - 4)) - 0)) (List.drop (Int.toNat 0) a0))):Int) - r11.2.1))<r11.1))then(some (0,0,0,0,0,[],0,[],[],[],[],[],false))
 else(bif decide ((0:Int)<=r11.2.1/\r11.2.1<=((wR (r11.2.1+r11.1)):Int)/\(wR (r11.2.1+r11.1))<=((List.length (List.take (Int.toNat ((wR ((a0.length:Int) - 4)) - 0)) (List.drop (Int.toNat 0) a0))):Int))then
 (Qb5 D (List.take (Int.toNat ((wR (r11.2.1+r11.1)) - r11.2.1)) (List.drop (Int.toNat r11.2.1) (List.take (Int.toNat ((wR ((a0.length:Int) - 4)) - 0)) (List.drop (Int.toNat 0) a0))))).bind fun r12=>
 (Za D (List.take (Int.toNat ((wR ((a0.length:Int) - 4)) - 0)) (List.drop (Int.toNat 0) a0),(wR (r11.2.1+r11.1)),r11.2.2,2)).bind fun r13=>
 (zV L (a0,r12.2.2,0,r2.1,r3.1,r4.1,r5.1,r6.1,r7.1,r8.1,r9.1,r10.1,r12.1,r12.2.1,[],r13.1,List.take (Int.toNat ((wR ((a0.length:Int) - 4)) - 0)) (List.drop (Int.toNat 0) a0),r13.2)).bind fun z14=>
 bif (!z14.2.1)then(some (0,0,0,0,0,[],0,[],[],[],[],[],false))
 else(bif z14.2.2.2.2.2.2.2.2.2.2.2.2.2.2.2.2 then(some (0,0,0,0,0,[],0,[],[],[],[],[],false))
 else((zr D (z14.2.2.1,z14.2.2.2.1,z14.2.2.2.2.1,z14.2.2.2.2.2.1,z14.2.2.2.2.2.2.1,z14.2.2.2.2.2.2.2.1,z14.2.2.2.2.2.2.2.2.1,z14.2.2.2.2.2.2.2.2.2.1,z14.2.2.2.2.2.2.2.2.2.2.1,z14.2.2.2.2.2.2.2.2.2.2.2.1,z14.2.2.2.2.2.2.2.2.2.2.2.2.1,z14.2.2.2.2.2.2.2.2.2.2.2.2.2.1)).bind fun r15=>
 bif (!r15)then(some (0,0,0,0,0,[],0,[],[],[],[],[],false))
 else((Vk D (z14.2.2.1,z14.2.2.2.1,z14.2.2.2.2.1,z14.2.2.2.2.2.1,z14.2.2.2.2.2.2.1,z14.2.2.2.2.2.2.2.1,z14.2.2.2.2.2.2.2.2.1,z14.2.2.2.2.2.2.2.2.2.1,z14.2.2.2.2.2.2.2.2.2.2.1,z14.2.2.2.2.2.2.2.2.2.2.2.1,z14.2.2.2.2.2.2.2.2.2.2.2.2.1,z14.2.2.2.2.2.2.2.2.2.2.2.2.2.1)).bind fun r16=>
 bif (!X0 (QM r16) (QM z14.1))then(some (0,0,0,0,0,[],0,[],[],[],[],[],false))
 else(some (z14.2.2.1,z14.2.2.2.1,z14.2.2.2.2.1,z14.2.2.2.2.2.1,z14.2.2.2.2.2.2.1,z14.2.2.2.2.2.2.2.1,z14.2.2.2.2.2.2.2.2.1,z14.2.2.2.2.2.2.2.2.2.1,z14.2.2.2.2.2.2.2.2.2.2.1,z14.2.2.2.2.2.2.2.2.2.2.2.1,z14.2.2.2.2.2.2.2.2.2.2.2.2.1,z14.2.2.2.2.2.2.2.2.2.2.2.2.2.1,true)))))else none))else none)else none else none)
theorem QAg:OfF QjE QoF:=ofF 30
def QdD:rL qu:=fun D L (y0,y1,y2)=>
 bif (decide (y1<(y0.length:Int)))then(bif inb y1 y0.length then
 let e1:=(rd1 QG y0 y1);
 (QfO D e1).bind fun r2=>
 bif inb y1 y2.length then
 let l3:=List.set y2 (Int.toNat y1) r2;
 qu L (y0,(wR (y1+1)),l3)else none else none)
 else(some y2)
theorem Qh8:OfL qu QdD:=ofL 31 0
def Qkz:rF QcM:=fun D L a0=>
 bif (decide ((0:Int)<=(a0.length:Int)/\((a0.length:Int):Int)=(a0.length:Int))&&fits (Int.toNat (a0.length:Int)) 296)then
 (qu L (a0,0,(List.replicate (Int.toNat (a0.length:Int)) (0,0,[],[],[],0,0,0,[],[],[],[],0,0,[],0,0,0,[])))).bind fun z4=>
 some z4 else none
theorem QvC:OfF QcM Qkz:=ofF 31
def QcS:rL JV:=fun D L (y0,y1,y2)=>
 bif (decide (y1<(y0.length:Int)))then(bif inb y1 y0.length then
 let e1:=(rd1 VH y0 y1);
 (QfW D e1).bind fun r2=>
 bif inb y1 y2.length then
 let l3:=List.set y2 (Int.toNat y1) r2;
 JV L (y0,(wR (y1+1)),l3)else none else none)
 else(some y2)
theorem QhL:OfL JV QcS:=ofL 32 0
def QkL:rF QdO:=fun D L a0=>
 bif (decide ((0:Int)<=(a0.length:Int)/\((a0.length:Int):Int)=(a0.length:Int))&&fits (Int.toNat (a0.length:Int)) 40)then
 (JV L (a0,0,(List.replicate (Int.toNat (a0.length:Int)) (0,[],false)))).bind fun z4=>
 some z4 else none
theorem QwX:OfF QdO QkL:=ofF 32
def Qc0:rL qM:=fun D L (y0,y1,y2)=>
 bif (decide (y1<(y0.length:Int)))then(bif inb y1 y0.length then
 let e1:=(rd1 KO y0 y1);
 (QfZ D e1).bind fun r2=>
 bif inb y1 y2.length then
 let l3:=List.set y2 (Int.toNat y1) r2;
 qM L (y0,(wR (y1+1)),l3)else none else none)
 else(some y2)
theorem QgH:OfL qM Qc0:=ofL 33 0
def Qly:rF Qej:=fun D L a0=>
 bif (decide ((0:Int)<=(a0.length:Int)/\((a0.length:Int):Int)=(a0.length:Int))&&fits (Int.toNat (a0.length:Int)) 56)then
 (qM L (a0,0,(List.replicate (Int.toNat (a0.length:Int)) (0,[],[])))).bind fun z4=>
 some z4 else none
theorem Qxb:OfF Qej Qly:=ofF 33
def Qil:rL JR:=fun D L (y0,y1,y2,y3,y4,y5,y6,y7,y8,y9,y10,y11,y12,y13,y14,y15,y16,y17)=>
 bif (decide (y2<y1))then((QE D (y15,y16,y17)).bind fun r13=>
 (QE D (y15,r13.2)).bind fun r14=>
 bif fits (y14.length+ [(r13.1,r14.1)].length) 16 then
 JR L (y0,y1,(wR (y2+1)),y3,y4,y5,y6,y7,y8,y9,y10,y11,y12,y13,(y14++[(r13.1,r14.1)]),y15,r14.2)else none)
 else(some (y0,y3,y4,y5,y6,y7,y8,y9,y10,y11,y12,y13,y14,y15,y16,y17))
theorem Qlb:OfL JR Qil:=ofL 34 0
def Qo6:rF QjI:=fun D L a0=>
 bif (decide ((wR ((a0.length:Int) - 4))<2))then(some (0,0,0,0,0,[],0,[],[],[],[],[],false))
 else(bif decide ((0:Int)<=0/\0<=(2:Int)/\2<=(a0.length:Int))then
 bif (!X0 (QM (List.take (Int.toNat (2 - 0)) (List.drop (Int.toNat 0) a0))) (⟨#[82,75]⟩:ByteArray))then(some (0,0,0,0,0,[],0,[],[],[],[],[],false))
 else(bif decide ((0:Int)<=0/\0<=((wR ((a0.length:Int) - 4)):Int)/\(wR ((a0.length:Int) - 4))<=(a0.length:Int))then
 (QE D (List.take (Int.toNat ((wR ((a0.length:Int) - 4)) - 0)) (List.drop (Int.toNat 0) a0),2,false)).bind fun r1=>
 (QE D (List.take (Int.toNat ((wR ((a0.length:Int) - 4)) - 0)) (List.drop (Int.toNat 0) a0),r1.2)).bind fun r2=>
 (QE D (List.take (Int.toNat ((wR ((a0.length:Int) - 4)) - 0)) (List.drop (Int.toNat 0) a0),r2.2)).bind fun r3=>
 (QE D (List.take (Int.toNat ((wR ((a0.length:Int) - 4)) - 0)) (List.drop (Int.toNat 0) a0),r3.2)).bind fun r4=>
 (QE D (List.take (Int.toNat ((wR ((a0.length:Int) - 4)) - 0)) (List.drop (Int.toNat 0) a0),r4.2)).bind fun r5=>
 (Zj D (List.take (Int.toNat ((wR ((a0.length:Int) - 4)) - 0)) (List.drop (Int.toNat 0) a0),r5.2.1,r5.2.2,4)).bind fun r6=>
 (QE D (List.take (Int.toNat ((wR ((a0.length:Int) - 4)) - 0)) (List.drop (Int.toNat 0) a0),r6.2)).bind fun r7=>
 (Zj D (List.take (Int.toNat ((wR ((a0.length:Int) - 4)) - 0)) (List.drop (Int.toNat 0) a0),r7.2.1,r7.2.2,5)).bind fun r8=>
 (Zj D (List.take (Int.toNat ((wR ((a0.length:Int) - 4)) - 0)) (List.drop (Int.toNat 0) a0),r8.2.1,r8.2.2,4)).bind fun r9=>
 (QE D (List.take (Int.toNat ((wR ((a0.length:Int) - 4)) - 0)) (List.drop (Int.toNat 0) a0),r9.2)).bind fun r10=>
 bif r10.2.2 then(some (0,0,0,0,0,[],0,[],[],[],[],[],false))
 else(bif (decide ((wR ((wR ((a0.length:Int) - 4)) - r10.2.1))<r10.1))then(some (0,0,0,0,0,[],0,[],[],[],[],[],false))
 else(bif decide ((0:Int)<=r10.2.1/\r10.2.1<=((wR (r10.2.1+r10.1)):Int)/\(wR (r10.2.1+r10.1))<=(a0.length:Int))then
 (QdU D (List.take (Int.toNat ((wR (r10.2.1+r10.1)) - r10.2.1)) (List.drop (Int.toNat r10.2.1) a0))).bind fun r11=>
 bif (!r11.2.2)then(some (0,0,0,0,0,[],0,[],[],[],[],[],false))
 else((ZU D (List.take (Int.toNat ((wR ((a0.length:Int) - 4)) - 0)) (List.drop (Int.toNat 0) a0),(wR (r10.2.1+r10.1)),r10.2.2,5)).bind fun r12=>
 (JR L (a0,r12.1,0,r1.1,r2.1,r3.1,r4.1,r5.1,r6.1,r7.1,r8.1,r9.1,r11.1,r11.2.1,[],List.take (Int.toNat ((wR ((a0.length:Int) - 4)) - 0)) (List.drop (Int.toNat 0) a0),r12.2)).bind fun z15=>
 bif z15.2.2.2.2.2.2.2.2.2.2.2.2.2.2.2 then(some (0,0,0,0,0,[],0,[],[],[],[],[],false))
 else((zQ D (z15.2.1,z15.2.2.1,z15.2.2.2.1,z15.2.2.2.2.1,z15.2.2.2.2.2.1,z15.2.2.2.2.2.2.1,z15.2.2.2.2.2.2.2.1,z15.2.2.2.2.2.2.2.2.1,z15.2.2.2.2.2.2.2.2.2.1,z15.2.2.2.2.2.2.2.2.2.2.1,z15.2.2.2.2.2.2.2.2.2.2.2.1,z15.2.2.2.2.2.2.2.2.2.2.2.2.1)).bind fun r16=>
 bif (!r16)then(some (0,0,0,0,0,[],0,[],[],[],[],[],false))
 else((Vt D (z15.2.1,z15.2.2.1,z15.2.2.2.1,z15.2.2.2.2.1,z15.2.2.2.2.2.1,z15.2.2.2.2.2.2.1,z15.2.2.2.2.2.2.2.1,z15.2.2.2.2.2.2.2.2.1,z15.2.2.2.2.2.2.2.2.2.1,z15.2.2.2.2.2.2.2.2.2.2.1,z15.2.2.2.2.2.2.2.2.2.2.2.1,z15.2.2.2.2.2.2.2.2.2.2.2.2.1)).bind fun r17=>
 (Qas D (r17,z15.1)).bind fun r18=>
 bif (!r18)then(some (0,0,0,0,0,[],0,[],[],[],[],[],false))
 else(some (z15.2.1,z15.2.2.1,z15.2.2.2.1,z15.2.2.2.2.1,z15.2.2.2.2.2.1,z15.2.2.2.2.2.2.1,z15.2.2.2.2.2.2.2.1,z15.2.2.2.2.2.2.2.2.1,z15.2.2.2.2.2.2.2.2.2.1,z15.2.2.2.2.2.2.2.2.2.2.1,z15.2.2.2.2.2.2.2.2.2.2.2.1,z15.2.2.2.2.2.2.2.2.2.2.2.2.1,true)))))else none))else none)else none)
theorem Qz8:OfF QjI Qo6:=ofF 34
end
end Go.Proofs.YtiejfnbmficbmaaGreat.M
