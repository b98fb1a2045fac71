/- Plain forms of the functions that FnExactIslands reaches, part 1. No conditions. -/
import Derived.Test.YtiejfnbmficbmaaGreatFnExactIslandsTab
set_option linter.all false
namespace Go.Proofs.YtiejfnbmficbmaaGreat.M
open Go Go.Eng Go.Proofs
set_option linter.unusedVariables false
noncomputable section
def jU:rL Yx:=fun D L (y0,y1,y2)=>
 bif (decide (y1<(y2.length:Int)))then(bif inb y1 y2.length then
 let e1:=(rd1 J0 y2 y1);
 let l2:=List.set y2 (Int.toNat y1) (y0,e1.2);
 bif inb y1 l2.length then
 let e3:=(rd1 J0 l2 y1);
 (yX D ((rd1 J0 l2 y1).2.1,(wR (y0+1)))).bind fun r4=>
 let e5:=(rd1 J0 l2 y1);
 let l6:=List.set l2 (Int.toNat y1) (e5.1,r4.2,e5.2.2);
 bif decide ((3:Int)≠0)then
 bif inb y1 l6.length then
 let e7:=(rd1 J0 l6 y1);
 let l8:=List.set l6 (Int.toNat y1) (e7.1,e7.2.1,(decide ((Int.tmod r4.1 3)=0)));
 Yx L ((wR (r4.1+1)),(wR (y1+1)),l8)else none else none else none else none)
 else(some (y0,y2))
theorem QcO:OfL Yx jU:=ofL 44 0
def Qfa:rF jG:=fun D L (a0,a1)=>
 (Yx L (a1,0,a0)).bind fun z9=>
 some z9
theorem QqV:OfF jG Qfa:=ofF 44
def jS:rL YF:=fun D L (y0,y1,y2)=>
 bif (decide (y1<(y2.length:Int)))then(bif inb y1 y2.length then
 let e1:=(rd1 Kz y2 y1);
 let l2:=List.set y2 (Int.toNat y1) (y0,e1.2);
 bif inb y1 l2.length then
 let e3:=(rd1 Kz l2 y1);
 (Vu D ((rd1 Kz l2 y1).2.1,(wR (y0+1)))).bind fun r4=>
 let e5:=(rd1 Kz l2 y1);
 let l6:=List.set l2 (Int.toNat y1) (e5.1,r4.2,e5.2.2);
 bif inb y1 l6.length then
 let e7:=(rd1 Kz l6 y1);
 (KH D ((rd1 Kz l6 y1).2.2,r4.1)).bind fun r8=>
 let e9:=(rd1 Kz l6 y1);
 let l10:=List.set l6 (Int.toNat y1) (e9.1,e9.2.1,r8.2);
 YF L (r8.1,(wR (y1+1)),l10)else none else none else none)
 else(some (y0,y2))
theorem QcD:OfL YF jS:=ofL 45 0
def Qfk:rF jr:=fun D L (a0,a1)=>
 (YF L (a1,0,a0)).bind fun z11=>
 some z11
theorem QqT:OfF jr Qfk:=ofF 45
def jX:rL YH:=fun D L (y0,y1,y2)=>
 bif (decide (y2<(y0.length:Int)))then(bif inb y2 y0.length then
 let e1:=(rd1 Qv y0 y2);
 bif (!decide (e1.1=y1))then(some (Sum.inl (-1)))
 else(bif inb y2 y0.length then
 let e2:=(rd1 Qv y0 y2);
 bif (!decide (e2.2.1=(wR (y1+1))))then(some (Sum.inl (-1)))
 else(bif inb y2 y0.length then
 let e3:=(rd1 Qv y0 y2);
 (Vq D (e3.2.2.1,(wR ((wR (y1+1))+1)))).bind fun r4=>
 bif (decide (r4<0))then(some (Sum.inl (-1)))
 else(bif inb y2 y0.length then
 let e5:=(rd1 Qv y0 y2);
 (KT D (e5.2.2.2.1,r4)).bind fun r6=>
 bif (decide (r6<0))then(some (Sum.inl (-1)))
 else(bif inb y2 y0.length then
 let e7:=(rd1 Qv y0 y2);
 (K2 D (e7.2.2.2.2.1,r6)).bind fun r8=>
 bif (decide (r8<0))then(some (Sum.inl (-1)))
 else(bif inb y2 y0.length then
 let e9:=(rd1 Qv y0 y2);
 bif (!decide (e9.2.2.2.2.2.1=r8))then(some (Sum.inl (-1)))
 else(bif inb y2 y0.length then
 let e10:=(rd1 Qv y0 y2);
 bif (!decide (e10.2.2.2.2.2.2.1=(wR (r8+1))))then(some (Sum.inl (-1)))
 else(bif inb y2 y0.length then
 let e11:=(rd1 Qv y0 y2);
 bif (!decide (e11.2.2.2.2.2.2.2.1=(wR ((wR (r8+1))+1))))then(some (Sum.inl (-1)))
 else(bif inb y2 y0.length then
 let e12:=(rd1 Qv y0 y2);
 (zN D (e12.2.2.2.2.2.2.2.2.1,(wR ((wR ((wR (r8+1))+1))+1)))).bind fun r13=>
 bif (decide (r13<0))then(some (Sum.inl (-1)))
 else(bif inb y2 y0.length then
 let e14:=(rd1 Qv y0 y2);
 (K2 D (e14.2.2.2.2.2.2.2.2.2.1,r13)).bind fun r15=>
 bif (decide (r15<0))then(some (Sum.inl (-1)))
 else(bif inb y2 y0.length then
 let e16:=(rd1 Qv y0 y2);
 (K2 D (e16.2.2.2.2.2.2.2.2.2.2.1,r15)).bind fun r17=>
 bif (decide (r17<0))then(some (Sum.inl (-1)))
 else(bif inb y2 y0.length then
 let e18:=(rd1 Qv y0 y2);
 (jd D (e18.2.2.2.2.2.2.2.2.2.2.2.1,r17)).bind fun r19=>
 bif (decide (r19<0))then(some (Sum.inl (-1)))
 else(bif inb y2 y0.length then
 let e20:=(rd1 Qv y0 y2);
 bif (!decide (e20.2.2.2.2.2.2.2.2.2.2.2.2.1=r19))then(some (Sum.inl (-1)))
 else(bif inb y2 y0.length then
 let e21:=(rd1 Qv y0 y2);
 bif (!decide (e21.2.2.2.2.2.2.2.2.2.2.2.2.2.1=(wR (r19+1))))then(some (Sum.inl (-1)))
 else(bif inb y2 y0.length then
 let e22:=(rd1 Qv y0 y2);
 (yW D (e22.2.2.2.2.2.2.2.2.2.2.2.2.2.2.1,(wR ((wR (r19+1))+1)))).bind fun r23=>
 bif (decide (r23<0))then(some (Sum.inl (-1)))
 else(bif inb y2 y0.length then
 let e24:=(rd1 Qv y0 y2);
 bif (!decide (e24.2.2.2.2.2.2.2.2.2.2.2.2.2.2.2.1=r23))then(some (Sum.inl (-1)))
 else(bif inb y2 y0.length then
 let e25:=(rd1 Qv y0 y2);
 bif (!decide (e25.2.2.2.2.2.2.2.2.2.2.2.2.2.2.2.2.1=(wR (r23+1))))then(some (Sum.inl (-1)))
 else(bif inb y2 y0.length then
 let e26:=(rd1 Qv y0 y2);
 bif (!decide (e26.2.2.2.2.2.2.2.2.2.2.2.2.2.2.2.2.2.1=(wR ((wR (r23+1))+1))))then(some (Sum.inl (-1)))
 else(bif inb y2 y0.length then
 let e27:=(rd1 Qv y0 y2);
 (jy D (e27.2.2.2.2.2.2.2.2.2.2.2.2.2.2.2.2.2.2,(wR ((wR ((wR (r23+1))+1))+1)))).bind fun r28=>
 bif (decide (r28<0))then(some (Sum.inl (-1)))
 else(YH L (y0,r28,(wR (y2+1))))else none)else none)else none)else none)else none)else none)else none)else none)else none)else none)else none)else none)else none)else none)else none)else none)else none)else none)else none)
 else(some (Sum.inr y1))
theorem QbD:OfL YH jX:=ofL 46 0
def Qf4:rF jg:=fun D L (a0,a1)=>
 (YH L (a0,a1,0)).bind fun z29=>
 Qp z29 (fun u30=>
 some u30)
 (fun z31=>
 some z31)
theorem QqS:OfF jg Qf4:=ofF 46
def j0:rL YB:=fun D L (y0,y1,y2)=>
 bif (decide (y2<(y0.length:Int)))then(bif inb y2 y0.length then
 let e1:=(rd1 J0 y0 y2);
 bif (!decide (e1.1=y1))then(some (Sum.inl (-1)))
 else(bif inb y2 y0.length then
 let e2:=(rd1 J0 y0 y2);
 (js D (e2.2.1,(wR (y1+1)))).bind fun r3=>
 bif (decide (r3<0))then(some (Sum.inl (-1)))
 else(bif inb y2 y0.length then
 let e4:=(rd1 J0 y0 y2);
 bif decide ((3:Int)≠0)then
 bif (!(e4.2.2==(decide ((Int.tmod r3 3)=0))))then(some (Sum.inl (-1)))
 else(YB L (y0,(wR (r3+1)),(wR (y2+1))))else none else none)else none)else none)
 else(some (Sum.inr y1))
theorem Qdf:OfL YB j0:=ofL 47 0
def QgN:rF jB:=fun D L (a0,a1)=>
 (YB L (a0,a1,0)).bind fun z5=>
 Qp z5 (fun u6=>
 some u6)
 (fun z7=>
 some z7)
theorem Qq6:OfF jB QgN:=ofF 47
def jR:rL Yz:=fun D L (y0,y1,y2)=>
 bif (decide (y2<(y0.length:Int)))then(bif inb y2 y0.length then
 let e1:=(rd1 Kz y0 y2);
 bif (!decide (e1.1=y1))then(some (Sum.inl (-1)))
 else(bif inb y2 y0.length then
 let e2:=(rd1 Kz y0 y2);
 (Vq D (e2.2.1,(wR (y1+1)))).bind fun r3=>
 bif (decide (r3<0))then(some (Sum.inl (-1)))
 else(bif inb y2 y0.length then
 let e4:=(rd1 Kz y0 y2);
 (KT D (e4.2.2,r3)).bind fun r5=>
 bif (decide (r5<0))then(some (Sum.inl (-1)))
 else(Yz L (y0,r5,(wR (y2+1))))else none)else none)else none)
 else(some (Sum.inr y1))
theorem QcK:OfL Yz jR:=ofL 48 0
def Qgx:rF jf:=fun D L (a0,a1)=>
 (Yz L (a0,a1,0)).bind fun z6=>
 Qp z6 (fun u7=>
 some u7)
 (fun z8=>
 some z8)
theorem Qq3:OfF jf Qgx:=ofF 48
def QkZ:rF QeC:=fun D L (a0,a1,a2,a3)=>
 (qR D (a0,a1,a2)).bind fun r1=>
 bif r1 then(some (decide ((a3.length:Int)=(a0.length:Int))))
 else(some false)
theorem Qwo:OfF QeC QkZ:=ofF 53
def Qi6:rL qG:=fun D L (y0,y1,y2,y3,y4,y5,y6)=>
 bif (decide (y0<(y4.length:Int)))then(bif inb y0 y4.length then
 let e3:=(rd1 Qv y4 y0);
 (QcC L (y0,0,y1,y2,y3,y4,y5,y6,e3.1,e3.2.1,y0,y0,y0,e3.2.2.2.2.2.1,e3.2.2.2.2.2.2.1,e3.2.2.2.2.2.2.2.1,y0,y0,y0,y0,e3.2.2.2.2.2.2.2.2.2.2.2.2.1,e3.2.2.2.2.2.2.2.2.2.2.2.2.2.1,y0,e3.2.2.2.2.2.2.2.2.2.2.2.2.2.2.2.1,e3.2.2.2.2.2.2.2.2.2.2.2.2.2.2.2.2.1,e3.2.2.2.2.2.2.2.2.2.2.2.2.2.2.2.2.2.1,y0)).bind fun z9=>
 Qp z9 (fun u10=>
 bif inb u10.1 u10.2.2.2.2.1.length then
 let l12:=List.set u10.2.2.2.2.1 (Int.toNat u10.1) u10.2.2.2.2.2.2.2;
 qG L ((wR (u10.1+1)),u10.2.1,u10.2.2.1,u10.2.2.2.1,l12,u10.2.2.2.2.2.1,u10.2.2.2.2.2.2.1)else none)
 (fun z11=>
 bif inb z11.1 z11.2.2.2.2.1.length then
 bif decide ((z11.2.2.2.2.2.2.2.2.2.1:Int)=z11.1)then
 bif decide ((z11.2.2.2.2.2.2.2.2.2.2.1:Int)=z11.1)then
 bif decide ((z11.2.2.2.2.2.2.2.2.2.2.2.1:Int)=z11.1)then
 bif decide ((z11.2.2.2.2.2.2.2.2.2.2.2.2.2.2.2.1:Int)=z11.1)then
 bif decide ((z11.2.2.2.2.2.2.2.2.2.2.2.2.2.2.2.2.1:Int)=z11.1)then
 bif decide ((z11.2.2.2.2.2.2.2.2.2.2.2.2.2.2.2.2.2.1:Int)=z11.1)then
 bif decide ((z11.2.2.2.2.2.2.2.2.2.2.2.2.2.2.2.2.2.2.1:Int)=z11.1)then
 bif decide ((z11.2.2.2.2.2.2.2.2.2.2.2.2.2.2.2.2.2.2.2.2.2.1:Int)=z11.1)then
 bif decide ((z11.2.2.2.2.2.2.2.2.2.2.2.2.2.2.2.2.2.2.2.2.2.2.2.2.2:Int)=z11.1)then
 let l13:=List.set z11.2.2.2.2.1 (Int.toNat z11.1) (z11.2.2.2.2.2.2.2.1,z11.2.2.2.2.2.2.2.2.1,(rd1 Qv z11.2.2.2.2.1 z11.1).2.2.1,(rd1 Qv z11.2.2.2.2.1 z11.1).2.2.2.1,(rd1 Qv z11.2.2.2.2.1 z11.1).2.2.2.2.1,z11.2.2.2.2.2.2.2.2.2.2.2.2.1,z11.2.2.2.2.2.2.2.2.2.2.2.2.2.1,z11.2.2.2.2.2.2.2.2.2.2.2.2.2.2.1,(rd1 Qv z11.2.2.2.2.1 z11.1).2.2.2.2.2.2.2.2.1,(rd1 Qv z11.2.2.2.2.1 z11.1).2.2.2.2.2.2.2.2.2.1,(rd1 Qv z11.2.2.2.2.1 z11.1).2.2.2.2.2.2.2.2.2.2.1,(rd1 Qv z11.2.2.2.2.1 z11.1).2.2.2.2.2.2.2.2.2.2.2.1,z11.2.2.2.2.2.2.2.2.2.2.2.2.2.2.2.2.2.2.2.1,z11.2.2.2.2.2.2.2.2.2.2.2.2.2.2.2.2.2.2.2.2.1,(rd1 Qv z11.2.2.2.2.1 z11.1).2.2.2.2.2.2.2.2.2.2.2.2.2.2.1,z11.2.2.2.2.2.2.2.2.2.2.2.2.2.2.2.2.2.2.2.2.2.2.1,z11.2.2.2.2.2.2.2.2.2.2.2.2.2.2.2.2.2.2.2.2.2.2.2.1,z11.2.2.2.2.2.2.2.2.2.2.2.2.2.2.2.2.2.2.2.2.2.2.2.2.1,(rd1 Qv z11.2.2.2.2.1 z11.1).2.2.2.2.2.2.2.2.2.2.2.2.2.2.2.2.2.2);
 qG L ((wR (z11.1+1)),z11.2.1,z11.2.2.1,z11.2.2.2.1,l13,z11.2.2.2.2.2.1,z11.2.2.2.2.2.2.1)else none else none else none else none else none else none else none else none else none else none)else none)
 else(some (y4,y5,y6))
theorem QkV:OfL qG Qi6:=ofL 54 0
def QpW:rL QcC:=fun D L (y0,y1,y2,y3,y4,y5,y6,y7,y8,y9,y10,y11,y12,y13,y14,y15,y16,y17,y18,y19,y20,y21,y22,y23,y24,y25,y26)=>
 bif inb y0 y2.length then
 let e4:=(rd1 Qv y2 y0);
 bif (decide (y1<=e4.2.2.2.2.2.2.2.2.2.2.2.2.2.2.2.1))then((Qf3 D (y8,y9,(rd1 Qv y5 y10).2.2.1,(rd1 Qv y5 y11).2.2.2.1,(rd1 Qv y5 y12).2.2.2.2.1,y13,y14,y15,(rd1 Qv y5 y16).2.2.2.2.2.2.2.2.1,(rd1 Qv y5 y17).2.2.2.2.2.2.2.2.2.1,(rd1 Qv y5 y18).2.2.2.2.2.2.2.2.2.2.1,(rd1 Qv y5 y19).2.2.2.2.2.2.2.2.2.2.2.1,y20,y21,(rd1 Qv y5 y22).2.2.2.2.2.2.2.2.2.2.2.2.2.2.1,y23,y24,y25,(rd1 Qv y5 y26).2.2.2.2.2.2.2.2.2.2.2.2.2.2.2.2.2.2)).bind fun r5=>
 (Jx L (y0,(wR (y1+1)),y2,y3,y4,y5,y6,y7,r5)).bind fun z8=>
 some (Sum.inl z8))
 else(some (Sum.inr (y0,y2,y3,y4,y5,y6,y7,y8,y9,y10,y11,y12,y13,y14,y15,y16,y17,y18,y19,y20,y21,y22,y23,y24,y25,y26)))else none
theorem Qt9:OfL QcC QpW:=ofL 54 2
def Qa4:rL Jx:=fun D L (y0,y1,y2,y3,y4,y5,y6,y7,y8,y9,y10,y11,y12,y13,y14,y15,y16,y17,y18,y19,y20,y21,y22,y23,y24,y25,y26)=>
 bif inb y0 y2.length then
 let e6:=(rd1 Qv y2 y0);
 bif (decide (y1<=e6.2.2.2.2.2.2.2.2.2.2.2.2.2.2.2.1))then((Qf3 D (y8,y9,y10,y11,y12,y13,y14,y15,y16,y17,y18,y19,y20,y21,y22,y23,y24,y25,y26)).bind fun r7=>
 Jx L (y0,(wR (y1+1)),y2,y3,y4,y5,y6,y7,r7))
 else(some (y0,y2,y3,y4,y5,y6,y7,y8,y9,y10,y11,y12,y13,y14,y15,y16,y17,y18,y19,y20,y21,y22,y23,y24,y25,y26))else none
theorem QgI:OfL Jx Qa4:=ofL 54 1002
def Qo2:rF Qlo:=fun D L (a0,a1,a2)=>
 (Vy D (a0,a1,a2)).bind fun r1=>
 (qR D (a0,a1,a2)).bind fun r2=>
 bif (!r2)then(some r1)
 else((qG L (0,a0,a1,a2,r1)).bind fun z14=>
 some z14)
theorem QyF:OfF Qlo Qo2:=ofF 54
def Qhv:rF vE:=fun D L (a0,a1,a2,a3,a4)=>
 (Qe4 D (a0,a1,a2,a3,a4)).bind fun r1=>
 bif (!r1)then((Vy D (a0,a1,a2)).bind fun r2=>
 some (r2.1,r2.2.1,r2.2.2,false))
 else((Vy D (a0,a1,a2)).bind fun r3=>
 bif inb a3 a0.length then
 let e4:=(rd1 Qv a0 a3);
 (QkF D (e4.1,e4.2.1,e4.2.2.1,e4.2.2.2.1,e4.2.2.2.2.1,e4.2.2.2.2.2.1,e4.2.2.2.2.2.2.1,e4.2.2.2.2.2.2.2.1,e4.2.2.2.2.2.2.2.2.1,e4.2.2.2.2.2.2.2.2.2.1,e4.2.2.2.2.2.2.2.2.2.2.1,e4.2.2.2.2.2.2.2.2.2.2.2.1,e4.2.2.2.2.2.2.2.2.2.2.2.2.1,e4.2.2.2.2.2.2.2.2.2.2.2.2.2.1,e4.2.2.2.2.2.2.2.2.2.2.2.2.2.2.1,e4.2.2.2.2.2.2.2.2.2.2.2.2.2.2.2.1,e4.2.2.2.2.2.2.2.2.2.2.2.2.2.2.2.2.1,e4.2.2.2.2.2.2.2.2.2.2.2.2.2.2.2.2.2.1,e4.2.2.2.2.2.2.2.2.2.2.2.2.2.2.2.2.2.2,a4)).bind fun r5=>
 bif (!r5.2.2.2.2.2.2.2.2.2.2.2.2.2.2.2.2.2.2.2.2.2.2.2.2.2.2.2.2.2.2.2)then(some (r3.1,r3.2.1,r3.2.2,false))
 else(bif inb a4 a0.length then
 let e6:=(rd1 Qv a0 a4);
 (Yl D (e6.1,e6.2.1,e6.2.2.1,e6.2.2.2.1,e6.2.2.2.2.1,e6.2.2.2.2.2.1,e6.2.2.2.2.2.2.1,e6.2.2.2.2.2.2.2.1,e6.2.2.2.2.2.2.2.2.1,e6.2.2.2.2.2.2.2.2.2.1,e6.2.2.2.2.2.2.2.2.2.2.1,e6.2.2.2.2.2.2.2.2.2.2.2.1,e6.2.2.2.2.2.2.2.2.2.2.2.2.1,e6.2.2.2.2.2.2.2.2.2.2.2.2.2.1,e6.2.2.2.2.2.2.2.2.2.2.2.2.2.2.1,e6.2.2.2.2.2.2.2.2.2.2.2.2.2.2.2.1,e6.2.2.2.2.2.2.2.2.2.2.2.2.2.2.2.2.1,e6.2.2.2.2.2.2.2.2.2.2.2.2.2.2.2.2.2.1,e6.2.2.2.2.2.2.2.2.2.2.2.2.2.2.2.2.2.2,r5.2.2.2.2.2.2.2.2.2.2.2.2.2.2.2.2.2.2.2.1,r5.2.2.2.2.2.2.2.2.2.2.2.2.2.2.2.2.2.2.2.2.1,r5.2.2.2.2.2.2.2.2.2.2.2.2.2.2.2.2.2.2.2.2.2.1,r5.2.2.2.2.2.2.2.2.2.2.2.2.2.2.2.2.2.2.2.2.2.2.1,r5.2.2.2.2.2.2.2.2.2.2.2.2.2.2.2.2.2.2.2.2.2.2.2.1,r5.2.2.2.2.2.2.2.2.2.2.2.2.2.2.2.2.2.2.2.2.2.2.2.2.1,r5.2.2.2.2.2.2.2.2.2.2.2.2.2.2.2.2.2.2.2.2.2.2.2.2.2.1,r5.2.2.2.2.2.2.2.2.2.2.2.2.2.2.2.2.2.2.2.2.2.2.2.2.2.2.1,r5.2.2.2.2.2.2.2.2.2.2.2.2.2.2.2.2.2.2.2.2.2.2.2.2.2.2.2.1,r5.2.2.2.2.2.2.2.2.2.2.2.2.2.2.2.2.2.2.2.2.2.2.2.2.2.2.2.2.1,r5.2.2.2.2.2.2.2.2.2.2.2.2.2.2.2.2.2.2.2.2.2.2.2.2.2.2.2.2.2.1,r5.2.2.2.2.2.2.2.2.2.2.2.2.2.2.2.2.2.2.2.2.2.2.2.2.2.2.2.2.2.2.1)).bind fun r7=>
 bif (!decide (r7.2.2.2.2.2.2.2.2.2.2.2.2.2.2.2.2.2.2.2.2=0))then(some (r3.1,r3.2.1,r3.2.2,false))
 else(bif (decide ((r7.2.2.2.2.2.2.2.2.2.2.2.2.2.2.2.2.2.2.2.1.length:Int)=0))then(some (r3.1,r3.2.1,r3.2.2,false))
 else(bif inb 0 r7.2.2.2.2.2.2.2.2.2.2.2.2.2.2.2.2.2.2.2.1.length then
 let e8:=(rd1 QL r7.2.2.2.2.2.2.2.2.2.2.2.2.2.2.2.2.2.2.2.1 0);
 (Yl D (r5.1,r5.2.1,r5.2.2.1,r5.2.2.2.1,r5.2.2.2.2.1,r5.2.2.2.2.2.1,r5.2.2.2.2.2.2.1,r5.2.2.2.2.2.2.2.1,r5.2.2.2.2.2.2.2.2.1,r5.2.2.2.2.2.2.2.2.2.1,r5.2.2.2.2.2.2.2.2.2.2.1,r5.2.2.2.2.2.2.2.2.2.2.2.1,r5.2.2.2.2.2.2.2.2.2.2.2.2.1,r5.2.2.2.2.2.2.2.2.2.2.2.2.2.1,r5.2.2.2.2.2.2.2.2.2.2.2.2.2.2.1,r5.2.2.2.2.2.2.2.2.2.2.2.2.2.2.2.1,r5.2.2.2.2.2.2.2.2.2.2.2.2.2.2.2.2.1,r5.2.2.2.2.2.2.2.2.2.2.2.2.2.2.2.2.2.1,r5.2.2.2.2.2.2.2.2.2.2.2.2.2.2.2.2.2.2.1,e8.1,e8.2.1,e8.2.2.1,e8.2.2.2.1,e8.2.2.2.2.1,(rd1 QL r7.2.2.2.2.2.2.2.2.2.2.2.2.2.2.2.2.2.2.2.1 0).2.2.2.2.2.1,e8.2.2.2.2.2.2.1,(rd1 QL r7.2.2.2.2.2.2.2.2.2.2.2.2.2.2.2.2.2.2.2.1 0).2.2.2.2.2.2.2)).bind fun r9=>
 bif (!decide (r9.2.2.2.2.2.2.2.2.2.2.2.2.2.2.2.2.2.2.2.2=0))then(some (r3.1,r3.2.1,r3.2.2,false))
 else(bif (decide ((r9.2.2.2.2.2.2.2.2.2.2.2.2.2.2.2.2.2.2.2.1.length:Int)=0))then(some (r3.1,r3.2.1,r3.2.2,false))
 else(bif inb 0 r9.2.2.2.2.2.2.2.2.2.2.2.2.2.2.2.2.2.2.2.1.length then
 let e10:=(rd1 QL r9.2.2.2.2.2.2.2.2.2.2.2.2.2.2.2.2.2.2.2.1 0);
 (Yl D (r7.1,r7.2.1,r7.2.2.1,r7.2.2.2.1,r7.2.2.2.2.1,r7.2.2.2.2.2.1,r7.2.2.2.2.2.2.1,r7.2.2.2.2.2.2.2.1,r7.2.2.2.2.2.2.2.2.1,r7.2.2.2.2.2.2.2.2.2.1,r7.2.2.2.2.2.2.2.2.2.2.1,r7.2.2.2.2.2.2.2.2.2.2.2.1,r7.2.2.2.2.2.2.2.2.2.2.2.2.1,r7.2.2.2.2.2.2.2.2.2.2.2.2.2.1,r7.2.2.2.2.2.2.2.2.2.2.2.2.2.2.1,r7.2.2.2.2.2.2.2.2.2.2.2.2.2.2.2.1,r7.2.2.2.2.2.2.2.2.2.2.2.2.2.2.2.2.1,r7.2.2.2.2.2.2.2.2.2.2.2.2.2.2.2.2.2.1,r7.2.2.2.2.2.2.2.2.2.2.2.2.2.2.2.2.2.2.1,e10.1,e10.2.1,e10.2.2.1,e10.2.2.2.1,e10.2.2.2.2.1,(rd1 QL r9.2.2.2.2.2.2.2.2.2.2.2.2.2.2.2.2.2.2.2.1 0).2.2.2.2.2.1,e10.2.2.2.2.2.2.1,(rd1 QL r9.2.2.2.2.2.2.2.2.2.2.2.2.2.2.2.2.2.2.2.1 0).2.2.2.2.2.2.2)).bind fun r11=>
 bif (!decide (r11.2.2.2.2.2.2.2.2.2.2.2.2.2.2.2.2.2.2.2.2=0))then(some (r3.1,r3.2.1,r3.2.2,false))
 else(bif inb a3 r3.1.length then
 let l12:=List.set r3.1 (Int.toNat a3) (r9.1,r9.2.1,r9.2.2.1,r9.2.2.2.1,r9.2.2.2.2.1,r9.2.2.2.2.2.1,r9.2.2.2.2.2.2.1,r9.2.2.2.2.2.2.2.1,r9.2.2.2.2.2.2.2.2.1,r9.2.2.2.2.2.2.2.2.2.1,r9.2.2.2.2.2.2.2.2.2.2.1,r9.2.2.2.2.2.2.2.2.2.2.2.1,r9.2.2.2.2.2.2.2.2.2.2.2.2.1,r9.2.2.2.2.2.2.2.2.2.2.2.2.2.1,r9.2.2.2.2.2.2.2.2.2.2.2.2.2.2.1,r9.2.2.2.2.2.2.2.2.2.2.2.2.2.2.2.1,r9.2.2.2.2.2.2.2.2.2.2.2.2.2.2.2.2.1,r9.2.2.2.2.2.2.2.2.2.2.2.2.2.2.2.2.2.1,r9.2.2.2.2.2.2.2.2.2.2.2.2.2.2.2.2.2.2.1);
 bif inb a4 l12.length then
 let l13:=List.set l12 (Int.toNat a4) (r11.1,r11.2.1,r11.2.2.1,r11.2.2.2.1,r11.2.2.2.2.1,r11.2.2.2.2.2.1,r11.2.2.2.2.2.2.1,r11.2.2.2.2.2.2.2.1,r11.2.2.2.2.2.2.2.2.1,r11.2.2.2.2.2.2.2.2.2.1,r11.2.2.2.2.2.2.2.2.2.2.1,r11.2.2.2.2.2.2.2.2.2.2.2.1,r11.2.2.2.2.2.2.2.2.2.2.2.2.1,r11.2.2.2.2.2.2.2.2.2.2.2.2.2.1,r11.2.2.2.2.2.2.2.2.2.2.2.2.2.2.1,r11.2.2.2.2.2.2.2.2.2.2.2.2.2.2.2.1,r11.2.2.2.2.2.2.2.2.2.2.2.2.2.2.2.2.1,r11.2.2.2.2.2.2.2.2.2.2.2.2.2.2.2.2.2.1,r11.2.2.2.2.2.2.2.2.2.2.2.2.2.2.2.2.2.2.1);
 some (l13,r3.2.1,r3.2.2,true)else none else none)else none))else none))else none)else none)
theorem Qsf:OfF vE Qhv:=ofF 55
def Qlm:rF Qe3:=fun D L (a0,a1,a2,a3)=>
 (xz D (a0,a1,a2)).bind fun r1=>
 bif r1 then(some (decide ((a3.length:Int)=(a0.length:Int))))
 else(some false)
theorem Qwk:OfF Qe3 Qlm:=ofF 56
def Qjf:rL yz:=fun D L (y0,y1,y2,y3,y4,y5)=>
 bif (decide (y2<y1))then(bif inb y2 y0.length then
 let e3:=(rd1 Qv y0 y2);
 (yT L (y2,y0,y1,y2,(wR (e3.2.2.2.2.2.2.2.2.2.2.2.2.2.2.2.1+1)),0,y3,y4,y5)).bind fun z7=>
 yz L (z7.1,z7.2.1,(wR (z7.2.2.1+1)),z7.2.2.2)else none)
 else(some (y3,y4,y5))
theorem QlO:OfL yz Qjf:=ofL 58 0
def Qis:rL yT:=fun D L (y0,y1,y2,y3,y4,y5,y6,y7,y8)=>
 bif (decide (y5<y4))then(bif inb y0 y6.length then
 let e4:=(rd1 Qv y6 y0);
 (Qlk D (e4.1,e4.2.1,(rd1 Qv y6 y0).2.2.1,(rd1 Qv y6 y0).2.2.2.1,(rd1 Qv y6 y0).2.2.2.2.1,e4.2.2.2.2.2.1,e4.2.2.2.2.2.2.1,e4.2.2.2.2.2.2.2.1,(rd1 Qv y6 y0).2.2.2.2.2.2.2.2.1,(rd1 Qv y6 y0).2.2.2.2.2.2.2.2.2.1,(rd1 Qv y6 y0).2.2.2.2.2.2.2.2.2.2.1,(rd1 Qv y6 y0).2.2.2.2.2.2.2.2.2.2.2.1,e4.2.2.2.2.2.2.2.2.2.2.2.2.1,e4.2.2.2.2.2.2.2.2.2.2.2.2.2.1,(rd1 Qv y6 y0).2.2.2.2.2.2.2.2.2.2.2.2.2.2.1,e4.2.2.2.2.2.2.2.2.2.2.2.2.2.2.2.1,e4.2.2.2.2.2.2.2.2.2.2.2.2.2.2.2.2.1,e4.2.2.2.2.2.2.2.2.2.2.2.2.2.2.2.2.2.1,(rd1 Qv y6 y0).2.2.2.2.2.2.2.2.2.2.2.2.2.2.2.2.2.2)).bind fun r5=>
 bif inb y0 y6.length then
 let l6:=List.set y6 (Int.toNat y0) r5;
 yT L (y0,y1,y2,y3,y4,(wR (y5+1)),l6,y7,y8)else none else none)
 else(some (y1,y2,y3,y6,y7,y8))
theorem Qle:OfL yT Qis:=ofL 58 2
def Qo9:rF QlQ:=fun D L (a0,a1,a2)=>
 (Y7 D (a0,a1,a2)).bind fun r1=>
 (xz D (a0,a1,a2)).bind fun r2=>
 bif (!r2)then(some r1)
 else((yz L (a0,(a0.length:Int),0,r1)).bind fun z8=>
 some z8)
theorem QzW:OfF QlQ Qo9:=ofF 58
def QfJ:rF jF:=fun D L (a0,a1,a2)=>
 bif inb a0 a2.length then
 bif inb a1 a2.length then
 some (decide ((rd1 (0:Int) a2 a0)=(rd1 (0:Int) a2 a1)))else none else none
theorem Qq7:OfF jF QfJ:=ofF 59
def QlG:rF QeP:=fun D L (a0,a1,a2,a3,a4,a5,a6,a7,a8,a9,a10,a11,a12,a13,a14,a15,a16,a17,a18,a19)=>
 (qJ D (a2,a3,a19)).bind fun r1=>
 bif (decide (r1<0))then(some (-1))
 else((Qe1 D (a4,a5,r1)).bind fun r2=>
 bif (decide (r2<0))then(some (-1))
 else((Qh5 D (a6,a7,a8,r2)).bind fun r3=>
 bif (decide (r3<0))then(some (-1))
 else((qz D (a9,r3)).bind fun r4=>
 bif (decide (r4<0))then(some (-1))
 else((qz D (a10,r4)).bind fun r5=>
 bif (decide (r5<0))then(some (-1))
 else((Qba D (a11,r5)).bind fun r6=>
 bif (decide (r6<0))then(some (-1))
 else((Qa0 D (a14,r6)).bind fun r7=>
 bif (decide (r7<0))then(some (-1))
 else((Qb6 D (a18,r7)).bind fun r8=>
 bif (decide (r8<0))then(some (-1))
 else(some r8))))))))
theorem Qwc:OfF QeP QlG:=ofF 64
def Qma:rF QeA:=fun D L (a0,a1,a2,a3)=>
 (QaK D (a1,a3)).bind fun r1=>
 bif (decide (r1<0))then(some (-1))
 else(some r1)
theorem QvQ:OfF QeA Qma:=ofF 65
def Qlp:rF QeG:=fun D L (a0,a1,a2,a3)=>
 (qJ D (a1,a2,a3)).bind fun r1=>
 bif (decide (r1<0))then(some (-1))
 else(some r1)
theorem Qwm:OfF QeG Qlp:=ofF 66
def Qpf:rF QE:=fun D L (a0,a1,a2)=>
 bif (decide (a1<=a0))then(some (decide (a0<=a2)))
 else(some false)
theorem QyJ:OfF QE Qpf:=ofF 67
def Qd6:rL qM:=fun D L (y0,y1,y2,y3,y4,y5,y6,y7,y8,y9,y10,y11,y12,y13,y14,y15,y16,y17,y18,y19)=>
 bif (decide (y0<y2))then(bif inb y0 y11.length then
 (qy D (y7,y8,y9)).bind fun r11=>
 bif (decide (r11<(rd1 (0:Int) y11 y0)))then(some (Sum.inl false))
 else(qM L ((wR (y0+1)),y1,y2,y3,y4,y5,y6,y7,y8,y9,y10,y11,y12,y13,y14,y15,y16,y17,y18,y19))else none)
 else(some (Sum.inr (y1,y2,y3,y4,y5,y6,y7,y8,y9,y10,y11,y12,y13,y14,y15,y16,y17,y18,y19)))
theorem Qhq:OfL qM Qd6:=ofL 68 0
def QdU:rL qX:=fun D L (y0,y1,y2,y3,y4,y5,y6,y7,y8,y9,y10,y11,y12,y13,y14,y15,y16,y17,y18,y19)=>
 bif (decide (y0<5))then(bif inb y0 y19.length then
 let e20:=(rd1 Zc y19 y0);
 (QE D (e20.1,0,1000)).bind fun r21=>
 bif (!r21)then(some (Sum.inl false))
 else((QE D (e20.2.1,0,100000)).bind fun r22=>
 bif (!r22)then(some (Sum.inl false))
 else((QE D (e20.2.2,0,y18)).bind fun r23=>
 bif (!r23)then(some (Sum.inl false))
 else(qX L ((wR (y0+1)),y1,y2,y3,y4,y5,y6,y7,y8,y9,y10,y11,y12,y13,y14,y15,y16,y17,y18,y19))))else none)
 else(some (Sum.inr (y1,y2,y3,y4,y5,y6,y7,y8,y9,y10,y11,y12,y13,y14,y15,y16,y17,y18,y19)))
theorem Qg9:OfL qX QdU:=ofL 68 2
def Qlu:rF Ka:=fun D L (a0,a1,a2,a3,a4,a5,a6,a7,a8,a9,a10,a11,a12,a13,a14,a15,a16,a17,a18)=>
 (QE D (a1,1,5)).bind fun r1=>
 bif (!r1)then(some false)
 else((QE D (a0,0,(wR (a1 - 1)))).bind fun r2=>
 bif (!r2)then(some false)
 else((Zw D (a2,a3)).bind fun r3=>
 bif (!r3)then(some false)
 else((zo D (a2,a3)).bind fun r4=>
 (QbI D (a4,a5,r4)).bind fun r5=>
 bif (!r5)then(some false)
 else((xR D (a6,a7,a8)).bind fun r6=>
 bif (!r6)then(some false)
 else((Qcx D (a9,a1)).bind fun r7=>
 bif (!r7)then(some false)
 else((Qcx D (a10,a1)).bind fun r8=>
 bif (!r8)then(some false)
 else(bif inb a0 a9.length then
 (qy D (a6,a7,a8)).bind fun r9=>
 bif (!decide ((rd1 (0:Int) a9 a0)=r9))then(some false)
 else((Qbo D (a11,a1)).bind fun r10=>
 bif (!r10)then(some false)
 else((qM L (0,a0,a1,a2,a3,a4,a5,a6,a7,a8,a9,a10,a11,a12,a13,a14,a15,a16,a17,a18)).bind fun z12=>
 Qp z12 (fun u13=>
 some u13)
 (fun z14=>
 (QE D (z14.2.2.2.2.2.2.2.2.2.2.2.2.1,0,100000)).bind fun r15=>
 bif (!r15)then(some false)
 else((QE D (z14.2.2.2.2.2.2.2.2.2.2.2.2.2.2.2.2.2.1,0,100000)).bind fun r16=>
 bif (!r16)then(some false)
 else((QE D (z14.2.2.2.2.2.2.2.2.2.2.2.2.2.1,1,4)).bind fun r17=>
 bif (!r17)then(some false)
 else((QE D (z14.2.2.2.2.2.2.2.2.2.2.2.2.2.2.2.1,1,20)).bind fun r18=>
 bif (!r18)then(some false)
 else((QE D (z14.2.2.2.2.2.2.2.2.2.2.2.2.2.2.2.2.1,1,50)).bind fun r19=>
 bif (!r19)then(some false)
 else(bif (!decide ((z14.2.2.2.2.2.2.2.2.2.2.2.2.2.2.2.2.2.2.length:Int)=5))then(some false)
 else((qX L (0,z14)).bind fun z24=>
 Qp z24 (fun u25=>
 some u25)
 (fun z26=>
 (Qcy D z26).bind fun r27=>
 some r27))))))))))else none)))))))
theorem Qvn:OfF Ka Qlu:=ofF 68
end
end Go.Proofs.YtiejfnbmficbmaaGreat.M
