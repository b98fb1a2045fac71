/- Plain forms of the functions that FnExactOnlyNews reaches, part 0. No conditions. -/
import Derived.Test.YtiejfnbmficbmaaGreatFnExactOnlyNewsTab
set_option linter.all false
namespace Go.Proofs.YtiejfnbmficbmaaGreat.M
open Go Go.Eng Go.Proofs
set_option linter.unusedVariables false
noncomputable section
def qu:rF V0:=fun D L (a0,a1,a2)=>
 (yk D (a0,a1,a2,1048576)).bind fun r1=>
 bif (decide (r1<0))then(some true)
 else((Vx D (a0,a1,a2)).bind fun r2=>
 (xI D r2).bind fun r3=>
 (Vx D (a0,a1,a2)).bind fun r4=>
 (xr D r4).bind fun r5=>
 bif (!(r5==r3))then(some false)
 else((Vx D (a0,a1,a2)).bind fun r6=>
 (yP D (r4.1,r4.2.1,r4.2.2,r6)).bind fun r7=>
 bif (!r7)then(some false)
 else(some true)))
theorem Qe5:OfF V0 qu:=ofF 3
def Qdn:rF yk:=fun D L (a0,a1,a2,a3)=>
 (yq D (a0,a3)).bind fun r1=>
 bif (decide (r1<0))then(some (-1))
 else((jl D (a1,r1)).bind fun r2=>
 bif (decide (r2<0))then(some (-1))
 else((yz D (a2,r2)).bind fun r3=>
 bif (decide (r3<0))then(some (-1))
 else(some r3)))
theorem Qng:OfF yk Qdn:=ofF 8
def xV:rL Zd:=fun D L (y0,y1,y2,y3)=>
 bif (decide (y0<(y2.length:Int)))then(bif inb y0 y2.length then
 let e2:=(rd1 QcW y2 y0);
 (QcC D e2.2.1).bind fun r3=>
 bif r3.2.2.2.2.2.2.2.2.2.2.2.2 then(bif (!decide (r3.1=0))then(bif (!decide (r3.1=1))then(some (Sum.inl false))
 else(Zd L ((wR (y0+1)),y1,y2,y3)))
 else(Zd L ((wR (y0+1)),y1,y2,y3)))
 else(Zd L ((wR (y0+1)),y1,y2,y3))else none)
 else(some (Sum.inr ()))
theorem vv:OfL Zd xV:=ofL 9 0
def Qco:rF xI:=fun D L (a0,a1,a2)=>
 (jA D (a0,a1,a2)).bind fun r1=>
 bif (!r1)then(some false)
 else((Zd L (0,a0,a1,a2)).bind fun z4=>
 Qp z4 (fun u5=>
 some u5)
 (fun z6=>
 some true))
theorem Qld:OfF xI Qco:=ofF 9
def Qd1:rF Vx:=fun D L (a0,a1,a2)=>
 (zT D a0).bind fun r1=>
 (jd D a1).bind fun r2=>
 (yf D a2).bind fun r3=>
 some (r1,r2,r3)
theorem QlU:OfF Vx Qd1:=ofF 10
def xO:rL Ze:=fun D L (y0,y1,y2,y3,y4,y5)=>
 bif (decide (y2<y1))then(bif inb y2 y0.length then
 let e1:=(rd1 QcW y0 y2);
 (QcM D e1.2.1).bind fun r2=>
 bif r2.2.2.2.2.2.2.2.2.2.2.2.2 then(bif (!decide (r2.1=0))then(bif (!decide (r2.1=1))then(some (Sum.inl false))
 else(Ze L (y0,y1,(wR (y2+1)),y3,y4,y5)))
 else(Ze L (y0,y1,(wR (y2+1)),y3,y4,y5)))
 else(Ze L (y0,y1,(wR (y2+1)),y3,y4,y5))else none)
 else(some (Sum.inr (y3,y4,y5)))
theorem vu:OfL Ze xO:=ofL 11 0
def Qct:rF xr:=fun D L (a0,a1,a2)=>
 (Ze L (a1,(a1.length:Int),0,a0,a1,a2)).bind fun z3=>
 Qp z3 (fun u4=>
 some u4)
 (fun z5=>
 (j6 D z5).bind fun r6=>
 some r6)
theorem QkL:OfF xr Qct:=ofF 11
def Qd7:rF yP:=fun D L (a0,a1,a2,a3,a4,a5)=>
 (jy D (a0,a3)).bind fun r1=>
 bif (!r1)then(some false)
 else((zO D (a1,a4)).bind fun r2=>
 bif (!r2)then(some false)
 else((yU D (a2,a5)).bind fun r3=>
 bif (!r3)then(some false)
 else(some true)))
theorem Qmu:OfF yP Qd7:=ofF 12
def vF:rL VM:=fun D L (y0,y1,y2)=>
 bif (decide (y1<(y0.length:Int)))then(bif inb y1 y0.length then
 bif inb y1 y2.length then
 let l1:=List.set y2 (Int.toNat y1) (rd1 (0:Int) y0 y1);
 VM L (y0,(wR (y1+1)),l1)else none else none)
 else(some y2)
theorem Qb9:OfL VM vF:=ofL 20 0
def Qfy:rF K1:=fun D L a0=>
 bif (decide ((0:Int)<=(a0.length:Int)/\((a0.length:Int):Int)=(a0.length:Int))&&fits (Int.toNat (a0.length:Int)) 8)then
 (VM L (a0,0,(List.replicate (Int.toNat (a0.length:Int)) 0))).bind fun z2=>
 some z2 else none
theorem Qn3:OfF K1 Qfy:=ofF 20
def vM:rL Vk:=fun D L (y0,y1,y2)=>
 bif (decide (y2<(y0.length:Int)))then(bif inb y2 y0.length then
 bif inb y2 y1.length then
 bif (!decide ((rd1 (0:Int) y0 y2)=(rd1 (0:Int) y1 y2)))then(some (Sum.inl false))
 else(Vk L (y0,y1,(wR (y2+1))))else none else none)
 else(some (Sum.inr ()))
theorem Qb8:OfL Vk vM:=ofL 22 0
def QfX:rF K2:=fun D L (a0,a1)=>
 bif (!decide ((a0.length:Int)=(a1.length:Int)))then(some false)
 else((Vk L (a0,a1,0)).bind fun z1=>
 Qp z1 (fun u2=>
 some u2)
 (fun z3=>
 some true))
theorem Qoa:OfF K2 QfX:=ofF 22
def JV:rL KP:=fun D L (y0,y1,y2)=>
 bif (decide (y2<(y0.length:Int)))then(bif inb y2 y0.length then
 let e1:=(rd1 QcB y0 y2);
 (v8 D (e1.1,e1.2.1,e1.2.2.1,e1.2.2.2.1,e1.2.2.2.2.1,e1.2.2.2.2.2.1,e1.2.2.2.2.2.2.1,e1.2.2.2.2.2.2.2.1,e1.2.2.2.2.2.2.2.2.1,e1.2.2.2.2.2.2.2.2.2.1,e1.2.2.2.2.2.2.2.2.2.2.1,e1.2.2.2.2.2.2.2.2.2.2.2.1,e1.2.2.2.2.2.2.2.2.2.2.2.2.1,e1.2.2.2.2.2.2.2.2.2.2.2.2.2.1,e1.2.2.2.2.2.2.2.2.2.2.2.2.2.2.1,e1.2.2.2.2.2.2.2.2.2.2.2.2.2.2.2.1,e1.2.2.2.2.2.2.2.2.2.2.2.2.2.2.2.2.1,e1.2.2.2.2.2.2.2.2.2.2.2.2.2.2.2.2.2.1,e1.2.2.2.2.2.2.2.2.2.2.2.2.2.2.2.2.2.2,y1)).bind fun r2=>
 bif (decide (r2<0))then(some (Sum.inl (-1)))
 else(KP L (y0,r2,(wR (y2+1))))else none)
 else(some (Sum.inr y1))
theorem qp:OfL KP JV:=ofL 26 0
def Qd8:rF yq:=fun D L (a0,a1)=>
 bif (decide ((wR (a1 - (a0.length:Int)))<0))then(some (-1))
 else((KP L (a0,(wR (a1 - (a0.length:Int))),0)).bind fun z3=>
 Qp z3 (fun u4=>
 some u4)
 (fun z5=>
 some z5))
theorem QlN:OfF yq Qd8:=ofF 26
def JK:rL Kr:=fun D L (y0,y1,y2)=>
 bif (decide (y2<(y0.length:Int)))then(bif inb y2 y0.length then
 let e1:=(rd1 QcW y0 y2);
 (Qaw D (e1.1,e1.2.1,e1.2.2,y1)).bind fun r2=>
 bif (decide (r2<0))then(some (Sum.inl (-1)))
 else(Kr L (y0,r2,(wR (y2+1))))else none)
 else(some (Sum.inr y1))
theorem J4:OfL Kr JK:=ofL 27 0
def QeC:rF jl:=fun D L (a0,a1)=>
 bif (decide ((wR (a1 - (a0.length:Int)))<0))then(some (-1))
 else((Kr L (a0,(wR (a1 - (a0.length:Int))),0)).bind fun z3=>
 Qp z3 (fun u4=>
 some u4)
 (fun z5=>
 some z5))
theorem Qlt:OfF jl QeC:=ofF 27
def JS:rL Kn:=fun D L (y0,y1,y2)=>
 bif (decide (y2<(y0.length:Int)))then(bif inb y2 y0.length then
 let e1:=(rd1 Qhu y0 y2);
 (Qax D (e1.1,e1.2.1,e1.2.2,y1)).bind fun r2=>
 bif (decide (r2<0))then(some (Sum.inl (-1)))
 else(Kn L (y0,r2,(wR (y2+1))))else none)
 else(some (Sum.inr y1))
theorem JY:OfL Kn JS:=ofL 28 0
def QdU:rF yz:=fun D L (a0,a1)=>
 bif (decide ((wR (a1 - (a0.length:Int)))<0))then(some (-1))
 else((Kn L (a0,(wR (a1 - (a0.length:Int))),0)).bind fun z3=>
 Qp z3 (fun u4=>
 some u4)
 (fun z5=>
 some z5))
theorem QmS:OfF yz QdU:=ofF 28
def jD:rL Ka:=fun D L (y0,y1,y2,y3,y4)=>
 bif (decide (y1<y0))then(bif inb y1 y2.length then
 let e2:=(rd1 QcB y2 y1);
 (xl D e2).bind fun r3=>
 bif (!r3)then(some (Sum.inl false))
 else(bif inb y1 y2.length then
 let e4:=(rd1 QcB y2 y1);
 bif (!decide (e4.2.1=y0))then(some (Sum.inl false))
 else(bif inb y1 y2.length then
 let e5:=(rd1 QcB y2 y1);
 bif (!decide (e5.1=y1))then(some (Sum.inl false))
 else(Ka L (y0,(wR (y1+1)),y2,y3,y4))else none)else none)else none)
 else(some (Sum.inr (y0,y2,y3,y4)))
theorem QbB:OfL Ka jD:=ofL 29 0
def jG:rL Ks:=fun D L (y0,y1,y2,y3,y4)=>
 bif (decide (y1<(y3.length:Int)))then(bif inb y1 y3.length then
 let e9:=(rd1 QcW y3 y1);
 (QA D (e9.1,0,(wR (y0 - 1)))).bind fun r10=>
 bif (!r10)then(some (Sum.inl false))
 else(Ks L (y0,(wR (y1+1)),y2,y3,y4))else none)
 else(some (Sum.inr (y0,y2,y3,y4)))
theorem QaZ:OfL Ks jG:=ofL 29 2
def yG:rL Kg:=fun D L (y0,y1,y2,y3,y4)=>
 bif (decide (y1<(y4.length:Int)))then(bif inb y1 y4.length then
 let e14:=(rd1 Qhu y4 y1);
 (QA D (e14.1,0,(wR (y0 - 1)))).bind fun r15=>
 bif (!r15)then(some (Sum.inl false))
 else(bif inb y1 y4.length then
 let e16:=(rd1 Qhu y4 y1);
 (X8 D e16.2).bind fun r17=>
 bif (!r17)then(some (Sum.inl false))
 else(Kg L (y0,(wR (y1+1)),y2,y3,y4))else none)else none)
 else(some (Sum.inr ()))
theorem QbC:OfL Kg yG:=ofL 29 4
def Qd2:rF jA:=fun D L (a0,a1,a2)=>
 (QA D ((a0.length:Int),1,5)).bind fun r1=>
 bif (!r1)then(some false)
 else(bif (decide (12<(a1.length:Int)))then(some false)
 else(bif (decide (40<(a2.length:Int)))then(some false)
 else((Ka L ((a0.length:Int),0,a0,a1,a2)).bind fun z6=>
 Qp z6 (fun u7=>
 some u7)
 (fun z8=>
 (Ks L (z8.1,0,z8.2)).bind fun z11=>
 Qp z11 (fun u12=>
 some u12)
 (fun z13=>
 (Kg L (z13.1,0,z13.2)).bind fun z18=>
 Qp z18 (fun u19=>
 some u19)
 (fun z20=>
 some true))))))
theorem Qmc:OfF jA Qd2:=ofF 29
def xC:rL Jg:=fun D L (y0,y1,y2,y3,y4,y5,y6,y7,y8,y9,y10,y11,y12,y13,y14,y15,y16,y17,y18)=>
 bif (decide ((wR (y2+1))<(y15.length:Int)))then(bif inb y2 y15.length then
 bif inb (wR (y2+1)) y15.length then
 bif fits (y14.length+ [((rd1 (0:Int) y15 y2),(rd1 (0:Int) y15 (wR (y2+1))))].length) 16 then
 Jg L (y0,y1,(wR (y2+2)),y3,y4,y5,y6,y7,y8,y9,y10,y11,y12,y13,(y14++[((rd1 (0:Int) y15 y2),(rd1 (0:Int) y15 (wR (y2+1))))]),y15,y16,y17,y18)else none else none else none)
 else(some (y0,y1,y3,y4,y5,y6,y7,y8,y9,y10,y11,y12,y13,y14,y16,y17,y18))
theorem xZ:OfL Jg xC:=ofL 30 0
def Qgz:rF QcC:=fun D L a0=>
 bif (decide ((a0.length:Int)<6))then(some (0,0,0,0,0,[],0,[],[],[],[],[],false))
 else(bif decide ((0:Int)<=0/\0<=((wR ((a0.length:Int) - 4)):Int)/\(wR ((a0.length:Int) - 4))<=(a0.length:Int))then
 (qY D (List.take (Int.toNat ((wR ((a0.length:Int) - 4)) - 0)) (List.drop (Int.toNat 0) a0))).bind fun r1=>
 bif decide ((0:Int)<=(wR ((a0.length:Int) - 4))/\(wR ((a0.length:Int) - 4))<=((a0.length:Int):Int)/\(a0.length:Int)<=(a0.length:Int))then
 bif (!XI (QG r1) (QG (List.take (Int.toNat ((a0.length:Int) - (wR ((a0.length:Int) - 4)))) (List.drop (Int.toNat (wR ((a0.length:Int) - 4))) a0))))then(some (0,0,0,0,0,[],0,[],[],[],[],[],false))
 else(bif decide ((0:Int)<=0/\0<=((wR ((a0.length:Int) - 4)):Int)/\(wR ((a0.length:Int) - 4))<=(a0.length:Int))then
 (QO D (List.take (Int.toNat ((wR ((a0.length:Int) - 4)) - 0)) (List.drop (Int.toNat 0) a0),2,false)).bind fun r2=>
 (QO D (List.take (Int.toNat ((wR ((a0.length:Int) - 4)) - 0)) (List.drop (Int.toNat 0) a0),r2.2)).bind fun r3=>
 (QO D (List.take (Int.toNat ((wR ((a0.length:Int) - 4)) - 0)) (List.drop (Int.toNat 0) a0),r3.2)).bind fun r4=>
 (QO D (List.take (Int.toNat ((wR ((a0.length:Int) - 4)) - 0)) (List.drop (Int.toNat 0) a0),r4.2)).bind fun r5=>
 (QO D (List.take (Int.toNat ((wR ((a0.length:Int) - 4)) - 0)) (List.drop (Int.toNat 0) a0),r5.2)).bind fun r6=>
 (Xx D (List.take (Int.toNat ((wR ((a0.length:Int) - 4)) - 0)) (List.drop (Int.toNat 0) a0),r6.2.1,r6.2.2,1)).bind fun r7=>
 (QO D (List.take (Int.toNat ((wR ((a0.length:Int) - 4)) - 0)) (List.drop (Int.toNat 0) a0),r7.2)).bind fun r8=>
 (Xx D (List.take (Int.toNat ((wR ((a0.length:Int) - 4)) - 0)) (List.drop (Int.toNat 0) a0),r8.2.1,r8.2.2,1)).bind fun r9=>
 (Xx D (List.take (Int.toNat ((wR ((a0.length:Int) - 4)) - 0)) (List.drop (Int.toNat 0) a0),r9.2.1,r9.2.2,1)).bind fun r10=>
 (QO D (List.take (Int.toNat ((wR ((a0.length:Int) - 4)) - 0)) (List.drop (Int.toNat 0) a0),r10.2)).bind fun r11=>
 bif r11.2.2 then(some (0,0,0,0,0,[],0,[],[],[],[],[],false))
 else(bif (decide ((wR (((List.length (List.take (Int.toNat ((wR ((a0.length:Int) - 4)) - 0)) (List.drop (Int.toNat 0) a0))):Int) - r11.2.1))<r11.1))then(some (0,0,0,0,0,[],0,[],[],[],[],[],false))
 else(bif decide ((0:Int)<=r11.2.1/\r11.2.1<=((wR (r11.2.1+r11.1)):Int)/\(wR (r11.2.1+r11.1))<=((List.length (List.take (Int.toNat ((wR ((a0.length:Int) - 4)) - 0)) (List.drop (Int.toNat 0) a0))):Int))then
 (zK D (List.take (Int.toNat ((wR (r11.2.1+r11.1)) - r11.2.1)) (List.drop (Int.toNat r11.2.1) (List.take (Int.toNat ((wR ((a0.length:Int) - 4)) - 0)) (List.drop (Int.toNat 0) a0))))).bind fun r12=>
 (Xx D (List.take (Int.toNat ((wR ((a0.length:Int) - 4)) - 0)) (List.drop (Int.toNat 0) a0),(wR (r11.2.1+r11.1)),r11.2.2,2)).bind fun r13=>
 (Jg L (a0,r12.2.2,0,r2.1,r3.1,r4.1,r5.1,r6.1,r7.1,r8.1,r9.1,r10.1,r12.1,r12.2.1,[],r13.1,List.take (Int.toNat ((wR ((a0.length:Int) - 4)) - 0)) (List.drop (Int.toNat 0) a0),r13.2)).bind fun z14=>
 bif (!z14.2.1)then(some (0,0,0,0,0,[],0,[],[],[],[],[],false))
 else(bif z14.2.2.2.2.2.2.2.2.2.2.2.2.2.2.2.2 then(some (0,0,0,0,0,[],0,[],[],[],[],[],false))
 else((ya D (z14.2.2.1,z14.2.2.2.1,z14.2.2.2.2.1,z14.2.2.2.2.2.1,z14.2.2.2.2.2.2.1,z14.2.2.2.2.2.2.2.1,z14.2.2.2.2.2.2.2.2.1,z14.2.2.2.2.2.2.2.2.2.1,z14.2.2.2.2.2.2.2.2.2.2.1,z14.2.2.2.2.2.2.2.2.2.2.2.1,z14.2.2.2.2.2.2.2.2.2.2.2.2.1,z14.2.2.2.2.2.2.2.2.2.2.2.2.2.1)).bind fun r15=>
 bif (!r15)then(some (0,0,0,0,0,[],0,[],[],[],[],[],false))
 else((xF D (z14.2.2.1,z14.2.2.2.1,z14.2.2.2.2.1,z14.2.2.2.2.2.1,z14.2.2.2.2.2.2.1,z14.2.2.2.2.2.2.2.1,z14.2.2.2.2.2.2.2.2.1,z14.2.2.2.2.2.2.2.2.2.1,z14.2.2.2.2.2.2.2.2.2.2.1,z14.2.2.2.2.2.2.2.2.2.2.2.1,z14.2.2.2.2.2.2.2.2.2.2.2.2.1,z14.2.2.2.2.2.2.2.2.2.2.2.2.2.1)).bind fun r16=>
 bif (!XI (QG r16) (QG z14.1))then(some (0,0,0,0,0,[],0,[],[],[],[],[],false))
 else(some (z14.2.2.1,z14.2.2.2.1,z14.2.2.2.2.1,z14.2.2.2.2.2.1,z14.2.2.2.2.2.2.1,z14.2.2.2.2.2.2.2.1,z14.2.2.2.2.2.2.2.2.1,z14.2.2.2.2.2.2.2.2.2.1,z14.2.2.2.2.2.2.2.2.2.2.1,z14.2.2.2.2.2.2.2.2.2.2.2.1,z14.2.2.2.2.2.2.2.2.2.2.2.2.1,z14.2.2.2.2.2.2.2.2.2.2.2.2.2.1,true)))))else none))else none)else none else none)
theorem QpT:OfF QcC Qgz:=ofF 30
def jc:rL KH:=fun D L (y0,y1,y2)=>
 bif (decide (y1<(y0.length:Int)))then(bif inb y1 y0.length then
 let e1:=(rd1 QcB y0 y1);
 (Qaf D e1).bind fun r2=>
 bif inb y1 y2.length then
 let l3:=List.set y2 (Int.toNat y1) r2;
 KH L (y0,(wR (y1+1)),l3)else none else none)
 else(some y2)
theorem Qbs:OfL KH jc:=ofL 31 0
def QeE:rF zT:=fun D L a0=>
 bif (decide ((0:Int)<=(a0.length:Int)/\((a0.length:Int):Int)=(a0.length:Int))&&fits (Int.toNat (a0.length:Int)) 296)then
 (KH L (a0,0,(List.replicate (Int.toNat (a0.length:Int)) (0,0,[],[],[],0,0,0,[],[],[],[],0,0,[],0,0,0,[])))).bind fun z4=>
 some z4 else none
theorem QlC:OfF zT QeE:=ofF 31
def vg:rL Kb:=fun D L (y0,y1,y2)=>
 bif (decide (y1<(y0.length:Int)))then(bif inb y1 y0.length then
 let e1:=(rd1 QcW y0 y1);
 (Qau D e1).bind fun r2=>
 bif inb y1 y2.length then
 let l3:=List.set y2 (Int.toNat y1) r2;
 Kb L (y0,(wR (y1+1)),l3)else none else none)
 else(some y2)
theorem QbM:OfL Kb vg:=ofL 32 0
def QdJ:rF jd:=fun D L a0=>
 bif (decide ((0:Int)<=(a0.length:Int)/\((a0.length:Int):Int)=(a0.length:Int))&&fits (Int.toNat (a0.length:Int)) 40)then
 (Kb L (a0,0,(List.replicate (Int.toNat (a0.length:Int)) (0,[],false)))).bind fun z4=>
 some z4 else none
theorem QlL:OfF jd QdJ:=ofF 32
def je:rL Kt:=fun D L (y0,y1,y2)=>
 bif (decide (y1<(y0.length:Int)))then(bif inb y1 y0.length then
 let e1:=(rd1 Qhu y0 y1);
 (QaA D e1).bind fun r2=>
 bif inb y1 y2.length then
 let l3:=List.set y2 (Int.toNat y1) r2;
 Kt L (y0,(wR (y1+1)),l3)else none else none)
 else(some y2)
theorem Qa6:OfL Kt je:=ofL 33 0
def Qe1:rF yf:=fun D L a0=>
 bif (decide ((0:Int)<=(a0.length:Int)/\((a0.length:Int):Int)=(a0.length:Int))&&fits (Int.toNat (a0.length:Int)) 56)then
 (Kt L (a0,0,(List.replicate (Int.toNat (a0.length:Int)) (0,[],[])))).bind fun z4=>
 some z4 else none
theorem QmV:OfF yf Qe1:=ofF 33
def QbY:rL Y3:=fun D L (y0,y1,y2,y3,y4,y5,y6,y7,y8,y9,y10,y11,y12,y13,y14,y15,y16,y17)=>
 bif (decide (y2<y1))then((Qs D (y15,y16,y17)).bind fun r13=>
 (Qs D (y15,r13.2)).bind fun r14=>
 bif fits (y14.length+ [(r13.1,r14.1)].length) 16 then
 Y3 L (y0,y1,(wR (y2+1)),y3,y4,y5,y6,y7,y8,y9,y10,y11,y12,y13,(y14++[(r13.1,r14.1)]),y15,r14.2)else none)
 else(some (y0,y3,y4,y5,y6,y7,y8,y9,y10,y11,y12,y13,y14,y15,y16,y17))
theorem Qd0:OfL Y3 QbY:=ofL 34 0
def Qhb:rF QcM:=fun D L a0=>
 bif (decide ((wR ((a0.length:Int) - 4))<2))then(some (0,0,0,0,0,[],0,[],[],[],[],[],false))
 else(bif decide ((0:Int)<=0/\0<=(2:Int)/\2<=(a0.length:Int))then
 bif (!XI (QG (List.take (Int.toNat (2 - 0)) (List.drop (Int.toNat 0) a0))) (⟨#[82,75]⟩:ByteArray))then(some (0,0,0,0,0,[],0,[],[],[],[],[],false))
 else(bif decide ((0:Int)<=0/\0<=((wR ((a0.length:Int) - 4)):Int)/\(wR ((a0.length:Int) - 4))<=(a0.length:Int))then
 (Qs D (List.take (Int.toNat ((wR ((a0.length:Int) - 4)) - 0)) (List.drop (Int.toNat 0) a0),2,false)).bind fun r1=>
 (Qs D (List.take (Int.toNat ((wR ((a0.length:Int) - 4)) - 0)) (List.drop (Int.toNat 0) a0),r1.2)).bind fun r2=>
 (Qs D (List.take (Int.toNat ((wR ((a0.length:Int) - 4)) - 0)) (List.drop (Int.toNat 0) a0),r2.2)).bind fun r3=>
 (Qs D (List.take (Int.toNat ((wR ((a0.length:Int) - 4)) - 0)) (List.drop (Int.toNat 0) a0),r3.2)).bind fun r4=>
 (Qs D (List.take (Int.toNat ((wR ((a0.length:Int) - 4)) - 0)) (List.drop (Int.toNat 0) a0),r4.2)).bind fun r5=>
 (XH D (List.take (Int.toNat ((wR ((a0.length:Int) - 4)) - 0)) (List.drop (Int.toNat 0) a0),r5.2.1,r5.2.2,4)).bind fun r6=>
 (Qs D (List.take (Int.toNat ((wR ((a0.length:Int) - 4)) - 0)) (List.drop (Int.toNat 0) a0),r6.2)).bind fun r7=>
 (XH D (List.take (Int.toNat ((wR ((a0.length:Int) - 4)) - 0)) (List.drop (Int.toNat 0) a0),r7.2.1,r7.2.2,5)).bind fun r8=>
 (XH D (List.take (Int.toNat ((wR ((a0.length:Int) - 4)) - 0)) (List.drop (Int.toNat 0) a0),r8.2.1,r8.2.2,4)).bind fun r9=>
 (Qs D (List.take (Int.toNat ((wR ((a0.length:Int) - 4)) - 0)) (List.drop (Int.toNat 0) a0),r9.2)).bind fun r10=>
 bif r10.2.2 then(some (0,0,0,0,0,[],0,[],[],[],[],[],false))
 else(bif (decide ((wR ((wR ((a0.length:Int) - 4)) - r10.2.1))<r10.1))then(some (0,0,0,0,0,[],0,[],[],[],[],[],false))
 else(bif decide ((0:Int)<=r10.2.1/\r10.2.1<=((wR (r10.2.1+r10.1)):Int)/\(wR (r10.2.1+r10.1))<=(a0.length:Int))then
 (yy D (List.take (Int.toNat ((wR (r10.2.1+r10.1)) - r10.2.1)) (List.drop (Int.toNat r10.2.1) a0))).bind fun r11=>
 bif (!r11.2.2)then(some (0,0,0,0,0,[],0,[],[],[],[],[],false))
 else((XY D (List.take (Int.toNat ((wR ((a0.length:Int) - 4)) - 0)) (List.drop (Int.toNat 0) a0),(wR (r10.2.1+r10.1)),r10.2.2,5)).bind fun r12=>
 (Y3 L (a0,r12.1,0,r1.1,r2.1,r3.1,r4.1,r5.1,r6.1,r7.1,r8.1,r9.1,r11.1,r11.2.1,[],List.take (Int.toNat ((wR ((a0.length:Int) - 4)) - 0)) (List.drop (Int.toNat 0) a0),r12.2)).bind fun z15=>
 bif z15.2.2.2.2.2.2.2.2.2.2.2.2.2.2.2 then(some (0,0,0,0,0,[],0,[],[],[],[],[],false))
 else((zB D (z15.2.1,z15.2.2.1,z15.2.2.2.1,z15.2.2.2.2.1,z15.2.2.2.2.2.1,z15.2.2.2.2.2.2.1,z15.2.2.2.2.2.2.2.1,z15.2.2.2.2.2.2.2.2.1,z15.2.2.2.2.2.2.2.2.2.1,z15.2.2.2.2.2.2.2.2.2.2.1,z15.2.2.2.2.2.2.2.2.2.2.2.1,z15.2.2.2.2.2.2.2.2.2.2.2.2.1)).bind fun r16=>
 bif (!r16)then(some (0,0,0,0,0,[],0,[],[],[],[],[],false))
 else((xL D (z15.2.1,z15.2.2.1,z15.2.2.2.1,z15.2.2.2.2.1,z15.2.2.2.2.2.1,z15.2.2.2.2.2.2.1,z15.2.2.2.2.2.2.2.1,z15.2.2.2.2.2.2.2.2.1,z15.2.2.2.2.2.2.2.2.2.1,z15.2.2.2.2.2.2.2.2.2.2.1,z15.2.2.2.2.2.2.2.2.2.2.2.1,z15.2.2.2.2.2.2.2.2.2.2.2.2.1)).bind fun r17=>
 (xk D (r17,z15.1)).bind fun r18=>
 bif (!r18)then(some (0,0,0,0,0,[],0,[],[],[],[],[],false))
 else(some (z15.2.1,z15.2.2.1,z15.2.2.2.1,z15.2.2.2.2.1,z15.2.2.2.2.2.1,z15.2.2.2.2.2.2.1,z15.2.2.2.2.2.2.2.1,z15.2.2.2.2.2.2.2.2.1,z15.2.2.2.2.2.2.2.2.2.1,z15.2.2.2.2.2.2.2.2.2.2.1,z15.2.2.2.2.2.2.2.2.2.2.2.1,z15.2.2.2.2.2.2.2.2.2.2.2.2.1,true)))))else none))else none)else none)
theorem QpJ:OfF QcM Qhb:=ofF 34
def yX:rL KF:=fun D L (y0,y1,y2,y3,y4,y5)=>
 bif (decide (y2<y1))then(bif inb y2 y0.length then
 let e2:=(rd1 QcB y0 y2);
 (xd D e2).bind fun r3=>
 bif (!r3)then(some (Sum.inl false))
 else(bif (!decide (e2.2.1=(y3.length:Int)))then(some (Sum.inl false))
 else(bif (!decide (e2.1=y2))then(some (Sum.inl false))
 else(KF L (y0,y1,(wR (y2+1)),y3,y4,y5))))else none)
 else(some (Sum.inr (y3,y4,y5)))
theorem QaP:OfL KF yX:=ofL 35 0
def jR:rL Kz:=fun D L (y0,y1,y2,y3,y4,y5)=>
 bif (decide (y2<y1))then(bif inb y2 y0.length then
 let e7:=(rd1 QcW y0 y2);
 (J2 D (y3,y4,y5,e7.1)).bind fun r8=>
 bif (!r8)then(some (Sum.inl false))
 else(Kz L (y0,y1,(wR (y2+1)),y3,y4,y5))else none)
 else(some (Sum.inr (y3,y4,y5)))
theorem Qbv:OfL Kz jR:=ofL 35 2
def jn:rL KL:=fun D L (y0,y1,y2,y3,y4,y5)=>
 bif (decide (y2<y1))then(bif inb y2 y0.length then
 let e12:=(rd1 Qhu y0 y2);
 (J2 D (y3,y4,y5,e12.1)).bind fun r13=>
 bif (!r13)then(some (Sum.inl false))
 else((XK D e12.2).bind fun r14=>
 bif (!r14)then(some (Sum.inl false))
 else(KL L (y0,y1,(wR (y2+1)),y3,y4,y5)))else none)
 else(some (Sum.inr ()))
theorem Qbi:OfL KL jn:=ofL 35 4
def Qd3:rF j6:=fun D L (a0,a1,a2)=>
 (Qr D ((a0.length:Int),1,5)).bind fun r1=>
 bif (!r1)then(some false)
 else(bif (decide (12<(a1.length:Int)))then(some false)
 else(bif (decide (40<(a2.length:Int)))then(some false)
 else((KF L (a0,(a0.length:Int),0,a0,a1,a2)).bind fun z4=>
 Qp z4 (fun u5=>
 some u5)
 (fun z6=>
 (Kz L (z6.2.1,(z6.2.1.length:Int),0,z6)).bind fun z9=>
 Qp z9 (fun u10=>
 some u10)
 (fun z11=>
 (KL L (z11.2.2,(z11.2.2.length:Int),0,z11)).bind fun z15=>
 Qp z15 (fun u16=>
 some u16)
 (fun z17=>
 some true))))))
theorem QmI:OfF j6 Qd3:=ofF 35
def vk:rL KI:=fun D L (y0,y1,y2)=>
 bif (decide (y2<(y0.length:Int)))then(bif inb y2 y0.length then
 let e1:=(rd1 QcB y0 y2);
 bif inb y2 y1.length then
 let e2:=(rd1 QcB y1 y2);
 (QaB D (e1.1,e1.2.1,e1.2.2.1,e1.2.2.2.1,e1.2.2.2.2.1,e1.2.2.2.2.2.1,e1.2.2.2.2.2.2.1,e1.2.2.2.2.2.2.2.1,e1.2.2.2.2.2.2.2.2.1,e1.2.2.2.2.2.2.2.2.2.1,e1.2.2.2.2.2.2.2.2.2.2.1,e1.2.2.2.2.2.2.2.2.2.2.2.1,e1.2.2.2.2.2.2.2.2.2.2.2.2.1,e1.2.2.2.2.2.2.2.2.2.2.2.2.2.1,e1.2.2.2.2.2.2.2.2.2.2.2.2.2.2.1,e1.2.2.2.2.2.2.2.2.2.2.2.2.2.2.2.1,e1.2.2.2.2.2.2.2.2.2.2.2.2.2.2.2.2.1,e1.2.2.2.2.2.2.2.2.2.2.2.2.2.2.2.2.2.1,e1.2.2.2.2.2.2.2.2.2.2.2.2.2.2.2.2.2.2,e2)).bind fun r3=>
 bif (!r3)then(some (Sum.inl false))
 else(KI L (y0,y1,(wR (y2+1))))else none else none)
 else(some (Sum.inr ()))
theorem QbG:OfL KI vk:=ofL 36 0
def Qec:rF jy:=fun D L (a0,a1)=>
 bif (!decide ((a0.length:Int)=(a1.length:Int)))then(some false)
 else((KI L (a0,a1,0)).bind fun z4=>
 Qp z4 (fun u5=>
 some u5)
 (fun z6=>
 some true))
theorem Qlw:OfF jy Qec:=ofF 36
end
end Go.Proofs.YtiejfnbmficbmaaGreat.M
