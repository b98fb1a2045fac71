/- Plain forms of the functions that FnExactIslands reaches, part 0. No conditions. -/
import Derived.Test.YtiejfnbmficbmaaGreatFnExactIslandsTab
set_option linter.all false
namespace Go.Proofs.YtiejfnbmficbmaaGreat.M
open Go Go.Eng Go.Proofs
set_option linter.unusedVariables false
noncomputable section
def jH:rF zE:=fun D L (a0,a1,a2,a3)=>
 bif (decide (1048576<(a3.length:Int)))then(some true)
 else((QcA D (a0,a1,a2,1048576)).bind fun r1=>
 bif (decide (r1<0))then(some true)
 else((VB D (a0,a1,a2)).bind fun r2=>
 (ZM D a3).bind fun r3=>
 (Qb4 D (r2.1,r2.2.1,r2.2.2,r3)).bind fun r4=>
 (VB D (a0,a1,a2)).bind fun r5=>
 (ZM D a3).bind fun r6=>
 (yu D (r5.1,r5.2.1,r5.2.2,r6)).bind fun r7=>
 (Ks D (r7.1,r7.2.1,r7.2.2,r4)).bind fun r8=>
 bif (!r8)then(some false)
 else((VB D (a0,a1,a2)).bind fun r9=>
 (Ks D (r5.1,r5.2.1,r5.2.2,r9)).bind fun r10=>
 bif (!r10)then(some false)
 else((ZM D a3).bind fun r11=>
 (Vn D (r6,r11)).bind fun r12=>
 bif (!r12)then(some false)
 else((Vv D (r5.1,r5.2.1,r5.2.2,1)).bind fun r13=>
 (YO D (r6,r13.1)).bind fun r14=>
 bif (decide (r14.1<0))then(some false)
 else((Ks D (r7.1,r7.2.1,r7.2.2,r4)).bind fun r15=>
 bif (!r15)then(some false)
 else((Vv D (r7.1,r7.2.1,r7.2.2,1)).bind fun r16=>
 (Vw D (r16.2.1,r16.2.2.1,r16.2.2.2,1)).bind fun r17=>
 bif (decide (r17<0))then(some false)
 else(bif (!decide (r17=r16.1))then(some false)
 else((VB D (a0,a1,a2)).bind fun r18=>
 (ZM D a3).bind fun r19=>
 (yu D (r18.1,r18.2.1,r18.2.2,r19)).bind fun r20=>
 (Ks D (r20.1,r20.2.1,r20.2.2,r4)).bind fun r21=>
 bif (!r21)then(some false)
 else((Vw D (r16.2.1,r16.2.2.1,r16.2.2.2,1)).bind fun r22=>
 bif (decide (r22<0))then(some false)
 else(bif (!decide (r22=r16.1))then(some false)
 else(some true))))))))))))
theorem QmI:OfF zE jH:=ofF 6
def Qj8:rF QcA:=fun D L (a0,a1,a2,a3)=>
 (Qa8 D (a0,a3)).bind fun r1=>
 bif (decide (r1<0))then(some (-1))
 else((Qcg D (a1,r1)).bind fun r2=>
 bif (decide (r2<0))then(some (-1))
 else((Qa2 D (a2,r2)).bind fun r3=>
 bif (decide (r3<0))then(some (-1))
 else(some r3)))
theorem QtK:OfF QcA Qj8:=ofF 8
def Qkq:rF VB:=fun D L (a0,a1,a2)=>
 (QbH D a0).bind fun r1=>
 (QcS D a1).bind fun r2=>
 (QaS D a2).bind fun r3=>
 some (r1,r2,r3)
theorem Qtg:OfF VB Qkq:=ofF 10
def Qkb:rF Ks:=fun D L (a0,a1,a2,a3,a4,a5)=>
 (Qbd D (a0,a3)).bind fun r1=>
 bif (!r1)then(some false)
 else((Qcl D (a1,a4)).bind fun r2=>
 bif (!r2)then(some false)
 else((Qbg D (a2,a5)).bind fun r3=>
 bif (!r3)then(some false)
 else(some true)))
theorem Qtd:OfF Ks Qkb:=ofF 12
def Qgb:rF Vv:=fun D L (a0,a1,a2,a3)=>
 (jC D (a0,a3)).bind fun r1=>
 (jG D (a1,r1.1)).bind fun r2=>
 (jr D (a2,r2.1)).bind fun r3=>
 some (r3.1,r1.2,r2.2,r3.2)
theorem Qrc:OfF Vv Qgb:=ofF 15
def Qf7:rF Vw:=fun D L (a0,a1,a2,a3)=>
 (jg D (a0,a3)).bind fun r1=>
 bif (decide (r1<0))then(some (-1))
 else((jB D (a1,r1)).bind fun r2=>
 bif (decide (r2<0))then(some (-1))
 else((jf D (a2,r2)).bind fun r3=>
 bif (decide (r3<0))then(some (-1))
 else(some r3)))
theorem QqR:OfF Vw Qf7:=ofF 16
def Qby:rL Jv:=fun D L (y0,y1,y2,y3,y4,y5,y6,y7)=>
 bif (decide (y1<(y2.length:Int)))then((Yv L (y0,y1,0,y2,y3,y4,y5,y6,y7)).bind fun z5=>
 Jv L (z5.1,(wR (z5.2.1+1)),z5.2.2))
 else(some (y5,y6,y7))
theorem Qfx:OfL Jv Qby:=ofL 19 0
def QbZ:rL Yv:=fun D L (y0,y1,y2,y3,y4,y5,y6,y7,y8)=>
 bif (decide (y2<(y3.length:Int)))then(bif (!decide (y1=y2))then(bif inb y1 y0.length then
 bif inb y2 y0.length then
 bif (decide ((rd1 (0:Int) y0 y1)=(rd1 (0:Int) y0 y2)))then((vE D (y6,y7,y8,y1,y2)).bind fun r4=>
 Yv L (y0,y1,(wR (y2+1)),y3,y4,y5,r4.1,r4.2.1,r4.2.2.1))
 else(Yv L (y0,y1,(wR (y2+1)),y3,y4,y5,y6,y7,y8))else none else none)
 else(Yv L (y0,y1,(wR (y2+1)),y3,y4,y5,y6,y7,y8)))
 else(some (y0,y1,y3,y4,y5,y6,y7,y8))
theorem QgA:OfL Yv QbZ:=ofL 19 2
def Qjw:rF Qb4:=fun D L (a0,a1,a2,a3)=>
 (QeC D (a0,a1,a2,a3)).bind fun r1=>
 bif (!r1)then((Vy D (a0,a1,a2)).bind fun r2=>
 some r2)
 else((Qlo D (a0,a1,a2)).bind fun r3=>
 (Jv L (a3,0,a0,a1,a2,r3)).bind fun z6=>
 some z6)
theorem Quy:OfF Qb4 Qjw:=ofF 19
def Qef:rL xa:=fun D L (y0,y1,y2)=>
 bif (decide (y1<(y0.length:Int)))then(bif inb y1 y0.length then
 bif inb y1 y2.length then
 let l1:=List.set y2 (Int.toNat y1) (rd1 (0:Int) y0 y1);
 xa L (y0,(wR (y1+1)),l1)else none else none)
 else(some y2)
theorem QhL:OfL xa Qef:=ofL 20 0
def Qk8:rF ZM:=fun D L a0=>
 bif (decide ((0:Int)<=(a0.length:Int)/\((a0.length:Int):Int)=(a0.length:Int))&&fits (Int.toNat (a0.length:Int)) 8)then
 (xa L (a0,0,(List.replicate (Int.toNat (a0.length:Int)) 0))).bind fun z2=>
 some z2 else none
theorem Qvt:OfF ZM Qk8:=ofF 20
def QkB:rF yu:=fun D L (a0,a1,a2,a3)=>
 (Qe3 D (a0,a1,a2,a3)).bind fun r1=>
 bif (!r1)then((Y7 D (a0,a1,a2)).bind fun r2=>
 some r2)
 else((QlQ D (a0,a1,a2)).bind fun r3=>
 (Jo D (r3.1,r3.2.1,r3.2.2,a3)).bind fun r4=>
 some r4)
theorem QsT:OfF yu QkB:=ofF 21
def Qeb:rL xk:=fun D L (y0,y1,y2)=>
 bif (decide (y2<(y0.length:Int)))then(bif inb y2 y0.length then
 bif inb y2 y1.length then
 bif (!decide ((rd1 (0:Int) y0 y2)=(rd1 (0:Int) y1 y2)))then(some (Sum.inl false))
 else(xk L (y0,y1,(wR (y2+1))))else none else none)
 else(some (Sum.inr ()))
theorem Qhs:OfL xk Qeb:=ofL 22 0
def Qlt:rF Vn:=fun D L (a0,a1)=>
 bif (!decide ((a0.length:Int)=(a1.length:Int)))then(some false)
 else((xk L (a0,a1,0)).bind fun z1=>
 Qp z1 (fun u2=>
 some u2)
 (fun z3=>
 some true))
theorem Qwj:OfF Vn Qlt:=ofF 22
def Qam:rL YW:=fun D L (y0,y1,y2)=>
 bif (decide (y1<(y2.length:Int)))then(bif inb y1 y2.length then
 let l1:=List.set y2 (Int.toNat y1) y0;
 YW L ((wR (y0+1)),(wR (y1+1)),l1)else none)
 else(some (y0,y2))
theorem QdF:OfL YW Qam:=ofL 23 0
def QhH:rF YO:=fun D L (a0,a1)=>
 (YW L (a1,0,a0)).bind fun z2=>
 some z2
theorem Qr8:OfF YO QhH:=ofF 23
def zT:rL J5:=fun D L (y0,y1,y2)=>
 bif (decide (y2<(y0.length:Int)))then(bif inb y2 y0.length then
 let e1:=(rd1 Qv y0 y2);
 (QeP D (e1.1,e1.2.1,e1.2.2.1,e1.2.2.2.1,e1.2.2.2.2.1,e1.2.2.2.2.2.1,e1.2.2.2.2.2.2.1,e1.2.2.2.2.2.2.2.1,e1.2.2.2.2.2.2.2.2.1,e1.2.2.2.2.2.2.2.2.2.1,e1.2.2.2.2.2.2.2.2.2.2.1,e1.2.2.2.2.2.2.2.2.2.2.2.1,e1.2.2.2.2.2.2.2.2.2.2.2.2.1,e1.2.2.2.2.2.2.2.2.2.2.2.2.2.1,e1.2.2.2.2.2.2.2.2.2.2.2.2.2.2.1,e1.2.2.2.2.2.2.2.2.2.2.2.2.2.2.2.1,e1.2.2.2.2.2.2.2.2.2.2.2.2.2.2.2.2.1,e1.2.2.2.2.2.2.2.2.2.2.2.2.2.2.2.2.2.1,e1.2.2.2.2.2.2.2.2.2.2.2.2.2.2.2.2.2.2,y1)).bind fun r2=>
 bif (decide (r2<0))then(some (Sum.inl (-1)))
 else(J5 L (y0,r2,(wR (y2+1))))else none)
 else(some (Sum.inr y1))
theorem yf:OfL J5 zT:=ofL 26 0
def QiK:rF Qa8:=fun D L (a0,a1)=>
 bif (decide ((wR (a1 - (a0.length:Int)))<0))then(some (-1))
 else((J5 L (a0,(wR (a1 - (a0.length:Int))),0)).bind fun z3=>
 Qp z3 (fun u4=>
 some u4)
 (fun z5=>
 some z5))
theorem Qtp:OfF Qa8 QiK:=ofF 26
def zZ:rL JH:=fun D L (y0,y1,y2)=>
 bif (decide (y2<(y0.length:Int)))then(bif inb y2 y0.length then
 let e1:=(rd1 J0 y0 y2);
 (QeA D (e1.1,e1.2.1,e1.2.2,y1)).bind fun r2=>
 bif (decide (r2<0))then(some (Sum.inl (-1)))
 else(JH L (y0,r2,(wR (y2+1))))else none)
 else(some (Sum.inr y1))
theorem yo:OfL JH zZ:=ofL 27 0
def QjL:rF Qcg:=fun D L (a0,a1)=>
 bif (decide ((wR (a1 - (a0.length:Int)))<0))then(some (-1))
 else((JH L (a0,(wR (a1 - (a0.length:Int))),0)).bind fun z3=>
 Qp z3 (fun u4=>
 some u4)
 (fun z5=>
 some z5))
theorem Que:OfF Qcg QjL:=ofF 27
def zX:rL Jz:=fun D L (y0,y1,y2)=>
 bif (decide (y2<(y0.length:Int)))then(bif inb y2 y0.length then
 let e1:=(rd1 Kz y0 y2);
 (QeG D (e1.1,e1.2.1,e1.2.2,y1)).bind fun r2=>
 bif (decide (r2<0))then(some (Sum.inl (-1)))
 else(Jz L (y0,r2,(wR (y2+1))))else none)
 else(some (Sum.inr y1))
theorem yg:OfL Jz zX:=ofL 28 0
def Qkt:rF Qa2:=fun D L (a0,a1)=>
 bif (decide ((wR (a1 - (a0.length:Int)))<0))then(some (-1))
 else((Jz L (a0,(wR (a1 - (a0.length:Int))),0)).bind fun z3=>
 Qp z3 (fun u4=>
 some u4)
 (fun z5=>
 some z5))
theorem QuV:OfF Qa2 Qkt:=ofF 28
def QbN:rL JK:=fun D L (y0,y1,y2,y3,y4)=>
 bif (decide (y1<y0))then(bif inb y1 y2.length then
 let e2:=(rd1 Qv y2 y1);
 (Ka D e2).bind fun r3=>
 bif (!r3)then(some (Sum.inl false))
 else(bif inb y1 y2.length then
 let e4:=(rd1 Qv y2 y1);
 bif (!decide (e4.2.1=y0))then(some (Sum.inl false))
 else(bif inb y1 y2.length then
 let e5:=(rd1 Qv y2 y1);
 bif (!decide (e5.1=y1))then(some (Sum.inl false))
 else(JK L (y0,(wR (y1+1)),y2,y3,y4))else none)else none)else none)
 else(some (Sum.inr (y0,y2,y3,y4)))
theorem QfN:OfL JK QbN:=ofL 29 0
def Qco:rL Jk:=fun D L (y0,y1,y2,y3,y4)=>
 bif (decide (y1<(y3.length:Int)))then(bif inb y1 y3.length then
 let e9:=(rd1 J0 y3 y1);
 (QE D (e9.1,0,(wR (y0 - 1)))).bind fun r10=>
 bif (!r10)then(some (Sum.inl false))
 else(Jk L (y0,(wR (y1+1)),y2,y3,y4))else none)
 else(some (Sum.inr (y0,y2,y3,y4)))
theorem Qfs:OfL Jk Qco:=ofL 29 2
def Qbt:rL JD:=fun D L (y0,y1,y2,y3,y4)=>
 bif (decide (y1<(y4.length:Int)))then(bif inb y1 y4.length then
 let e14:=(rd1 Kz y4 y1);
 (QE D (e14.1,0,(wR (y0 - 1)))).bind fun r15=>
 bif (!r15)then(some (Sum.inl false))
 else(bif inb y1 y4.length then
 let e16:=(rd1 Kz y4 y1);
 (Zw D e16.2).bind fun r17=>
 bif (!r17)then(some (Sum.inl false))
 else(JD L (y0,(wR (y1+1)),y2,y3,y4))else none)else none)
 else(some (Sum.inr ()))
theorem Qfy:OfL JD Qbt:=ofL 29 4
def Qi4:rF qR:=fun D L (a0,a1,a2)=>
 (QE D ((a0.length:Int),1,5)).bind fun r1=>
 bif (!r1)then(some false)
 else(bif (decide (12<(a1.length:Int)))then(some false)
 else(bif (decide (40<(a2.length:Int)))then(some false)
 else((JK L ((a0.length:Int),0,a0,a1,a2)).bind fun z6=>
 Qp z6 (fun u7=>
 some u7)
 (fun z8=>
 (Jk L (z8.1,0,z8.2)).bind fun z11=>
 Qp z11 (fun u12=>
 some u12)
 (fun z13=>
 (JD L (z13.1,0,z13.2)).bind fun z18=>
 Qp z18 (fun u19=>
 some u19)
 (fun z20=>
 some true))))))
theorem QsM:OfF qR Qi4:=ofF 29
def QbO:rL J9:=fun D L (y0,y1,y2)=>
 bif (decide (y1<(y0.length:Int)))then(bif inb y1 y0.length then
 let e1:=(rd1 Qv y0 y1);
 (QeL D e1).bind fun r2=>
 bif inb y1 y2.length then
 let l3:=List.set y2 (Int.toNat y1) r2;
 J9 L (y0,(wR (y1+1)),l3)else none else none)
 else(some y2)
theorem Qgm:OfL J9 QbO:=ofL 31 0
def QiL:rF QbH:=fun D L a0=>
 bif (decide ((0:Int)<=(a0.length:Int)/\((a0.length:Int):Int)=(a0.length:Int))&&fits (Int.toNat (a0.length:Int)) 296)then
 (J9 L (a0,0,(List.replicate (Int.toNat (a0.length:Int)) (0,0,[],[],[],0,0,0,[],[],[],[],0,0,[],0,0,0,[])))).bind fun z4=>
 some z4 else none
theorem QuT:OfF QbH QiL:=ofF 31
def Qb8:rL qb:=fun D L (y0,y1,y2)=>
 bif (decide (y1<(y0.length:Int)))then(bif inb y1 y0.length then
 let e1:=(rd1 J0 y0 y1);
 (QeN D e1).bind fun r2=>
 bif inb y1 y2.length then
 let l3:=List.set y2 (Int.toNat y1) r2;
 qb L (y0,(wR (y1+1)),l3)else none else none)
 else(some y2)
theorem Qgi:OfL qb Qb8:=ofL 32 0
def QjV:rF QcS:=fun D L a0=>
 bif (decide ((0:Int)<=(a0.length:Int)/\((a0.length:Int):Int)=(a0.length:Int))&&fits (Int.toNat (a0.length:Int)) 40)then
 (qb L (a0,0,(List.replicate (Int.toNat (a0.length:Int)) (0,[],false)))).bind fun z4=>
 some z4 else none
theorem QuF:OfF QcS QjV:=ofF 32
def QbR:rL JL:=fun D L (y0,y1,y2)=>
 bif (decide (y1<(y0.length:Int)))then(bif inb y1 y0.length then
 let e1:=(rd1 Kz y0 y1);
 (QeS D e1).bind fun r2=>
 bif inb y1 y2.length then
 let l3:=List.set y2 (Int.toNat y1) r2;
 JL L (y0,(wR (y1+1)),l3)else none else none)
 else(some y2)
theorem Qfp:OfL JL QbR:=ofL 33 0
def QjB:rF QaS:=fun D L a0=>
 bif (decide ((0:Int)<=(a0.length:Int)/\((a0.length:Int):Int)=(a0.length:Int))&&fits (Int.toNat (a0.length:Int)) 56)then
 (JL L (a0,0,(List.replicate (Int.toNat (a0.length:Int)) (0,[],[])))).bind fun z4=>
 some z4 else none
theorem Quf:OfF QaS QjB:=ofF 33
def Qa1:rL Ju:=fun D L (y0,y1,y2,y3,y4,y5)=>
 bif (decide (y2<y1))then(bif inb y2 y0.length then
 let e2:=(rd1 Qv y0 y2);
 (ZO D e2).bind fun r3=>
 bif (!r3)then(some (Sum.inl false))
 else(bif (!decide (e2.2.1=(y3.length:Int)))then(some (Sum.inl false))
 else(bif (!decide (e2.1=y2))then(some (Sum.inl false))
 else(Ju L (y0,y1,(wR (y2+1)),y3,y4,y5))))else none)
 else(some (Sum.inr (y3,y4,y5)))
theorem Qgr:OfL Ju Qa1:=ofL 35 0
def Qcj:rL Jl:=fun D L (y0,y1,y2,y3,y4,y5)=>
 bif (decide (y2<y1))then(bif inb y2 y0.length then
 let e7:=(rd1 J0 y0 y2);
 (VE D (y3,y4,y5,e7.1)).bind fun r8=>
 bif (!r8)then(some (Sum.inl false))
 else(Jl L (y0,y1,(wR (y2+1)),y3,y4,y5))else none)
 else(some (Sum.inr (y3,y4,y5)))
theorem Qgw:OfL Jl Qcj:=ofL 35 2
def Qb0:rL JR:=fun D L (y0,y1,y2,y3,y4,y5)=>
 bif (decide (y2<y1))then(bif inb y2 y0.length then
 let e12:=(rd1 Kz y0 y2);
 (VE D (y3,y4,y5,e12.1)).bind fun r13=>
 bif (!r13)then(some (Sum.inl false))
 else((XG D e12.2).bind fun r14=>
 bif (!r14)then(some (Sum.inl false))
 else(JR L (y0,y1,(wR (y2+1)),y3,y4,y5)))else none)
 else(some (Sum.inr ()))
theorem QfP:OfL JR Qb0:=ofL 35 4
def Qkk:rF xz:=fun D L (a0,a1,a2)=>
 (QC D ((a0.length:Int),1,5)).bind fun r1=>
 bif (!r1)then(some false)
 else(bif (decide (12<(a1.length:Int)))then(some false)
 else(bif (decide (40<(a2.length:Int)))then(some false)
 else((Ju L (a0,(a0.length:Int),0,a0,a1,a2)).bind fun z4=>
 Qp z4 (fun u5=>
 some u5)
 (fun z6=>
 (Jl L (z6.2.1,(z6.2.1.length:Int),0,z6)).bind fun z9=>
 Qp z9 (fun u10=>
 some u10)
 (fun z11=>
 (JR L (z11.2.2,(z11.2.2.length:Int),0,z11)).bind fun z15=>
 Qp z15 (fun u16=>
 some u16)
 (fun z17=>
 some true))))))
theorem QuI:OfF xz Qkk:=ofF 35
def Qc8:rL Jw:=fun D L (y0,y1,y2)=>
 bif (decide (y2<(y0.length:Int)))then(bif inb y2 y0.length then
 let e1:=(rd1 Qv y0 y2);
 bif inb y2 y1.length then
 let e2:=(rd1 Qv y1 y2);
 (Qeq D (e1.1,e1.2.1,e1.2.2.1,e1.2.2.2.1,e1.2.2.2.2.1,e1.2.2.2.2.2.1,e1.2.2.2.2.2.2.1,e1.2.2.2.2.2.2.2.1,e1.2.2.2.2.2.2.2.2.1,e1.2.2.2.2.2.2.2.2.2.1,e1.2.2.2.2.2.2.2.2.2.2.1,e1.2.2.2.2.2.2.2.2.2.2.2.1,e1.2.2.2.2.2.2.2.2.2.2.2.2.1,e1.2.2.2.2.2.2.2.2.2.2.2.2.2.1,e1.2.2.2.2.2.2.2.2.2.2.2.2.2.2.1,e1.2.2.2.2.2.2.2.2.2.2.2.2.2.2.2.1,e1.2.2.2.2.2.2.2.2.2.2.2.2.2.2.2.2.1,e1.2.2.2.2.2.2.2.2.2.2.2.2.2.2.2.2.2.1,e1.2.2.2.2.2.2.2.2.2.2.2.2.2.2.2.2.2.2,e2)).bind fun r3=>
 bif (!r3)then(some (Sum.inl false))
 else(Jw L (y0,y1,(wR (y2+1))))else none else none)
 else(some (Sum.inr ()))
theorem QfF:OfL Jw Qc8:=ofL 36 0
def QiZ:rF Qbd:=fun D L (a0,a1)=>
 bif (!decide ((a0.length:Int)=(a1.length:Int)))then(some false)
 else((Jw L (a0,a1,0)).bind fun z4=>
 Qp z4 (fun u5=>
 some u5)
 (fun z6=>
 some true))
theorem QtA:OfF Qbd QiZ:=ofF 36
def Qcz:rL Jr:=fun D L (y0,y1,y2)=>
 bif (decide (y2<(y0.length:Int)))then(bif inb y2 y0.length then
 let e1:=(rd1 J0 y0 y2);
 bif inb y2 y1.length then
 let e2:=(rd1 J0 y1 y2);
 (QeD D (e1.1,e1.2.1,e1.2.2,e2)).bind fun r3=>
 bif (!r3)then(some (Sum.inl false))
 else(Jr L (y0,y1,(wR (y2+1))))else none else none)
 else(some (Sum.inr ()))
theorem Qgu:OfL Jr Qcz:=ofL 37 0
def QjO:rF Qcl:=fun D L (a0,a1)=>
 bif (!decide ((a0.length:Int)=(a1.length:Int)))then(some false)
 else((Jr L (a0,a1,0)).bind fun z4=>
 Qp z4 (fun u5=>
 some u5)
 (fun z6=>
 some true))
theorem Quu:OfF Qcl QjO:=ofF 37
def QbE:rL Jy:=fun D L (y0,y1,y2)=>
 bif (decide (y2<(y0.length:Int)))then(bif inb y2 y0.length then
 let e1:=(rd1 Kz y0 y2);
 bif inb y2 y1.length then
 let e2:=(rd1 Kz y1 y2);
 (Qev D (e1.1,e1.2.1,e1.2.2,e2)).bind fun r3=>
 bif (!r3)then(some (Sum.inl false))
 else(Jy L (y0,y1,(wR (y2+1))))else none else none)
 else(some (Sum.inr ()))
theorem Qfe:OfL Jy QbE:=ofL 38 0
def QiY:rF Qbg:=fun D L (a0,a1)=>
 bif (!decide ((a0.length:Int)=(a1.length:Int)))then(some false)
 else((Jy L (a0,a1,0)).bind fun z4=>
 Qp z4 (fun u5=>
 some u5)
 (fun z6=>
 some true))
theorem Qs0:OfF Qbg QiY:=ofF 38
def Qb7:rL JO:=fun D L (y0,y1,y2,y3,y4,y5,y6)=>
 bif (decide (y0<(y1.length:Int)))then(bif inb y0 y1.length then
 let e1:=(rd1 Qv y1 y0);
 (Xt D e1).bind fun r2=>
 bif fits (y4.length+ [r2].length) 296 then
 JO L ((wR (y0+1)),y1,y2,y3,(y4++[r2]),y5,y6)else none else none)
 else(some (y1,y2,y3,y4,y5,y6))
theorem Qfm:OfL JO Qb7:=ofL 39 0
def Qcn:rL J7:=fun D L (y0,y1,y2,y3,y4,y5,y6)=>
 bif (decide (y0<(y2.length:Int)))then(bif inb y0 y2.length then
 let e4:=(rd1 J0 y2 y0);
 (Qbi D e4).bind fun r5=>
 bif fits (y5.length+ [r5].length) 40 then
 J7 L ((wR (y0+1)),y1,y2,y3,y4,(y5++[r5]),y6)else none else none)
 else(some (y1,y2,y3,y4,y5,y6))
theorem QfM:OfL J7 Qcn:=ofL 39 2
def Qcf:rL JS:=fun D L (y0,y1,y2,y3,y4,y5,y6)=>
 bif (decide (y0<(y3.length:Int)))then(bif inb y0 y3.length then
 let e7:=(rd1 Kz y3 y0);
 bif inb y0 y3.length then
 let e8:=(rd1 Kz y3 y0);
 (Kd D e8.2).bind fun r9=>
 bif fits (y6.length+ [(e7.1,r9)].length) 56 then
 JS L ((wR (y0+1)),y1,y2,y3,y4,y5,(y6++[(e7.1,r9)]))else none else none else none)
 else(some (y4,y5,y6))
theorem QgJ:OfL JS Qcf:=ofL 39 4
def QiS:rF Vy:=fun D L (a0,a1,a2)=>
 (JO L (0,a0,a1,a2,[],[],[])).bind fun z3=>
 (J7 L (0,z3)).bind fun z6=>
 (JS L (0,z6)).bind fun z10=>
 some z10
theorem QtU:OfF Vy QiS:=ofF 39
def j9:rL K7:=fun D L (y0,y1,y2,y3,y4,y5,y6,y7,y8)=>
 bif (decide (y2<y1))then(bif inb y2 y0.length then
 let e1:=(rd1 Qv y0 y2);
 (ZW D e1).bind fun r2=>
 bif fits (y6.length+ [r2].length) 296 then
 K7 L (y0,y1,(wR (y2+1)),y3,y4,y5,(y6++[r2]),y7,y8)else none else none)
 else(some (y3,y4,y5,y6,y7,y8))
theorem QaQ:OfL K7 j9:=ofL 41 0
def jM:rL K6:=fun D L (y0,y1,y2,y3,y4,y5,y6,y7,y8)=>
 bif (decide (y2<y1))then(bif inb y2 y0.length then
 let e4:=(rd1 J0 y0 y2);
 (vJ D e4).bind fun r5=>
 bif fits (y7.length+ [r5].length) 40 then
 K6 L (y0,y1,(wR (y2+1)),y3,y4,y5,y6,(y7++[r5]),y8)else none else none)
 else(some (y3,y4,y5,y6,y7,y8))
theorem QaN:OfL K6 jM:=ofL 41 2
def j6:rL K5:=fun D L (y0,y1,y2,y3,y4,y5)=>
 bif (decide (y2<y1))then(bif inb y2 y0.length then
 let e7:=(rd1 Kz y0 y2);
 (Zy D e7.2).bind fun r8=>
 bif fits (y5.length+ [(e7.1,r8)].length) 56 then
 K5 L (y0,y1,(wR (y2+1)),y3,y4,(y5++[(e7.1,r8)]))else none else none)
 else(some (y3,y4,y5))
theorem QbC:OfL K5 j6:=ofL 41 4
def QgC:rF Y7:=fun D L (a0,a1,a2)=>
 (K7 L (a0,(a0.length:Int),0,a0,a1,a2,[],[],[])).bind fun z3=>
 (K6 L (z3.2.1,(z3.2.1.length:Int),0,z3)).bind fun z6=>
 (K5 L (z6.2.2.1,(z6.2.2.1.length:Int),0,z6.2.2.2)).bind fun z9=>
 some z9
theorem Qq0:OfF Y7 QgC:=ofF 41
def jW:rL YN:=fun D L (y0,y1,y2)=>
 bif (decide (y1<(y2.length:Int)))then(bif inb y1 y2.length then
 let e1:=(rd1 Qv y2 y1);
 let l2:=List.set y2 (Int.toNat y1) (y0,e1.2);
 bif inb y1 l2.length then
 let e3:=(rd1 Qv l2 y1);
 let l4:=List.set l2 (Int.toNat y1) (e3.1,(wR (y0+1)),e3.2.2);
 bif inb y1 l4.length then
 let e5:=(rd1 Qv l4 y1);
 (Vu D ((rd1 Qv l4 y1).2.2.1,(wR ((wR (y0+1))+1)))).bind fun r6=>
 let e7:=(rd1 Qv l4 y1);
 let l8:=List.set l4 (Int.toNat y1) (e7.1,e7.2.1,r6.2,e7.2.2.2);
 bif inb y1 l8.length then
 let e9:=(rd1 Qv l8 y1);
 (KH D ((rd1 Qv l8 y1).2.2.2.1,r6.1)).bind fun r10=>
 let e11:=(rd1 Qv l8 y1);
 let l12:=List.set l8 (Int.toNat y1) (e11.1,e11.2.1,e11.2.2.1,r10.2,e11.2.2.2.2);
 bif inb y1 l12.length then
 let e13:=(rd1 Qv l12 y1);
 (YO D ((rd1 Qv l12 y1).2.2.2.2.1,r10.1)).bind fun r14=>
 let e15:=(rd1 Qv l12 y1);
 let l16:=List.set l12 (Int.toNat y1) (e15.1,e15.2.1,e15.2.2.1,e15.2.2.2.1,r14.2,e15.2.2.2.2.2);
 bif inb y1 l16.length then
 let e17:=(rd1 Qv l16 y1);
 let l18:=List.set l16 (Int.toNat y1) (e17.1,e17.2.1,e17.2.2.1,e17.2.2.2.1,e17.2.2.2.2.1,r14.1,e17.2.2.2.2.2.2);
 bif inb y1 l18.length then
 let e19:=(rd1 Qv l18 y1);
 let l20:=List.set l18 (Int.toNat y1) (e19.1,e19.2.1,e19.2.2.1,e19.2.2.2.1,e19.2.2.2.2.1,e19.2.2.2.2.2.1,(wR (r14.1+1)),e19.2.2.2.2.2.2.2);
 bif inb y1 l20.length then
 let e21:=(rd1 Qv l20 y1);
 let l22:=List.set l20 (Int.toNat y1) (e21.1,e21.2.1,e21.2.2.1,e21.2.2.2.1,e21.2.2.2.2.1,e21.2.2.2.2.2.1,e21.2.2.2.2.2.2.1,(wR ((wR (r14.1+1))+1)),e21.2.2.2.2.2.2.2.2);
 bif inb y1 l22.length then
 let e23:=(rd1 Qv l22 y1);
 (zQ D ((rd1 Qv l22 y1).2.2.2.2.2.2.2.2.1,(wR ((wR ((wR (r14.1+1))+1))+1)))).bind fun r24=>
 let e25:=(rd1 Qv l22 y1);
 let l26:=List.set l22 (Int.toNat y1) (e25.1,e25.2.1,e25.2.2.1,e25.2.2.2.1,e25.2.2.2.2.1,e25.2.2.2.2.2.1,e25.2.2.2.2.2.2.1,e25.2.2.2.2.2.2.2.1,r24.2,e25.2.2.2.2.2.2.2.2.2);
 bif inb y1 l26.length then
 let e27:=(rd1 Qv l26 y1);
 (YO D ((rd1 Qv l26 y1).2.2.2.2.2.2.2.2.2.1,r24.1)).bind fun r28=>
 let e29:=(rd1 Qv l26 y1);
 let l30:=List.set l26 (Int.toNat y1) (e29.1,e29.2.1,e29.2.2.1,e29.2.2.2.1,e29.2.2.2.2.1,e29.2.2.2.2.2.1,e29.2.2.2.2.2.2.1,e29.2.2.2.2.2.2.2.1,e29.2.2.2.2.2.2.2.2.1,r28.2,e29.2.2.2.2.2.2.2.2.2.2);
 bif inb y1 l30.length then
 let e31:=(rd1 Qv l30 y1);
 (YO D ((rd1 Qv l30 y1).2.2.2.2.2.2.2.2.2.2.1,r28.1)).bind fun r32=>
 let e33:=(rd1 Qv l30 y1);
 let l34:=List.set l30 (Int.toNat y1) (e33.1,e33.2.1,e33.2.2.1,e33.2.2.2.1,e33.2.2.2.2.1,e33.2.2.2.2.2.1,e33.2.2.2.2.2.2.1,e33.2.2.2.2.2.2.2.1,e33.2.2.2.2.2.2.2.2.1,e33.2.2.2.2.2.2.2.2.2.1,r32.2,e33.2.2.2.2.2.2.2.2.2.2.2);
 bif inb y1 l34.length then
 let e35:=(rd1 Qv l34 y1);
 (yZ D ((rd1 Qv l34 y1).2.2.2.2.2.2.2.2.2.2.2.1,r32.1)).bind fun r36=>
 let e37:=(rd1 Qv l34 y1);
 let l38:=List.set l34 (Int.toNat y1) (e37.1,e37.2.1,e37.2.2.1,e37.2.2.2.1,e37.2.2.2.2.1,e37.2.2.2.2.2.1,e37.2.2.2.2.2.2.1,e37.2.2.2.2.2.2.2.1,e37.2.2.2.2.2.2.2.2.1,e37.2.2.2.2.2.2.2.2.2.1,e37.2.2.2.2.2.2.2.2.2.2.1,r36.2,e37.2.2.2.2.2.2.2.2.2.2.2.2);
 bif inb y1 l38.length then
 let e39:=(rd1 Qv l38 y1);
 let l40:=List.set l38 (Int.toNat y1) (e39.1,e39.2.1,e39.2.2.1,e39.2.2.2.1,e39.2.2.2.2.1,e39.2.2.2.2.2.1,e39.2.2.2.2.2.2.1,e39.2.2.2.2.2.2.2.1,e39.2.2.2.2.2.2.2.2.1,e39.2.2.2.2.2.2.2.2.2.1,e39.2.2.2.2.2.2.2.2.2.2.1,e39.2.2.2.2.2.2.2.2.2.2.2.1,r36.1,e39.2.2.2.2.2.2.2.2.2.2.2.2.2);
 bif inb y1 l40.length then
 let e41:=(rd1 Qv l40 y1);
 let l42:=List.set l40 (Int.toNat y1) (e41.1,e41.2.1,e41.2.2.1,e41.2.2.2.1,e41.2.2.2.2.1,e41.2.2.2.2.2.1,e41.2.2.2.2.2.2.1,e41.2.2.2.2.2.2.2.1,e41.2.2.2.2.2.2.2.2.1,e41.2.2.2.2.2.2.2.2.2.1,e41.2.2.2.2.2.2.2.2.2.2.1,e41.2.2.2.2.2.2.2.2.2.2.2.1,e41.2.2.2.2.2.2.2.2.2.2.2.2.1,(wR (r36.1+1)),e41.2.2.2.2.2.2.2.2.2.2.2.2.2.2);
 bif inb y1 l42.length then
 let e43:=(rd1 Qv l42 y1);
 (jt D ((rd1 Qv l42 y1).2.2.2.2.2.2.2.2.2.2.2.2.2.2.1,(wR ((wR (r36.1+1))+1)))).bind fun r44=>
 let e45:=(rd1 Qv l42 y1);
 let l46:=List.set l42 (Int.toNat y1) (e45.1,e45.2.1,e45.2.2.1,e45.2.2.2.1,e45.2.2.2.2.1,e45.2.2.2.2.2.1,e45.2.2.2.2.2.2.1,e45.2.2.2.2.2.2.2.1,e45.2.2.2.2.2.2.2.2.1,e45.2.2.2.2.2.2.2.2.2.1,e45.2.2.2.2.2.2.2.2.2.2.1,e45.2.2.2.2.2.2.2.2.2.2.2.1,e45.2.2.2.2.2.2.2.2.2.2.2.2.1,e45.2.2.2.2.2.2.2.2.2.2.2.2.2.1,r44.2,e45.2.2.2.2.2.2.2.2.2.2.2.2.2.2.2);
 bif inb y1 l46.length then
 let e47:=(rd1 Qv l46 y1);
 let l48:=List.set l46 (Int.toNat y1) (e47.1,e47.2.1,e47.2.2.1,e47.2.2.2.1,e47.2.2.2.2.1,e47.2.2.2.2.2.1,e47.2.2.2.2.2.2.1,e47.2.2.2.2.2.2.2.1,e47.2.2.2.2.2.2.2.2.1,e47.2.2.2.2.2.2.2.2.2.1,e47.2.2.2.2.2.2.2.2.2.2.1,e47.2.2.2.2.2.2.2.2.2.2.2.1,e47.2.2.2.2.2.2.2.2.2.2.2.2.1,e47.2.2.2.2.2.2.2.2.2.2.2.2.2.1,e47.2.2.2.2.2.2.2.2.2.2.2.2.2.2.1,r44.1,e47.2.2.2.2.2.2.2.2.2.2.2.2.2.2.2.2);
 bif inb y1 l48.length then
 let e49:=(rd1 Qv l48 y1);
 let l50:=List.set l48 (Int.toNat y1) (e49.1,e49.2.1,e49.2.2.1,e49.2.2.2.1,e49.2.2.2.2.1,e49.2.2.2.2.2.1,e49.2.2.2.2.2.2.1,e49.2.2.2.2.2.2.2.1,e49.2.2.2.2.2.2.2.2.1,e49.2.2.2.2.2.2.2.2.2.1,e49.2.2.2.2.2.2.2.2.2.2.1,e49.2.2.2.2.2.2.2.2.2.2.2.1,e49.2.2.2.2.2.2.2.2.2.2.2.2.1,e49.2.2.2.2.2.2.2.2.2.2.2.2.2.1,e49.2.2.2.2.2.2.2.2.2.2.2.2.2.2.1,e49.2.2.2.2.2.2.2.2.2.2.2.2.2.2.2.1,(wR (r44.1+1)),e49.2.2.2.2.2.2.2.2.2.2.2.2.2.2.2.2.2);
 bif inb y1 l50.length then
 let e51:=(rd1 Qv l50 y1);
 let l52:=List.set l50 (Int.toNat y1) (e51.1,e51.2.1,e51.2.2.1,e51.2.2.2.1,e51.2.2.2.2.1,e51.2.2.2.2.2.1,e51.2.2.2.2.2.2.1,e51.2.2.2.2.2.2.2.1,e51.2.2.2.2.2.2.2.2.1,e51.2.2.2.2.2.2.2.2.2.1,e51.2.2.2.2.2.2.2.2.2.2.1,e51.2.2.2.2.2.2.2.2.2.2.2.1,e51.2.2.2.2.2.2.2.2.2.2.2.2.1,e51.2.2.2.2.2.2.2.2.2.2.2.2.2.1,e51.2.2.2.2.2.2.2.2.2.2.2.2.2.2.1,e51.2.2.2.2.2.2.2.2.2.2.2.2.2.2.2.1,e51.2.2.2.2.2.2.2.2.2.2.2.2.2.2.2.2.1,(wR ((wR (r44.1+1))+1)),e51.2.2.2.2.2.2.2.2.2.2.2.2.2.2.2.2.2.2);
 bif inb y1 l52.length then
 let e53:=(rd1 Qv l52 y1);
 (ji D ((rd1 Qv l52 y1).2.2.2.2.2.2.2.2.2.2.2.2.2.2.2.2.2.2,(wR ((wR ((wR (r44.1+1))+1))+1)))).bind fun r54=>
 let e55:=(rd1 Qv l52 y1);
 let l56:=List.set l52 (Int.toNat y1) (e55.1,e55.2.1,e55.2.2.1,e55.2.2.2.1,e55.2.2.2.2.1,e55.2.2.2.2.2.1,e55.2.2.2.2.2.2.1,e55.2.2.2.2.2.2.2.1,e55.2.2.2.2.2.2.2.2.1,e55.2.2.2.2.2.2.2.2.2.1,e55.2.2.2.2.2.2.2.2.2.2.1,e55.2.2.2.2.2.2.2.2.2.2.2.1,e55.2.2.2.2.2.2.2.2.2.2.2.2.1,e55.2.2.2.2.2.2.2.2.2.2.2.2.2.1,e55.2.2.2.2.2.2.2.2.2.2.2.2.2.2.1,e55.2.2.2.2.2.2.2.2.2.2.2.2.2.2.2.1,e55.2.2.2.2.2.2.2.2.2.2.2.2.2.2.2.2.1,e55.2.2.2.2.2.2.2.2.2.2.2.2.2.2.2.2.2.1,r54.2);
 YN L (r54.1,(wR (y1+1)),l56)else none else none else none else none else none else none else none else none else none else none else none else none else none else none else none else none else none else none else none)
 else(some (y0,y2))
theorem Qci:OfL YN jW:=ofL 43 0
def Qf9:rF jC:=fun D L (a0,a1)=>
 (YN L (a1,0,a0)).bind fun z57=>
 some z57
theorem Qra:OfF jC Qf9:=ofF 43
end
end Go.Proofs.YtiejfnbmficbmaaGreat.M
