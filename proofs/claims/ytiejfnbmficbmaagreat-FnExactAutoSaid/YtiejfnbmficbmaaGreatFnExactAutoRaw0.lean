/- Plain forms of the functions that FnExactAuto reaches, part 0. No conditions. -/
import Derived.Test.YtiejfnbmficbmaaGreatFnExactAutoTab
set_option linter.all false
namespace Go.Proofs.YtiejfnbmficbmaaGreat.M
open Go Go.Eng Go.Proofs
set_option linter.unusedVariables false
noncomputable section
def QcC:rF v8:=fun D L (a0,a1,a2,a3)=>
 (Qbx D (a0,a1,a2,1048576)).bind fun r1=>
 bif (decide (r1<0))then(some true)
 else((V3 D (a0,a1,a2)).bind fun r2=>
 (Qlz D (r2.1,r2.2.1,r2.2.2,a3)).bind fun r3=>
 (V3 D (a0,a1,a2)).bind fun r4=>
 (QfW D (r4.1,r4.2.1,r4.2.2,a3)).bind fun r5=>
 (KF D (r5.1,r5.2.1,r5.2.2,r3)).bind fun r6=>
 bif (!r6)then(some false)
 else((V3 D (a0,a1,a2)).bind fun r7=>
 (KF D (r4.1,r4.2.1,r4.2.2,r7)).bind fun r8=>
 bif (!r8)then(some false)
 else((VE D (r4.1,r4.2.1,r4.2.2,1)).bind fun r9=>
 bif (decide (r9.1<0))then(some false)
 else((KF D (r5.1,r5.2.1,r5.2.2,r3)).bind fun r10=>
 bif (!r10)then(some false)
 else((VE D (r5.1,r5.2.1,r5.2.2,1)).bind fun r11=>
 (VG D (r11.2.1,r11.2.2.1,r11.2.2.2,1)).bind fun r12=>
 bif (decide (r12<0))then(some false)
 else(bif (!decide (r12=r11.1))then(some false)
 else((V3 D (a0,a1,a2)).bind fun r13=>
 (QfW D (r13.1,r13.2.1,r13.2.2,a3)).bind fun r14=>
 (KF D (r14.1,r14.2.1,r14.2.2,r3)).bind fun r15=>
 bif (!r15)then(some false)
 else((VG D (r11.2.1,r11.2.2.1,r11.2.2.2,1)).bind fun r16=>
 bif (decide (r16<0))then(some false)
 else(bif (!decide (r16=r11.1))then(some false)
 else(some true))))))))))
theorem QpG:OfF v8 QcC:=ofF 4
def Qjj:rF Qbx:=fun D L (a0,a1,a2,a3)=>
 (QcV D (a0,a3)).bind fun r1=>
 bif (decide (r1<0))then(some (-1))
 else((Qco D (a1,r1)).bind fun r2=>
 bif (decide (r2<0))then(some (-1))
 else((QaW D (a2,r2)).bind fun r3=>
 bif (decide (r3<0))then(some (-1))
 else(some r3)))
theorem Qu1:OfF Qbx Qjj:=ofF 8
def Qjm:rF V3:=fun D L (a0,a1,a2)=>
 (Qdu D a0).bind fun r1=>
 (Qb4 D a1).bind fun r2=>
 (QcR D a2).bind fun r3=>
 some (r1,r2,r3)
theorem QuZ:OfF V3 Qjm:=ofF 10
def QkR:rF KF:=fun D L (a0,a1,a2,a3,a4,a5)=>
 (Qbn D (a0,a3)).bind fun r1=>
 bif (!r1)then(some false)
 else((QbY D (a1,a4)).bind fun r2=>
 bif (!r2)then(some false)
 else((QcW D (a2,a5)).bind fun r3=>
 bif (!r3)then(some false)
 else(some true)))
theorem Qt6:OfF KF QkR:=ofF 12
def QjD:rL yU:=fun D L (y0,y1,y2,y3,y4)=>
 bif (decide (y1<y0))then(bif (decide (y1<60))then((Qmi D (y2,y3,y4,y1)).bind fun r2=>
 yU L (y0,(wR (y1+1)),r2))
 else(some (y2,y3,y4)))
 else(some (y2,y3,y4))
theorem QmG:OfL yU QjD:=ofL 13 0
def Qpq:rF Qlz:=fun D L (a0,a1,a2,a3)=>
 (VQ D (a0,a1,a2)).bind fun r1=>
 (yU L (a3,0,r1)).bind fun z3=>
 some z3
theorem QAn:OfF Qlz Qpq:=ofF 13
def Qjo:rL yD:=fun D L (y0,y1,y2,y3,y4)=>
 bif (decide (y1<y0))then(bif (decide (y1<60))then((Qmy D (y2,y3,y4,y1)).bind fun r2=>
 yD L (y0,(wR (y1+1)),r2))
 else(some (y2,y3,y4)))
 else(some (y2,y3,y4))
theorem Ql8:OfL yD Qjo:=ofL 14 0
def Qpu:rF QfW:=fun D L (a0,a1,a2,a3)=>
 (Kg D (a0,a1,a2)).bind fun r1=>
 (yD L (a3,0,r1)).bind fun z3=>
 some z3
theorem QAP:OfF QfW Qpu:=ofF 14
def Qgu:rF VE:=fun D L (a0,a1,a2,a3)=>
 (jE D (a0,a3)).bind fun r1=>
 (jn D (a1,r1.1)).bind fun r2=>
 (jz D (a2,r2.1)).bind fun r3=>
 some (r3.1,r1.2,r2.2,r3.2)
theorem Qrw:OfF VE Qgu:=ofF 15
def Qgp:rF VG:=fun D L (a0,a1,a2,a3)=>
 (jD D (a0,a3)).bind fun r1=>
 bif (decide (r1<0))then(some (-1))
 else((jv D (a1,r1)).bind fun r2=>
 bif (decide (r2<0))then(some (-1))
 else((jF D (a2,r2)).bind fun r3=>
 bif (decide (r3<0))then(some (-1))
 else(some r3)))
theorem QrB:OfF VG Qgp:=ofF 16
def Qek:rL xm:=fun D L (y0,y1,y2)=>
 bif (decide (y1<(y0.length:Int)))then(bif inb y1 y0.length then
 bif inb y1 y2.length then
 let l1:=List.set y2 (Int.toNat y1) (rd1 (0:Int) y0 y1);
 xm L (y0,(wR (y1+1)),l1)else none else none)
 else(some y2)
theorem QhR:OfL xm Qek:=ofL 20 0
def QmH:rF qO:=fun D L a0=>
 bif (decide ((0:Int)<=(a0.length:Int)/\((a0.length:Int):Int)=(a0.length:Int))&&fits (Int.toNat (a0.length:Int)) 8)then
 (xm L (a0,0,(List.replicate (Int.toNat (a0.length:Int)) 0))).bind fun z2=>
 some z2 else none
theorem QwE:OfF qO QmH:=ofF 20
def Qeg:rL xe:=fun D L (y0,y1,y2)=>
 bif (decide (y2<(y0.length:Int)))then(bif inb y2 y0.length then
 bif inb y2 y1.length then
 bif (!decide ((rd1 (0:Int) y0 y2)=(rd1 (0:Int) y1 y2)))then(some (Sum.inl false))
 else(xe L (y0,y1,(wR (y2+1))))else none else none)
 else(some (Sum.inr ()))
theorem QhT:OfL xe Qeg:=ofL 22 0
def Qk4:rF qy:=fun D L (a0,a1)=>
 bif (!decide ((a0.length:Int)=(a1.length:Int)))then(some false)
 else((xe L (a0,a1,0)).bind fun z1=>
 Qp z1 (fun u2=>
 some u2)
 (fun z3=>
 some true))
theorem QwC:OfF qy Qk4:=ofF 22
def Qao:rL Ke:=fun D L (y0,y1,y2)=>
 bif (decide (y1<(y2.length:Int)))then(bif inb y1 y2.length then
 let l1:=List.set y2 (Int.toNat y1) y0;
 Ke L ((wR (y0+1)),(wR (y1+1)),l1)else none)
 else(some (y0,y2))
theorem QdD:OfL Ke Qao:=ofL 23 0
def QhO:rF K6:=fun D L (a0,a1)=>
 (Ke L (a1,0,a0)).bind fun z2=>
 some z2
theorem QsF:OfF K6 QhO:=ofF 23
def zV:rL qo:=fun D L (y0,y1,y2)=>
 bif (decide (y2<(y0.length:Int)))then(bif inb y2 y0.length then
 let e1:=(rd1 Qv y0 y2);
 (QeW D (e1.1,e1.2.1,e1.2.2.1,e1.2.2.2.1,e1.2.2.2.2.1,e1.2.2.2.2.2.1,e1.2.2.2.2.2.2.1,e1.2.2.2.2.2.2.2.1,e1.2.2.2.2.2.2.2.2.1,e1.2.2.2.2.2.2.2.2.2.1,e1.2.2.2.2.2.2.2.2.2.2.1,e1.2.2.2.2.2.2.2.2.2.2.2.1,e1.2.2.2.2.2.2.2.2.2.2.2.2.1,e1.2.2.2.2.2.2.2.2.2.2.2.2.2.1,e1.2.2.2.2.2.2.2.2.2.2.2.2.2.2.1,e1.2.2.2.2.2.2.2.2.2.2.2.2.2.2.2.1,e1.2.2.2.2.2.2.2.2.2.2.2.2.2.2.2.2.1,e1.2.2.2.2.2.2.2.2.2.2.2.2.2.2.2.2.2.1,e1.2.2.2.2.2.2.2.2.2.2.2.2.2.2.2.2.2.2,y1)).bind fun r2=>
 bif (decide (r2<0))then(some (Sum.inl (-1)))
 else(qo L (y0,r2,(wR (y2+1))))else none)
 else(some (Sum.inr y1))
theorem yB:OfL qo zV:=ofL 26 0
def Qi6:rF QcV:=fun D L (a0,a1)=>
 bif (decide ((wR (a1 - (a0.length:Int)))<0))then(some (-1))
 else((qo L (a0,(wR (a1 - (a0.length:Int))),0)).bind fun z3=>
 Qp z3 (fun u4=>
 some u4)
 (fun z5=>
 some z5))
theorem QtF:OfF QcV Qi6:=ofF 26
def yp:rL JF:=fun D L (y0,y1,y2)=>
 bif (decide (y2<(y0.length:Int)))then(bif inb y2 y0.length then
 let e1:=(rd1 JQ y0 y2);
 (QeD D (e1.1,e1.2.1,e1.2.2,y1)).bind fun r2=>
 bif (decide (r2<0))then(some (Sum.inl (-1)))
 else(JF L (y0,r2,(wR (y2+1))))else none)
 else(some (Sum.inr y1))
theorem yR:OfL JF yp:=ofL 27 0
def QkM:rF Qco:=fun D L (a0,a1)=>
 bif (decide ((wR (a1 - (a0.length:Int)))<0))then(some (-1))
 else((JF L (a0,(wR (a1 - (a0.length:Int))),0)).bind fun z3=>
 Qp z3 (fun u4=>
 some u4)
 (fun z5=>
 some z5))
theorem Qto:OfF Qco QkM:=ofF 27
def yj:rL qv:=fun D L (y0,y1,y2)=>
 bif (decide (y2<(y0.length:Int)))then(bif inb y2 y0.length then
 let e1:=(rd1 KN y0 y2);
 (Qex D (e1.1,e1.2.1,e1.2.2,y1)).bind fun r2=>
 bif (decide (r2<0))then(some (Sum.inl (-1)))
 else(qv L (y0,r2,(wR (y2+1))))else none)
 else(some (Sum.inr y1))
theorem yq:OfL qv yj:=ofL 28 0
def QkI:rF QaW:=fun D L (a0,a1)=>
 bif (decide ((wR (a1 - (a0.length:Int)))<0))then(some (-1))
 else((qv L (a0,(wR (a1 - (a0.length:Int))),0)).bind fun z3=>
 Qp z3 (fun u4=>
 some u4)
 (fun z5=>
 some z5))
theorem Qvq:OfF QaW QkI:=ofF 28
def Qa1:rL qs:=fun D L (y0,y1,y2,y3,y4)=>
 bif (decide (y1<y0))then(bif inb y1 y2.length then
 let e2:=(rd1 Qv y2 y1);
 (Ys D e2).bind fun r3=>
 bif (!r3)then(some (Sum.inl false))
 else(bif inb y1 y2.length then
 let e4:=(rd1 Qv y2 y1);
 bif (!decide (e4.2.1=y0))then(some (Sum.inl false))
 else(bif inb y1 y2.length then
 let e5:=(rd1 Qv y2 y1);
 bif (!decide (e5.1=y1))then(some (Sum.inl false))
 else(qs L (y0,(wR (y1+1)),y2,y3,y4))else none)else none)else none)
 else(some (Sum.inr (y0,y2,y3,y4)))
theorem Qgm:OfL qs Qa1:=ofL 29 0
def Qc7:rL qp:=fun D L (y0,y1,y2,y3,y4)=>
 bif (decide (y1<(y3.length:Int)))then(bif inb y1 y3.length then
 let e9:=(rd1 JQ y3 y1);
 (QF D (e9.1,0,(wR (y0 - 1)))).bind fun r10=>
 bif (!r10)then(some (Sum.inl false))
 else(qp L (y0,(wR (y1+1)),y2,y3,y4))else none)
 else(some (Sum.inr (y0,y2,y3,y4)))
theorem QfQ:OfL qp Qc7:=ofL 29 2
def QbW:rL JH:=fun D L (y0,y1,y2,y3,y4)=>
 bif (decide (y1<(y4.length:Int)))then(bif inb y1 y4.length then
 let e14:=(rd1 KN y4 y1);
 (QF D (e14.1,0,(wR (y0 - 1)))).bind fun r15=>
 bif (!r15)then(some (Sum.inl false))
 else(bif inb y1 y4.length then
 let e16:=(rd1 KN y4 y1);
 (XA D e16.2).bind fun r17=>
 bif (!r17)then(some (Sum.inl false))
 else(JH L (y0,(wR (y1+1)),y2,y3,y4))else none)else none)
 else(some (Sum.inr ()))
theorem Qf2:OfL JH QbW:=ofL 29 4
def Qkf:rF yG:=fun D L (a0,a1,a2)=>
 (QF D ((a0.length:Int),1,5)).bind fun r1=>
 bif (!r1)then(some false)
 else(bif (decide (12<(a1.length:Int)))then(some false)
 else(bif (decide (40<(a2.length:Int)))then(some false)
 else((qs L ((a0.length:Int),0,a0,a1,a2)).bind fun z6=>
 Qp z6 (fun u7=>
 some u7)
 (fun z8=>
 (qp L (z8.1,0,z8.2)).bind fun z11=>
 Qp z11 (fun u12=>
 some u12)
 (fun z13=>
 (JH L (z13.1,0,z13.2)).bind fun z18=>
 Qp z18 (fun u19=>
 some u19)
 (fun z20=>
 some true))))))
theorem Qvd:OfF yG Qkf:=ofF 29
def Qcz:rL J4:=fun D L (y0,y1,y2)=>
 bif (decide (y1<(y0.length:Int)))then(bif inb y1 y0.length then
 let e1:=(rd1 Qv y0 y1);
 (QeI D e1).bind fun r2=>
 bif inb y1 y2.length then
 let l3:=List.set y2 (Int.toNat y1) r2;
 J4 L (y0,(wR (y1+1)),l3)else none else none)
 else(some y2)
theorem Qfo:OfL J4 Qcz:=ofL 31 0
def Qi0:rF Qdu:=fun D L a0=>
 bif (decide ((0:Int)<=(a0.length:Int)/\((a0.length:Int):Int)=(a0.length:Int))&&fits (Int.toNat (a0.length:Int)) 296)then
 (J4 L (a0,0,(List.replicate (Int.toNat (a0.length:Int)) (0,0,[],[],[],0,0,0,[],[],[],[],0,0,[],0,0,0,[])))).bind fun z4=>
 some z4 else none
theorem QuA:OfF Qdu Qi0:=ofF 31
def QcF:rL JR:=fun D L (y0,y1,y2)=>
 bif (decide (y1<(y0.length:Int)))then(bif inb y1 y0.length then
 let e1:=(rd1 JQ y0 y1);
 (Qey D e1).bind fun r2=>
 bif inb y1 y2.length then
 let l3:=List.set y2 (Int.toNat y1) r2;
 JR L (y0,(wR (y1+1)),l3)else none else none)
 else(some y2)
theorem Qfq:OfL JR QcF:=ofL 32 0
def Qjl:rF Qb4:=fun D L a0=>
 bif (decide ((0:Int)<=(a0.length:Int)/\((a0.length:Int):Int)=(a0.length:Int))&&fits (Int.toNat (a0.length:Int)) 40)then
 (JR L (a0,0,(List.replicate (Int.toNat (a0.length:Int)) (0,[],false)))).bind fun z4=>
 some z4 else none
theorem Qvm:OfF Qb4 Qjl:=ofF 32
def QcG:rL JV:=fun D L (y0,y1,y2)=>
 bif (decide (y1<(y0.length:Int)))then(bif inb y1 y0.length then
 let e1:=(rd1 KN y0 y1);
 (Qff D e1).bind fun r2=>
 bif inb y1 y2.length then
 let l3:=List.set y2 (Int.toNat y1) r2;
 JV L (y0,(wR (y1+1)),l3)else none else none)
 else(some y2)
theorem QgQ:OfL JV QcG:=ofL 33 0
def QiO:rF QcR:=fun D L a0=>
 bif (decide ((0:Int)<=(a0.length:Int)/\((a0.length:Int):Int)=(a0.length:Int))&&fits (Int.toNat (a0.length:Int)) 56)then
 (JV L (a0,0,(List.replicate (Int.toNat (a0.length:Int)) (0,[],[])))).bind fun z4=>
 some z4 else none
theorem QtZ:OfF QcR QiO:=ofF 33
def QcL:rL qb:=fun D L (y0,y1,y2,y3,y4,y5)=>
 bif (decide (y2<y1))then(bif inb y2 y0.length then
 let e2:=(rd1 Qv y0 y2);
 (ZH D e2).bind fun r3=>
 bif (!r3)then(some (Sum.inl false))
 else(bif (!decide (e2.2.1=(y3.length:Int)))then(some (Sum.inl false))
 else(bif (!decide (e2.1=y2))then(some (Sum.inl false))
 else(qb L (y0,y1,(wR (y2+1)),y3,y4,y5))))else none)
 else(some (Sum.inr (y3,y4,y5)))
theorem QgM:OfL qb QcL:=ofL 35 0
def Qa0:rL qq:=fun D L (y0,y1,y2,y3,y4,y5)=>
 bif (decide (y2<y1))then(bif inb y2 y0.length then
 let e7:=(rd1 JQ y0 y2);
 (VL D (y3,y4,y5,e7.1)).bind fun r8=>
 bif (!r8)then(some (Sum.inl false))
 else(qq L (y0,y1,(wR (y2+1)),y3,y4,y5))else none)
 else(some (Sum.inr (y3,y4,y5)))
theorem QfX:OfL qq Qa0:=ofL 35 2
def Qcw:rL JP:=fun D L (y0,y1,y2,y3,y4,y5)=>
 bif (decide (y2<y1))then(bif inb y2 y0.length then
 let e12:=(rd1 KN y0 y2);
 (VL D (y3,y4,y5,e12.1)).bind fun r13=>
 bif (!r13)then(some (Sum.inl false))
 else((Xs D e12.2).bind fun r14=>
 bif (!r14)then(some (Sum.inl false))
 else(JP L (y0,y1,(wR (y2+1)),y3,y4,y5)))else none)
 else(some (Sum.inr ()))
theorem QfR:OfL JP Qcw:=ofL 35 4
def QiY:rF yx:=fun D L (a0,a1,a2)=>
 (QA D ((a0.length:Int),1,5)).bind fun r1=>
 bif (!r1)then(some false)
 else(bif (decide (12<(a1.length:Int)))then(some false)
 else(bif (decide (40<(a2.length:Int)))then(some false)
 else((qb L (a0,(a0.length:Int),0,a0,a1,a2)).bind fun z4=>
 Qp z4 (fun u5=>
 some u5)
 (fun z6=>
 (qq L (z6.2.1,(z6.2.1.length:Int),0,z6)).bind fun z9=>
 Qp z9 (fun u10=>
 some u10)
 (fun z11=>
 (JP L (z11.2.2,(z11.2.2.length:Int),0,z11)).bind fun z15=>
 Qp z15 (fun u16=>
 some u16)
 (fun z17=>
 some true))))))
theorem Quk:OfF yx QiY:=ofF 35
def Qa4:rL J8:=fun D L (y0,y1,y2)=>
 bif (decide (y2<(y0.length:Int)))then(bif inb y2 y0.length then
 let e1:=(rd1 Qv y0 y2);
 bif inb y2 y1.length then
 let e2:=(rd1 Qv y1 y2);
 (Qfb D (e1.1,e1.2.1,e1.2.2.1,e1.2.2.2.1,e1.2.2.2.2.1,e1.2.2.2.2.2.1,e1.2.2.2.2.2.2.1,e1.2.2.2.2.2.2.2.1,e1.2.2.2.2.2.2.2.2.1,e1.2.2.2.2.2.2.2.2.2.1,e1.2.2.2.2.2.2.2.2.2.2.1,e1.2.2.2.2.2.2.2.2.2.2.2.1,e1.2.2.2.2.2.2.2.2.2.2.2.2.1,e1.2.2.2.2.2.2.2.2.2.2.2.2.2.1,e1.2.2.2.2.2.2.2.2.2.2.2.2.2.2.1,e1.2.2.2.2.2.2.2.2.2.2.2.2.2.2.2.1,e1.2.2.2.2.2.2.2.2.2.2.2.2.2.2.2.2.1,e1.2.2.2.2.2.2.2.2.2.2.2.2.2.2.2.2.2.1,e1.2.2.2.2.2.2.2.2.2.2.2.2.2.2.2.2.2.2,e2)).bind fun r3=>
 bif (!r3)then(some (Sum.inl false))
 else(J8 L (y0,y1,(wR (y2+1))))else none else none)
 else(some (Sum.inr ()))
theorem QfD:OfL J8 Qa4:=ofL 36 0
def Qks:rF Qbn:=fun D L (a0,a1)=>
 bif (!decide ((a0.length:Int)=(a1.length:Int)))then(some false)
 else((J8 L (a0,a1,0)).bind fun z4=>
 Qp z4 (fun u5=>
 some u5)
 (fun z6=>
 some true))
theorem QtO:OfF Qbn Qks:=ofF 36
def Qdb:rL Jy:=fun D L (y0,y1,y2)=>
 bif (decide (y2<(y0.length:Int)))then(bif inb y2 y0.length then
 let e1:=(rd1 JQ y0 y2);
 bif inb y2 y1.length then
 let e2:=(rd1 JQ y1 y2);
 (Qe4 D (e1.1,e1.2.1,e1.2.2,e2)).bind fun r3=>
 bif (!r3)then(some (Sum.inl false))
 else(Jy L (y0,y1,(wR (y2+1))))else none else none)
 else(some (Sum.inr ()))
theorem Qgc:OfL Jy Qdb:=ofL 37 0
def QkA:rF QbY:=fun D L (a0,a1)=>
 bif (!decide ((a0.length:Int)=(a1.length:Int)))then(some false)
 else((Jy L (a0,a1,0)).bind fun z4=>
 Qp z4 (fun u5=>
 some u5)
 (fun z6=>
 some true))
theorem Qts:OfF QbY QkA:=ofF 37
def QbE:rL JZ:=fun D L (y0,y1,y2)=>
 bif (decide (y2<(y0.length:Int)))then(bif inb y2 y0.length then
 let e1:=(rd1 KN y0 y2);
 bif inb y2 y1.length then
 let e2:=(rd1 KN y1 y2);
 (QeN D (e1.1,e1.2.1,e1.2.2,e2)).bind fun r3=>
 bif (!r3)then(some (Sum.inl false))
 else(JZ L (y0,y1,(wR (y2+1))))else none else none)
 else(some (Sum.inr ()))
theorem Qfm:OfL JZ QbE:=ofL 38 0
def Qj5:rF QcW:=fun D L (a0,a1)=>
 bif (!decide ((a0.length:Int)=(a1.length:Int)))then(some false)
 else((JZ L (a0,a1,0)).bind fun z4=>
 Qp z4 (fun u5=>
 some u5)
 (fun z6=>
 some true))
theorem Qvb:OfF QcW Qj5:=ofF 38
def Qce:rL JC:=fun D L (y0,y1,y2,y3,y4,y5,y6)=>
 bif (decide (y0<(y1.length:Int)))then(bif inb y0 y1.length then
 let e1:=(rd1 Qv y1 y0);
 (Xr D e1).bind fun r2=>
 bif fits (y4.length+ [r2].length) 296 then
 JC L ((wR (y0+1)),y1,y2,y3,(y4++[r2]),y5,y6)else none else none)
 else(some (y1,y2,y3,y4,y5,y6))
theorem Qgq:OfL JC Qce:=ofL 39 0
def Qde:rL J9:=fun D L (y0,y1,y2,y3,y4,y5,y6)=>
 bif (decide (y0<(y2.length:Int)))then(bif inb y0 y2.length then
 let e4:=(rd1 JQ y2 y0);
 (Qbg D e4).bind fun r5=>
 bif fits (y5.length+ [r5].length) 40 then
 J9 L ((wR (y0+1)),y1,y2,y3,y4,(y5++[r5]),y6)else none else none)
 else(some (y1,y2,y3,y4,y5,y6))
theorem Qgw:OfL J9 Qde:=ofL 39 2
def QcX:rL JW:=fun D L (y0,y1,y2,y3,y4,y5,y6)=>
 bif (decide (y0<(y3.length:Int)))then(bif inb y0 y3.length then
 let e7:=(rd1 KN y3 y0);
 bif inb y0 y3.length then
 let e8:=(rd1 KN y3 y0);
 (Z2 D e8.2).bind fun r9=>
 bif fits (y6.length+ [(e7.1,r9)].length) 56 then
 JW L ((wR (y0+1)),y1,y2,y3,y4,y5,(y6++[(e7.1,r9)]))else none else none else none)
 else(some (y4,y5,y6))
theorem QgL:OfL JW QcX:=ofL 39 4
def QkU:rF VQ:=fun D L (a0,a1,a2)=>
 (JC L (0,a0,a1,a2,[],[],[])).bind fun z3=>
 (J9 L (0,z3)).bind fun z6=>
 (JW L (0,z6)).bind fun z10=>
 some z10
theorem QuE:OfF VQ QkU:=ofF 39
def Qpj:rF Qmi:=fun D L (a0,a1,a2,a3)=>
 (VQ D (a0,a1,a2)).bind fun r1=>
 (QlF D (a0,a1,a2,a3)).bind fun r2=>
 bif (decide (r2.1<0))then(some r1)
 else(bif inb r2.1 r1.1.length then
 let e3:=(rd1 Qv r1.1 r2.1);
 (Qgt D (e3.1,e3.2.1,(rd1 Qv r1.1 r2.1).2.2.1,(rd1 Qv r1.1 r2.1).2.2.2.1,(rd1 Qv r1.1 r2.1).2.2.2.2.1,e3.2.2.2.2.2.1,e3.2.2.2.2.2.2.1,e3.2.2.2.2.2.2.2.1,(rd1 Qv r1.1 r2.1).2.2.2.2.2.2.2.2.1,(rd1 Qv r1.1 r2.1).2.2.2.2.2.2.2.2.2.1,(rd1 Qv r1.1 r2.1).2.2.2.2.2.2.2.2.2.2.1,(rd1 Qv r1.1 r2.1).2.2.2.2.2.2.2.2.2.2.2.1,e3.2.2.2.2.2.2.2.2.2.2.2.2.1,e3.2.2.2.2.2.2.2.2.2.2.2.2.2.1,(rd1 Qv r1.1 r2.1).2.2.2.2.2.2.2.2.2.2.2.2.2.2.1,e3.2.2.2.2.2.2.2.2.2.2.2.2.2.2.2.1,e3.2.2.2.2.2.2.2.2.2.2.2.2.2.2.2.2.1,e3.2.2.2.2.2.2.2.2.2.2.2.2.2.2.2.2.2.1,(rd1 Qv r1.1 r2.1).2.2.2.2.2.2.2.2.2.2.2.2.2.2.2.2.2.2)).bind fun r4=>
 bif inb r2.1 r1.1.length then
 let l5:=List.set r1.1 (Int.toNat r2.1) r4;
 bif inb r2.1 l5.length then
 let e6:=(rd1 Qv l5 r2.1);
 (vF D ((rd1 Qv l5 r2.1).2.2.1,(rd1 Qv l5 r2.1).2.2.2.1,r2.1)).bind fun r7=>
 bif r7.2.2.2.2.2 then(bif (decide ((r1.2.2.length:Int)<40))then(bif inb r2.1 l5.length then
 let e8:=(rd1 Qv l5 r2.1);
 (Qpc D (e8.1,e8.2.1,(rd1 Qv l5 r2.1).2.2.1,(rd1 Qv l5 r2.1).2.2.2.1,(rd1 Qv l5 r2.1).2.2.2.2.1,e8.2.2.2.2.2.1,e8.2.2.2.2.2.2.1,e8.2.2.2.2.2.2.2.1,(rd1 Qv l5 r2.1).2.2.2.2.2.2.2.2.1,(rd1 Qv l5 r2.1).2.2.2.2.2.2.2.2.2.1,(rd1 Qv l5 r2.1).2.2.2.2.2.2.2.2.2.2.1,(rd1 Qv l5 r2.1).2.2.2.2.2.2.2.2.2.2.2.1,e8.2.2.2.2.2.2.2.2.2.2.2.2.1,e8.2.2.2.2.2.2.2.2.2.2.2.2.2.1,(rd1 Qv l5 r2.1).2.2.2.2.2.2.2.2.2.2.2.2.2.2.1,e8.2.2.2.2.2.2.2.2.2.2.2.2.2.2.2.1,e8.2.2.2.2.2.2.2.2.2.2.2.2.2.2.2.2.1,e8.2.2.2.2.2.2.2.2.2.2.2.2.2.2.2.2.2.1,(rd1 Qv l5 r2.1).2.2.2.2.2.2.2.2.2.2.2.2.2.2.2.2.2.2,1,r2.1,(⟨#[]⟩:ByteArray))).bind fun r9=>
 bif (decide (r9.2.2.2.2.2.2.2.2.2.2.2.2.2.2.2.2.2.2.2.2.2=0))then(bif inb r2.1 l5.length then
 let l10:=List.set l5 (Int.toNat r2.1) (r9.1,r9.2.1,r9.2.2.1,r9.2.2.2.1,r9.2.2.2.2.1,r9.2.2.2.2.2.1,r9.2.2.2.2.2.2.1,r9.2.2.2.2.2.2.2.1,r9.2.2.2.2.2.2.2.2.1,r9.2.2.2.2.2.2.2.2.2.1,r9.2.2.2.2.2.2.2.2.2.2.1,r9.2.2.2.2.2.2.2.2.2.2.2.1,r9.2.2.2.2.2.2.2.2.2.2.2.2.1,r9.2.2.2.2.2.2.2.2.2.2.2.2.2.1,r9.2.2.2.2.2.2.2.2.2.2.2.2.2.2.1,r9.2.2.2.2.2.2.2.2.2.2.2.2.2.2.2.1,r9.2.2.2.2.2.2.2.2.2.2.2.2.2.2.2.2.1,r9.2.2.2.2.2.2.2.2.2.2.2.2.2.2.2.2.2.1,r9.2.2.2.2.2.2.2.2.2.2.2.2.2.2.2.2.2.2.1);
 bif fits (r1.2.2.length+ [(r2.1,r9.2.2.2.2.2.2.2.2.2.2.2.2.2.2.2.2.2.2.2.1,r9.2.2.2.2.2.2.2.2.2.2.2.2.2.2.2.2.2.2.2.2.1)].length) 56 then
 (Y2 D (l10,r1.2.1,(r1.2.2++[(r2.1,r9.2.2.2.2.2.2.2.2.2.2.2.2.2.2.2.2.2.2.2.1,r9.2.2.2.2.2.2.2.2.2.2.2.2.2.2.2.2.2.2.2.2.1)]),r2)).bind fun r11=>
 some (r11.1,r11.2.1,r11.2.2.1)else none else none)
 else((Y2 D (l5,r1.2.1,r1.2.2,r2)).bind fun r12=>
 some (r12.1,r12.2.1,r12.2.2.1))else none)
 else((Y2 D (l5,r1.2.1,r1.2.2,r2)).bind fun r13=>
 some (r13.1,r13.2.1,r13.2.2.1)))
 else((Y2 D (l5,r1.2.1,r1.2.2,r2)).bind fun r14=>
 some (r14.1,r14.2.1,r14.2.2.1))else none else none else none)
theorem Qz2:OfF Qmi Qpj:=ofF 40
def vg:rL Vj:=fun D L (y0,y1,y2,y3,y4,y5,y6,y7,y8)=>
 bif (decide (y2<y1))then(bif inb y2 y0.length then
 let e1:=(rd1 Qv y0 y2);
 (ZJ D e1).bind fun r2=>
 bif fits (y6.length+ [r2].length) 296 then
 Vj L (y0,y1,(wR (y2+1)),y3,y4,y5,(y6++[r2]),y7,y8)else none else none)
 else(some (y3,y4,y5,y6,y7,y8))
theorem QbQ:OfL Vj vg:=ofL 41 0
def jZ:rL Vi:=fun D L (y0,y1,y2,y3,y4,y5,y6,y7,y8)=>
 bif (decide (y2<y1))then(bif inb y2 y0.length then
 let e4:=(rd1 JQ y0 y2);
 (vY D e4).bind fun r5=>
 bif fits (y7.length+ [r5].length) 40 then
 Vi L (y0,y1,(wR (y2+1)),y3,y4,y5,y6,(y7++[r5]),y8)else none else none)
 else(some (y3,y4,y5,y6,y7,y8))
theorem QbC:OfL Vi jZ:=ofL 41 2
def vo:rL Ve:=fun D L (y0,y1,y2,y3,y4,y5)=>
 bif (decide (y2<y1))then(bif inb y2 y0.length then
 let e7:=(rd1 KN y0 y2);
 (X2 D e7.2).bind fun r8=>
 bif fits (y5.length+ [(e7.1,r8)].length) 56 then
 Ve L (y0,y1,(wR (y2+1)),y3,y4,(y5++[(e7.1,r8)]))else none else none)
 else(some (y3,y4,y5))
theorem Qcl:OfL Ve vo:=ofL 41 4
def QfM:rF Kg:=fun D L (a0,a1,a2)=>
 (Vj L (a0,(a0.length:Int),0,a0,a1,a2,[],[],[])).bind fun z3=>
 (Vi L (z3.2.1,(z3.2.1.length:Int),0,z3)).bind fun z6=>
 (Ve L (z6.2.2.1,(z6.2.2.1.length:Int),0,z6.2.2.2)).bind fun z9=>
 some z9
theorem Qrj:OfF Kg QfM:=ofF 41
end
end Go.Proofs.YtiejfnbmficbmaaGreat.M
