/- Plain forms of the functions that FnExactStep reaches, part 0. No conditions. -/
import Derived.Test.YtjenicbpdklpbaaGreatFnExactStepTab
set_option linter.all false
namespace Go.Proofs.YtjenicbpdklpbaaGreat.M
open Go Go.Eng Go.Proofs
set_option linter.unusedVariables false
noncomputable section
def Qcb:rF vY:=fun D L (a0,a1,a2,a3)=>
 (Qdd D (a0,a1,a2,1048576)).bind fun r1=>
 bif (decide (r1<0))then(some true)
 else((V2 D (a0,a1,a2)).bind fun r2=>
 (QlP D (r2.1,r2.2.1,r2.2.2,a3)).bind fun r3=>
 (V2 D (a0,a1,a2)).bind fun r4=>
 (QfZ D (r4.1,r4.2.1,r4.2.2,a3)).bind fun r5=>
 (Kv D (r5.1,r5.2.1,r5.2.2,r3)).bind fun r6=>
 bif (!r6)then(some false)
 else((V2 D (a0,a1,a2)).bind fun r7=>
 (Kv D (r4.1,r4.2.1,r4.2.2,r7)).bind fun r8=>
 bif (!r8)then(some false)
 else((Vs D (r4.1,r4.2.1,r4.2.2,1)).bind fun r9=>
 bif (decide (r9.1<0))then(some false)
 else((Kv D (r5.1,r5.2.1,r5.2.2,r3)).bind fun r10=>
 bif (!r10)then(some false)
 else((Vs D (r5.1,r5.2.1,r5.2.2,1)).bind fun r11=>
 (Vu D (r11.2.1,r11.2.2.1,r11.2.2.2,1)).bind fun r12=>
 bif (decide (r12<0))then(some false)
 else(bif (!decide (r12=r11.1))then(some false)
 else((V2 D (a0,a1,a2)).bind fun r13=>
 (QfZ D (r13.1,r13.2.1,r13.2.2,a3)).bind fun r14=>
 (Kv D (r14.1,r14.2.1,r14.2.2,r3)).bind fun r15=>
 bif (!r15)then(some false)
 else((Vu D (r11.2.1,r11.2.2.1,r11.2.2.2,1)).bind fun r16=>
 bif (decide (r16<0))then(some false)
 else(bif (!decide (r16=r11.1))then(some false)
 else(some true))))))))))
theorem QoU:OfF vY Qcb:=ofF 14
def QiB:rF Qdd:=fun D L (a0,a1,a2,a3)=>
 (Qb0 D (a0,a3)).bind fun r1=>
 bif (decide (r1<0))then(some (-1))
 else((QaW D (a1,r1)).bind fun r2=>
 bif (decide (r2<0))then(some (-1))
 else((QaC D (a2,r2)).bind fun r3=>
 bif (decide (r3<0))then(some (-1))
 else(some r3)))
theorem Qtu:OfF Qdd QiB:=ofF 15
def Qkp:rF V2:=fun D L (a0,a1,a2)=>
 (QcB D a0).bind fun r1=>
 (QbP D a1).bind fun r2=>
 (Qbj D a2).bind fun r3=>
 some (r1,r2,r3)
theorem Qui:OfF V2 Qkp:=ofF 17
def QiJ:rF Kv:=fun D L (a0,a1,a2,a3,a4,a5)=>
 (QcZ D (a0,a3)).bind fun r1=>
 bif (!r1)then(some false)
 else((Qb6 D (a1,a4)).bind fun r2=>
 bif (!r2)then(some false)
 else((QcL D (a2,a5)).bind fun r3=>
 bif (!r3)then(some false)
 else(some true)))
theorem Qs3:OfF Kv QiJ:=ofF 19
def QoK:rF QlJ:=fun D L (a0,a1,a2,a3)=>
 (zY D (a0,a1,a2)).bind fun r1=>
 bif (!r1)then(some ((-1),(-1)))
 else(bif (decide ((a0.length:Int)<2))then(some ((-1),(-1)))
 else(bif (decide (a3<0))then(some ((-1),(-1)))
 else(bif decide (((a0.length:Int):Int)≠0)then
 bif decide (((a0.length:Int):Int)≠0)then
 bif decide (((wR ((a0.length:Int) - 1)):Int)≠0)then
 bif decide (((a0.length:Int):Int)≠0)then
 some ((Int.tmod a3 (a0.length:Int)),(Int.tmod (wR ((wR ((Int.tmod a3 (a0.length:Int))+1))+(Int.tmod (wR (Int.tdiv a3 (a0.length:Int))) (wR ((a0.length:Int) - 1))))) (a0.length:Int)))else none else none else none else none)))
theorem Qzf:OfF QlJ QoK:=ofF 20
def QoL:rF QkR:=fun D L (a0,a1,a2,a3)=>
 (ym D (a0,a1,a2)).bind fun r1=>
 bif (!r1)then(some ((-1),(-1)))
 else(bif (decide ((a0.length:Int)=1))then(some ((-1),(-1)))
 else(bif (decide (a3<0))then(some ((-1),(-1)))
 else(bif decide (((a0.length:Int):Int)≠0)then
 bif decide (((a0.length:Int):Int)≠0)then
 bif decide (((wR ((a0.length:Int) - 1)):Int)≠0)then
 bif decide (((a0.length:Int):Int)≠0)then
 some ((Int.tmod a3 (a0.length:Int)),(Int.tmod (wR ((wR ((Int.tmod a3 (a0.length:Int))+1))+(Int.tmod (wR (Int.tdiv a3 (a0.length:Int))) (wR ((a0.length:Int) - 1))))) (a0.length:Int)))else none else none else none else none)))
theorem Qyw:OfF QkR QoL:=ofF 21
def Ql4:rF QeF:=fun D L (a0,a1,a2,a3,a4,a5,a6,a7,a8,a9,a10,a11,a12,a13,a14,a15,a16,a17,a18,a19)=>
 (qS D (a2,a3,a19)).bind fun r1=>
 bif (decide (r1<0))then(some (-1))
 else((Qew D (a4,a5,r1)).bind fun r2=>
 bif (decide (r2<0))then(some (-1))
 else((QhT D (a6,a7,a8,r2)).bind fun r3=>
 bif (decide (r3<0))then(some (-1))
 else((qD D (a9,r3)).bind fun r4=>
 bif (decide (r4<0))then(some (-1))
 else((qD D (a10,r4)).bind fun r5=>
 bif (decide (r5<0))then(some (-1))
 else((Qbd D (a11,r5)).bind fun r6=>
 bif (decide (r6<0))then(some (-1))
 else((QcI D (a14,r6)).bind fun r7=>
 bif (decide (r7<0))then(some (-1))
 else((QaT D (a18,r7)).bind fun r8=>
 bif (decide (r8<0))then(some (-1))
 else(some r8))))))))
theorem Qwc:OfF QeF Ql4:=ofF 28
def Ql9:rF Qeg:=fun D L (a0,a1,a2,a3,a4,a5,a6,a7,a8,a9,a10,a11,a12,a13,a14,a15,a16,a17,a18)=>
 (qK D (a2,a3)).bind fun r1=>
 (Qef D (a4,a5)).bind fun r2=>
 (Qhy D (a6,a7,a8)).bind fun r3=>
 (qx D a9).bind fun r4=>
 (qx D a10).bind fun r5=>
 (Qa0 D a11).bind fun r6=>
 (Qbw D a14).bind fun r7=>
 (QbB D a18).bind fun r8=>
 some (a0,a1,r1.1,r1.2,r2.1,r2.2,r3.1,r3.2.1,r3.2.2,r4,r5,r6,a12,a13,r7,a15,a16,a17,r8)
theorem Qvb:OfF Qeg Ql9:=ofF 30
def QkY:rF QeX:=fun D L (a0,a1,a2,a3,a4,a5,a6,a7,a8,a9,a10,a11,a12,a13,a14,a15,a16,a17,a18,a19,a20,a21,a22,a23,a24,a25,a26,a27,a28,a29,a30,a31,a32,a33,a34,a35,a36,a37)=>
 bif (!decide (a0=a19))then(some false)
 else(bif (!decide (a1=a20))then(some false)
 else((xf D (a2,a3,a21,a22)).bind fun r1=>
 bif (!r1)then(some false)
 else((Qei D (a4,a5,a23,a24)).bind fun r2=>
 bif (!r2)then(some false)
 else((QhC D (a6,a7,a8,a25,a26,a27)).bind fun r3=>
 bif (!r3)then(some false)
 else((qB D (a9,a28)).bind fun r4=>
 bif (!r4)then(some false)
 else((qB D (a10,a29)).bind fun r5=>
 bif (!r5)then(some false)
 else((Qcj D (a11,a30)).bind fun r6=>
 bif (!r6)then(some false)
 else(bif (!decide (a12=a31))then(some false)
 else(bif (!decide (a13=a32))then(some false)
 else((Qb4 D (a14,a33)).bind fun r7=>
 bif (!r7)then(some false)
 else(bif (!decide (a15=a34))then(some false)
 else(bif (!decide (a16=a35))then(some false)
 else(bif (!decide (a17=a36))then(some false)
 else((Qb5 D (a18,a37)).bind fun r8=>
 bif (!r8)then(some false)
 else(some true)))))))))))))))
theorem Qvq:OfF QeX QkY:=ofF 32
def Qa4:rL qd:=fun D L (y0,y1,y2)=>
 bif (decide (y2<(y0.length:Int)))then(bif inb y2 y0.length then
 let e1:=(rd1 XU y0 y2);
 bif inb y2 y1.length then
 let e2:=(rd1 XU y1 y2);
 (Qer D (e1.1,e1.2.1,e1.2.2.1,e1.2.2.2.1,e1.2.2.2.2.1,e1.2.2.2.2.2,e2)).bind fun r3=>
 bif (!r3)then(some (Sum.inl false))
 else(qd L (y0,y1,(wR (y2+1))))else none else none)
 else(some (Sum.inr ()))
theorem QfH:OfL qd Qa4:=ofL 37 0
def QiX:rF Qda:=fun D L (a0,a1)=>
 bif (!decide ((a0.length:Int)=(a1.length:Int)))then(some false)
 else((qd L (a0,a1,0)).bind fun z4=>
 Qn z4 (fun u5=>
 some u5)
 (fun z6=>
 some true))
theorem QsF:OfF Qda QiX:=ofF 37
def Qgf:rF Vs:=fun D L (a0,a1,a2,a3)=>
 (yK D (a0,a3)).bind fun r1=>
 (ja D (a1,r1.1)).bind fun r2=>
 (yZ D (a2,r2.1)).bind fun r3=>
 some (r3.1,r1.2,r2.2,r3.2)
theorem QqH:OfF Vs Qgf:=ofF 38
def jW:rL YG:=fun D L (y0,y1,y2)=>
 bif (decide (y1<(y2.length:Int)))then(bif inb y1 y2.length then
 let e1:=(rd1 XU y2 y1);
 let l2:=List.set y2 (Int.toNat y1) (y0,e1.2);
 bif inb y1 l2.length then
 let e3:=(rd1 XU l2 y1);
 let l4:=List.set l2 (Int.toNat y1) (e3.1,(wR (y0+1)),e3.2.2);
 bif inb y1 l4.length then
 let e5:=(rd1 XU l4 y1);
 let l6:=List.set l4 (Int.toNat y1) (e5.1,e5.2.1,(wR ((wR (y0+1))+1)),e5.2.2.2);
 bif inb y1 l6.length then
 let e7:=(rd1 XU l6 y1);
 let l8:=List.set l6 (Int.toNat y1) (e7.1,e7.2.1,e7.2.2.1,(wR ((wR ((wR (y0+1))+1))+1)),e7.2.2.2.2);
 bif inb y1 l8.length then
 let e9:=(rd1 XU l8 y1);
 let l10:=List.set l8 (Int.toNat y1) (e9.1,e9.2.1,e9.2.2.1,e9.2.2.2.1,(wR ((wR ((wR ((wR (y0+1))+1))+1))+1)),e9.2.2.2.2.2);
 (K5 D (wR ((wR ((wR ((wR ((wR (y0+1))+1))+1))+1))+1))).bind fun r11=>
 bif inb y1 l10.length then
 let e12:=(rd1 XU l10 y1);
 let l13:=List.set l10 (Int.toNat y1) (e12.1,e12.2.1,e12.2.2.1,e12.2.2.2.1,e12.2.2.2.2.1,r11);
 YG L ((wR ((wR ((wR ((wR ((wR ((wR (y0+1))+1))+1))+1))+1))+1)),(wR (y1+1)),l13)else none else none else none else none else none else none)
 else(some (y0,y2))
theorem QbI:OfL YG jW:=ofL 39 0
def Qgn:rF Vw:=fun D L (a0,a1)=>
 (YG L (a1,0,a0)).bind fun z14=>
 some z14
theorem QqS:OfF Vw Qgn:=ofF 39
def jG:rL YJ:=fun D L (y0,y1,y2)=>
 bif (decide (y2<(y0.length:Int)))then(bif inb y2 y0.length then
 let e1:=(rd1 XU y0 y2);
 bif (!decide (e1.1=y1))then(some (Sum.inl (-1)))
 else(bif inb y2 y0.length then
 let e2:=(rd1 XU y0 y2);
 bif (!decide (e2.2.1=(wR (y1+1))))then(some (Sum.inl (-1)))
 else(bif inb y2 y0.length then
 let e3:=(rd1 XU y0 y2);
 bif (!decide (e3.2.2.1=(wR ((wR (y1+1))+1))))then(some (Sum.inl (-1)))
 else(bif inb y2 y0.length then
 let e4:=(rd1 XU y0 y2);
 bif (!decide (e4.2.2.2.1=(wR ((wR ((wR (y1+1))+1))+1))))then(some (Sum.inl (-1)))
 else(bif inb y2 y0.length then
 let e5:=(rd1 XU y0 y2);
 bif (!decide (e5.2.2.2.2.1=(wR ((wR ((wR ((wR (y1+1))+1))+1))+1))))then(some (Sum.inl (-1)))
 else(bif inb y2 y0.length then
 let e6:=(rd1 XU y0 y2);
 (K5 D (wR ((wR ((wR ((wR ((wR (y1+1))+1))+1))+1))+1))).bind fun r7=>
 bif (!qI e6.2.2.2.2.2 r7)then(some (Sum.inl (-1)))
 else(YJ L (y0,(wR ((wR ((wR ((wR ((wR ((wR (y1+1))+1))+1))+1))+1))+1)),(wR (y2+1))))else none)else none)else none)else none)else none)else none)
 else(some (Sum.inr y1))
theorem Qcz:OfL YJ jG:=ofL 40 0
def Qge:rF Vy:=fun D L (a0,a1)=>
 (YJ L (a0,a1,0)).bind fun z8=>
 Qn z8 (fun u9=>
 some u9)
 (fun z10=>
 some z10)
theorem QqP:OfF Vy Qge:=ofF 40
def QdN:rL qJ:=fun D L (y0,y1,y2)=>
 bif (decide (y2<(y0.length:Int)))then(bif inb y2 y0.length then
 bif inb y2 y1.length then
 bif (!decide ((rd1 (0:Int) y0 y2)=(rd1 (0:Int) y1 y2)))then(some (Sum.inl false))
 else(qJ L (y0,y1,(wR (y2+1))))else none else none)
 else(some (Sum.inr ()))
theorem Qhq:OfL qJ QdN:=ofL 43 0
def Ql1:rF qB:=fun D L (a0,a1)=>
 bif (!decide ((a0.length:Int)=(a1.length:Int)))then(some false)
 else((qJ L (a0,a1,0)).bind fun z1=>
 Qn z1 (fun u2=>
 some u2)
 (fun z3=>
 some true))
theorem QvU:OfF qB Ql1:=ofF 43
def vV:rL Kg:=fun D L (y0,y1,y2)=>
 bif (decide (y1<(y2.length:Int)))then(bif inb y1 y2.length then
 let l1:=List.set y2 (Int.toNat y1) y0;
 Kg L ((wR (y0+1)),(wR (y1+1)),l1)else none)
 else(some (y0,y2))
theorem Qdk:OfL Kg vV:=ofL 44 0
def Qg8:rF K8:=fun D L (a0,a1)=>
 (Kg L (a1,0,a0)).bind fun z2=>
 some z2
theorem Qsn:OfF K8 Qg8:=ofF 44
def v7:rL Kd:=fun D L (y0,y1,y2)=>
 bif (decide (y2<(y0.length:Int)))then(bif inb y2 y0.length then
 bif (!decide ((rd1 (0:Int) y0 y2)=y1))then(some (Sum.inl (-1)))
 else(Kd L (y0,(wR (y1+1)),(wR (y2+1))))else none)
 else(some (Sum.inr y1))
theorem Qdj:OfL Kd v7:=ofL 45 0
def Qg1:rF K7:=fun D L (a0,a1)=>
 (Kd L (a0,a1,0)).bind fun z1=>
 Qn z1 (fun u2=>
 some u2)
 (fun z3=>
 some z3)
theorem Qse:OfF K7 Qg1:=ofF 45
def Qfy:rF Vu:=fun D L (a0,a1,a2,a3)=>
 (jn D (a0,a3)).bind fun r1=>
 bif (decide (r1<0))then(some (-1))
 else((yT D (a1,r1)).bind fun r2=>
 bif (decide (r2<0))then(some (-1))
 else((yJ D (a2,r2)).bind fun r3=>
 bif (decide (r3<0))then(some (-1))
 else(some r3)))
theorem QqN:OfF Vu Qfy:=ofF 52
def QoF:rF QlP:=fun D L (a0,a1,a2,a3)=>
 (xA D (a0,a1,a2)).bind fun r1=>
 (QlJ D (a0,a1,a2,a3)).bind fun r2=>
 bif (decide (r2.1<0))then(some r1)
 else(bif inb r2.1 r1.1.length then
 let e3:=(rd1 Qv r1.1 r2.1);
 (QfD D (e3.1,e3.2.1,(rd1 Qv r1.1 r2.1).2.2.1,(rd1 Qv r1.1 r2.1).2.2.2.1,(rd1 Qv r1.1 r2.1).2.2.2.2.1,e3.2.2.2.2.2.1,e3.2.2.2.2.2.2.1,e3.2.2.2.2.2.2.2.1,(rd1 Qv r1.1 r2.1).2.2.2.2.2.2.2.2.1,(rd1 Qv r1.1 r2.1).2.2.2.2.2.2.2.2.2.1,(rd1 Qv r1.1 r2.1).2.2.2.2.2.2.2.2.2.2.1,(rd1 Qv r1.1 r2.1).2.2.2.2.2.2.2.2.2.2.2.1,e3.2.2.2.2.2.2.2.2.2.2.2.2.1,e3.2.2.2.2.2.2.2.2.2.2.2.2.2.1,(rd1 Qv r1.1 r2.1).2.2.2.2.2.2.2.2.2.2.2.2.2.2.1,e3.2.2.2.2.2.2.2.2.2.2.2.2.2.2.2.1,e3.2.2.2.2.2.2.2.2.2.2.2.2.2.2.2.2.1,e3.2.2.2.2.2.2.2.2.2.2.2.2.2.2.2.2.2.1,(rd1 Qv r1.1 r2.1).2.2.2.2.2.2.2.2.2.2.2.2.2.2.2.2.2.2)).bind fun r4=>
 bif inb r2.1 r1.1.length then
 let l5:=List.set r1.1 (Int.toNat r2.1) r4;
 bif inb r2.1 l5.length then
 let e6:=(rd1 Qv l5 r2.1);
 (j9 D ((rd1 Qv l5 r2.1).2.2.1,(rd1 Qv l5 r2.1).2.2.2.1,r2.1)).bind fun r7=>
 bif r7.2.2.2.2.2 then(bif (decide ((r1.2.2.length:Int)<40))then(bif inb r2.1 l5.length then
 let e8:=(rd1 Qv l5 r2.1);
 (QnV D (e8.1,e8.2.1,(rd1 Qv l5 r2.1).2.2.1,(rd1 Qv l5 r2.1).2.2.2.1,(rd1 Qv l5 r2.1).2.2.2.2.1,e8.2.2.2.2.2.1,e8.2.2.2.2.2.2.1,e8.2.2.2.2.2.2.2.1,(rd1 Qv l5 r2.1).2.2.2.2.2.2.2.2.1,(rd1 Qv l5 r2.1).2.2.2.2.2.2.2.2.2.1,(rd1 Qv l5 r2.1).2.2.2.2.2.2.2.2.2.2.1,(rd1 Qv l5 r2.1).2.2.2.2.2.2.2.2.2.2.2.1,e8.2.2.2.2.2.2.2.2.2.2.2.2.1,e8.2.2.2.2.2.2.2.2.2.2.2.2.2.1,(rd1 Qv l5 r2.1).2.2.2.2.2.2.2.2.2.2.2.2.2.2.1,e8.2.2.2.2.2.2.2.2.2.2.2.2.2.2.2.1,e8.2.2.2.2.2.2.2.2.2.2.2.2.2.2.2.2.1,e8.2.2.2.2.2.2.2.2.2.2.2.2.2.2.2.2.2.1,(rd1 Qv l5 r2.1).2.2.2.2.2.2.2.2.2.2.2.2.2.2.2.2.2.2,1,r2.1,(⟨#[]⟩:ByteArray))).bind fun r9=>
 bif (decide (r9.2.2.2.2.2.2.2.2.2.2.2.2.2.2.2.2.2.2.2.2.2=0))then(bif inb r2.1 l5.length then
 let l10:=List.set l5 (Int.toNat r2.1) (r9.1,r9.2.1,r9.2.2.1,r9.2.2.2.1,r9.2.2.2.2.1,r9.2.2.2.2.2.1,r9.2.2.2.2.2.2.1,r9.2.2.2.2.2.2.2.1,r9.2.2.2.2.2.2.2.2.1,r9.2.2.2.2.2.2.2.2.2.1,r9.2.2.2.2.2.2.2.2.2.2.1,r9.2.2.2.2.2.2.2.2.2.2.2.1,r9.2.2.2.2.2.2.2.2.2.2.2.2.1,r9.2.2.2.2.2.2.2.2.2.2.2.2.2.1,r9.2.2.2.2.2.2.2.2.2.2.2.2.2.2.1,r9.2.2.2.2.2.2.2.2.2.2.2.2.2.2.2.1,r9.2.2.2.2.2.2.2.2.2.2.2.2.2.2.2.2.1,r9.2.2.2.2.2.2.2.2.2.2.2.2.2.2.2.2.2.1,r9.2.2.2.2.2.2.2.2.2.2.2.2.2.2.2.2.2.2.1);
 bif fits (r1.2.2.length+ [(r2.1,r9.2.2.2.2.2.2.2.2.2.2.2.2.2.2.2.2.2.2.2.1,r9.2.2.2.2.2.2.2.2.2.2.2.2.2.2.2.2.2.2.2.2.1)].length) 56 then
 (Y0 D (l10,r1.2.1,(r1.2.2++[(r2.1,r9.2.2.2.2.2.2.2.2.2.2.2.2.2.2.2.2.2.2.2.1,r9.2.2.2.2.2.2.2.2.2.2.2.2.2.2.2.2.2.2.2.2.1)]),r2)).bind fun r11=>
 some (r11.1,r11.2.1,r11.2.2.1)else none else none)
 else((Y0 D (l5,r1.2.1,r1.2.2,r2)).bind fun r12=>
 some (r12.1,r12.2.1,r12.2.2.1))else none)
 else((Y0 D (l5,r1.2.1,r1.2.2,r2)).bind fun r13=>
 some (r13.1,r13.2.1,r13.2.2.1)))
 else((Y0 D (l5,r1.2.1,r1.2.2,r2)).bind fun r14=>
 some (r14.1,r14.2.1,r14.2.2.1))else none else none else none)
theorem Qz7:OfF QlP QoF:=ofF 53
def Qoz:rF QfZ:=fun D L (a0,a1,a2,a3)=>
 (Vz D (a0,a1,a2)).bind fun r1=>
 (QkR D (a0,a1,a2,a3)).bind fun r2=>
 bif (decide (r2.1<0))then(some r1)
 else(bif inb r2.1 a0.length then
 let e3:=(rd1 Qv a0 r2.1);
 (QfQ D e3).bind fun r4=>
 bif inb r2.1 r1.1.length then
 let l5:=List.set r1.1 (Int.toNat r2.1) r4;
 (j6 D ((rd1 Qv l5 r2.1).2.2.1,(rd1 Qv l5 r2.1).2.2.2.1,r2.1)).bind fun r6=>
 bif r6.2.2.2.2.2 then(bif (decide ((a2.length:Int)<40))then((Qn9 D (r4.1,r4.2.1,(rd1 Qv l5 r2.1).2.2.1,(rd1 Qv l5 r2.1).2.2.2.1,(rd1 Qv l5 r2.1).2.2.2.2.1,r4.2.2.2.2.2.1,r4.2.2.2.2.2.2.1,r4.2.2.2.2.2.2.2.1,(rd1 Qv l5 r2.1).2.2.2.2.2.2.2.2.1,(rd1 Qv l5 r2.1).2.2.2.2.2.2.2.2.2.1,(rd1 Qv l5 r2.1).2.2.2.2.2.2.2.2.2.2.1,(rd1 Qv l5 r2.1).2.2.2.2.2.2.2.2.2.2.2.1,r4.2.2.2.2.2.2.2.2.2.2.2.2.1,r4.2.2.2.2.2.2.2.2.2.2.2.2.2.1,(rd1 Qv l5 r2.1).2.2.2.2.2.2.2.2.2.2.2.2.2.2.1,r4.2.2.2.2.2.2.2.2.2.2.2.2.2.2.2.1,r4.2.2.2.2.2.2.2.2.2.2.2.2.2.2.2.2.1,r4.2.2.2.2.2.2.2.2.2.2.2.2.2.2.2.2.2.1,(rd1 Qv l5 r2.1).2.2.2.2.2.2.2.2.2.2.2.2.2.2.2.2.2.2,1,r2.1,(⟨#[]⟩:ByteArray))).bind fun r7=>
 bif (decide (r7.2.2.2.2.2.2.2.2.2.2.2.2.2.2.2.2.2.2.2.2.2=0))then(bif inb r2.1 l5.length then
 let l8:=List.set l5 (Int.toNat r2.1) (r7.1,r7.2.1,r7.2.2.1,r7.2.2.2.1,r7.2.2.2.2.1,r7.2.2.2.2.2.1,r7.2.2.2.2.2.2.1,r7.2.2.2.2.2.2.2.1,r7.2.2.2.2.2.2.2.2.1,r7.2.2.2.2.2.2.2.2.2.1,r7.2.2.2.2.2.2.2.2.2.2.1,r7.2.2.2.2.2.2.2.2.2.2.2.1,r7.2.2.2.2.2.2.2.2.2.2.2.2.1,r7.2.2.2.2.2.2.2.2.2.2.2.2.2.1,r7.2.2.2.2.2.2.2.2.2.2.2.2.2.2.1,r7.2.2.2.2.2.2.2.2.2.2.2.2.2.2.2.1,r7.2.2.2.2.2.2.2.2.2.2.2.2.2.2.2.2.1,r7.2.2.2.2.2.2.2.2.2.2.2.2.2.2.2.2.2.1,r7.2.2.2.2.2.2.2.2.2.2.2.2.2.2.2.2.2.2.1);
 bif fits (r1.2.2.length+ [(r2.1,r7.2.2.2.2.2.2.2.2.2.2.2.2.2.2.2.2.2.2.2.1,r7.2.2.2.2.2.2.2.2.2.2.2.2.2.2.2.2.2.2.2.2.1)].length) 56 then
 (YZ D (l8,r1.2.1,(r1.2.2++[(r2.1,r7.2.2.2.2.2.2.2.2.2.2.2.2.2.2.2.2.2.2.2.1,r7.2.2.2.2.2.2.2.2.2.2.2.2.2.2.2.2.2.2.2.2.1)]),r2)).bind fun r9=>
 some (r9.1,r9.2.1,r9.2.2.1)else none else none)
 else((YZ D (l5,r1.2.1,r1.2.2,r2)).bind fun r10=>
 some (r10.1,r10.2.1,r10.2.2.1)))
 else((YZ D (l5,r1.2.1,r1.2.2,r2)).bind fun r11=>
 some (r11.1,r11.2.1,r11.2.2.1)))
 else((YZ D (l5,r1.2.1,r1.2.2,r2)).bind fun r12=>
 some (r12.1,r12.2.1,r12.2.2.1))else none else none)
theorem Qzi:OfF QfZ Qoz:=ofF 54
def zR:rL JW:=fun D L (y0,y1,y2)=>
 bif (decide (y2<(y0.length:Int)))then(bif inb y2 y0.length then
 let e1:=(rd1 Qv y0 y2);
 (QeF D (e1.1,e1.2.1,e1.2.2.1,e1.2.2.2.1,e1.2.2.2.2.1,e1.2.2.2.2.2.1,e1.2.2.2.2.2.2.1,e1.2.2.2.2.2.2.2.1,e1.2.2.2.2.2.2.2.2.1,e1.2.2.2.2.2.2.2.2.2.1,e1.2.2.2.2.2.2.2.2.2.2.1,e1.2.2.2.2.2.2.2.2.2.2.2.1,e1.2.2.2.2.2.2.2.2.2.2.2.2.1,e1.2.2.2.2.2.2.2.2.2.2.2.2.2.1,e1.2.2.2.2.2.2.2.2.2.2.2.2.2.2.1,e1.2.2.2.2.2.2.2.2.2.2.2.2.2.2.2.1,e1.2.2.2.2.2.2.2.2.2.2.2.2.2.2.2.2.1,e1.2.2.2.2.2.2.2.2.2.2.2.2.2.2.2.2.2.1,e1.2.2.2.2.2.2.2.2.2.2.2.2.2.2.2.2.2.2,y1)).bind fun r2=>
 bif (decide (r2<0))then(some (Sum.inl (-1)))
 else(JW L (y0,r2,(wR (y2+1))))else none)
 else(some (Sum.inr y1))
theorem yG:OfL JW zR:=ofL 55 0
def Qj5:rF Qb0:=fun D L (a0,a1)=>
 bif (decide ((wR (a1 - (a0.length:Int)))<0))then(some (-1))
 else((JW L (a0,(wR (a1 - (a0.length:Int))),0)).bind fun z3=>
 Qn z3 (fun u4=>
 some u4)
 (fun z5=>
 some z5))
theorem Qsx:OfF Qb0 Qj5:=ofF 55
def zS:rL JN:=fun D L (y0,y1,y2)=>
 bif (decide (y2<(y0.length:Int)))then(bif inb y2 y0.length then
 let e1:=(rd1 qG y0 y2);
 (QeT D (e1.1,e1.2.1,e1.2.2,y1)).bind fun r2=>
 bif (decide (r2<0))then(some (Sum.inl (-1)))
 else(JN L (y0,r2,(wR (y2+1))))else none)
 else(some (Sum.inr y1))
theorem yj:OfL JN zS:=ofL 56 0
def Qkq:rF QaW:=fun D L (a0,a1)=>
 bif (decide ((wR (a1 - (a0.length:Int)))<0))then(some (-1))
 else((JN L (a0,(wR (a1 - (a0.length:Int))),0)).bind fun z3=>
 Qn z3 (fun u4=>
 some u4)
 (fun z5=>
 some z5))
theorem QsO:OfF QaW Qkq:=ofF 56
def zN:rL JM:=fun D L (y0,y1,y2)=>
 bif (decide (y2<(y0.length:Int)))then(bif inb y2 y0.length then
 let e1:=(rd1 KH y0 y2);
 (Qee D (e1.1,e1.2.1,e1.2.2,y1)).bind fun r2=>
 bif (decide (r2<0))then(some (Sum.inl (-1)))
 else(JM L (y0,r2,(wR (y2+1))))else none)
 else(some (Sum.inr y1))
theorem yo:OfL JM zN:=ofL 57 0
def Qiw:rF QaC:=fun D L (a0,a1)=>
 bif (decide ((wR (a1 - (a0.length:Int)))<0))then(some (-1))
 else((JM L (a0,(wR (a1 - (a0.length:Int))),0)).bind fun z3=>
 Qn z3 (fun u4=>
 some u4)
 (fun z5=>
 some z5))
theorem QuE:OfF QaC Qiw:=ofF 57
def Qk0:rF Qeu:=fun D L (a0,a1,a2,a3,a4)=>
 (zY D (a0,a1,a2)).bind fun r1=>
 bif r1 then((QE D (a3,0,(wR ((a0.length:Int) - 1)))).bind fun r2=>
 bif r2 then((QE D (a4,0,(wR ((a0.length:Int) - 1)))).bind fun r3=>
 bif r3 then(some (!decide (a3=a4)))
 else(some false))
 else(some false))
 else(some false)
theorem Qv8:OfF Qeu Qk0:=ofF 58
def Qks:rF qo:=fun D L (a0,a1,a2)=>
 (Vg D (a0,a1,a2)).bind fun r1=>
 bif (!r1)then(some 0)
 else(some (wR (a1+(a2.length:Int))))
theorem Qvg:OfF qo Qks:=ofF 59
def Qbu:rL qj:=fun D L (y0,y1,y2)=>
 bif (decide (y1<(y0.length:Int)))then(bif inb y1 y0.length then
 let e1:=(rd1 Qv y0 y1);
 (Qeg D e1).bind fun r2=>
 bif inb y1 y2.length then
 let l3:=List.set y2 (Int.toNat y1) r2;
 qj L (y0,(wR (y1+1)),l3)else none else none)
 else(some y2)
theorem Qfs:OfL qj Qbu:=ofL 60 0
def Qir:rF QcB:=fun D L a0=>
 bif (decide ((0:Int)<=(a0.length:Int)/\((a0.length:Int):Int)=(a0.length:Int))&&fits (Int.toNat (a0.length:Int)) 296)then
 (qj L (a0,0,(List.replicate (Int.toNat (a0.length:Int)) (0,0,[],[],[],0,0,0,[],[],[],[],0,0,[],0,0,0,[])))).bind fun z4=>
 some z4 else none
theorem Qua:OfF QcB Qir:=ofF 60
def QaD:rL JO:=fun D L (y0,y1,y2)=>
 bif (decide (y1<(y0.length:Int)))then(bif inb y1 y0.length then
 let e1:=(rd1 qG y0 y1);
 (Qek D e1).bind fun r2=>
 bif inb y1 y2.length then
 let l3:=List.set y2 (Int.toNat y1) r2;
 JO L (y0,(wR (y1+1)),l3)else none else none)
 else(some y2)
theorem Qft:OfL JO QaD:=ofL 61 0
def Qkc:rF QbP:=fun D L a0=>
 bif (decide ((0:Int)<=(a0.length:Int)/\((a0.length:Int):Int)=(a0.length:Int))&&fits (Int.toNat (a0.length:Int)) 40)then
 (JO L (a0,0,(List.replicate (Int.toNat (a0.length:Int)) (0,[],false)))).bind fun z4=>
 some z4 else none
theorem QuC:OfF QbP Qkc:=ofF 61
def Qc7:rL JR:=fun D L (y0,y1,y2)=>
 bif (decide (y1<(y0.length:Int)))then(bif inb y1 y0.length then
 let e1:=(rd1 KH y0 y1);
 (QeV D e1).bind fun r2=>
 bif inb y1 y2.length then
 let l3:=List.set y2 (Int.toNat y1) r2;
 JR L (y0,(wR (y1+1)),l3)else none else none)
 else(some y2)
theorem Qgo:OfL JR Qc7:=ofL 62 0
def QjQ:rF Qbj:=fun D L a0=>
 bif (decide ((0:Int)<=(a0.length:Int)/\((a0.length:Int):Int)=(a0.length:Int))&&fits (Int.toNat (a0.length:Int)) 56)then
 (JR L (a0,0,(List.replicate (Int.toNat (a0.length:Int)) (0,[],[])))).bind fun z4=>
 some z4 else none
theorem QtJ:OfF Qbj QjQ:=ofF 62
def Qa2:rL Jo:=fun D L (y0,y1,y2,y3,y4,y5)=>
 bif (decide (y2<y1))then(bif inb y2 y0.length then
 let e2:=(rd1 Qv y0 y2);
 (ZE D e2).bind fun r3=>
 bif (!r3)then(some (Sum.inl false))
 else(bif (!decide (e2.2.1=(y3.length:Int)))then(some (Sum.inl false))
 else(bif (!decide (e2.1=y2))then(some (Sum.inl false))
 else(Jo L (y0,y1,(wR (y2+1)),y3,y4,y5))))else none)
 else(some (Sum.inr (y3,y4,y5)))
theorem Qgk:OfL Jo Qa2:=ofL 63 0
def QaM:rL Jv:=fun D L (y0,y1,y2,y3,y4,y5)=>
 bif (decide (y2<y1))then(bif inb y2 y0.length then
 let e7:=(rd1 qG y0 y2);
 (VH D (y3,y4,y5,e7.1)).bind fun r8=>
 bif (!r8)then(some (Sum.inl false))
 else(Jv L (y0,y1,(wR (y2+1)),y3,y4,y5))else none)
 else(some (Sum.inr (y3,y4,y5)))
theorem QfL:OfL Jv QaM:=ofL 63 2
def QcT:rL JK:=fun D L (y0,y1,y2,y3,y4,y5)=>
 bif (decide (y2<y1))then(bif inb y2 y0.length then
 let e12:=(rd1 KH y0 y2);
 (VH D (y3,y4,y5,e12.1)).bind fun r13=>
 bif (!r13)then(some (Sum.inl false))
 else((Xp D e12.2).bind fun r14=>
 bif (!r14)then(some (Sum.inl false))
 else(JK L (y0,y1,(wR (y2+1)),y3,y4,y5)))else none)
 else(some (Sum.inr ()))
theorem QfF:OfL JK QcT:=ofL 63 4
def QiE:rF ym:=fun D L (a0,a1,a2)=>
 (QA D ((a0.length:Int),1,5)).bind fun r1=>
 bif (!r1)then(some false)
 else(bif (decide (12<(a1.length:Int)))then(some false)
 else(bif (decide (40<(a2.length:Int)))then(some false)
 else((Jo L (a0,(a0.length:Int),0,a0,a1,a2)).bind fun z4=>
 Qn z4 (fun u5=>
 some u5)
 (fun z6=>
 (Jv L (z6.2.1,(z6.2.1.length:Int),0,z6)).bind fun z9=>
 Qn z9 (fun u10=>
 some u10)
 (fun z11=>
 (JK L (z11.2.2,(z11.2.2.length:Int),0,z11)).bind fun z15=>
 Qn z15 (fun u16=>
 some u16)
 (fun z17=>
 some true))))))
theorem QtE:OfF ym QiE:=ofF 63
end
end Go.Proofs.YtjenicbpdklpbaaGreat.M
