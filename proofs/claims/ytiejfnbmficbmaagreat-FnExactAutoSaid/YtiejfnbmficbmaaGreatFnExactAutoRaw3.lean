/- Plain forms of the functions that FnExactAuto reaches, part 3. No conditions. -/
import Derived.Test.YtiejfnbmficbmaaGreatFnExactAutoTab
set_option linter.all false
namespace Go.Proofs.YtiejfnbmficbmaaGreat.M
open Go Go.Eng Go.Proofs
set_option linter.unusedVariables false
noncomputable section
def Qll:rF vG:=fun D L (a0,a1,a2)=>
 (Qmb D (a0,a1)).bind fun r1=>
 (VP D (r1,[],a2)).bind fun r2=>
 some r2
theorem Qwi:OfF vG Qll:=ofF 104
def QqF:rF Qo2:=fun D L (a0,a1,a2,a3,a4,a5,a6,a7,a8,a9,a10,a11,a12,a13,a14,a15,a16,a17,a18,a19,a20,a21)=>
 (ZJ D (a0,a1,a2,a3,a4,a5,a6,a7,a8,a9,a10,a11,a12,a13,a14,a15,a16,a17,a18)).bind fun r1=>
 (ZH D (a0,a1,a2,a3,a4,a5,a6,a7,a8,a9,a10,a11,a12,a13,a14,a15,a16,a17,a18)).bind fun r2=>
 bif (!r2)then(some (r1.1,r1.2.1,r1.2.2.1,r1.2.2.2.1,r1.2.2.2.2.1,r1.2.2.2.2.2.1,r1.2.2.2.2.2.2.1,r1.2.2.2.2.2.2.2.1,r1.2.2.2.2.2.2.2.2.1,r1.2.2.2.2.2.2.2.2.2.1,r1.2.2.2.2.2.2.2.2.2.2.1,r1.2.2.2.2.2.2.2.2.2.2.2.1,r1.2.2.2.2.2.2.2.2.2.2.2.2.1,r1.2.2.2.2.2.2.2.2.2.2.2.2.2.1,r1.2.2.2.2.2.2.2.2.2.2.2.2.2.2.1,r1.2.2.2.2.2.2.2.2.2.2.2.2.2.2.2.1,r1.2.2.2.2.2.2.2.2.2.2.2.2.2.2.2.2.1,r1.2.2.2.2.2.2.2.2.2.2.2.2.2.2.2.2.2.1,r1.2.2.2.2.2.2.2.2.2.2.2.2.2.2.2.2.2.2,[],[],1))
 else((QA D (a19,0,4)).bind fun r3=>
 bif (!r3)then(some (r1.1,r1.2.1,r1.2.2.1,r1.2.2.2.1,r1.2.2.2.2.1,r1.2.2.2.2.2.1,r1.2.2.2.2.2.2.1,r1.2.2.2.2.2.2.2.1,r1.2.2.2.2.2.2.2.2.1,r1.2.2.2.2.2.2.2.2.2.1,r1.2.2.2.2.2.2.2.2.2.2.1,r1.2.2.2.2.2.2.2.2.2.2.2.1,r1.2.2.2.2.2.2.2.2.2.2.2.2.1,r1.2.2.2.2.2.2.2.2.2.2.2.2.2.1,r1.2.2.2.2.2.2.2.2.2.2.2.2.2.2.1,r1.2.2.2.2.2.2.2.2.2.2.2.2.2.2.2.1,r1.2.2.2.2.2.2.2.2.2.2.2.2.2.2.2.2.1,r1.2.2.2.2.2.2.2.2.2.2.2.2.2.2.2.2.2.1,r1.2.2.2.2.2.2.2.2.2.2.2.2.2.2.2.2.2.2,[],[],1))
 else((QA D (a20,0,(wR (a1 - 1)))).bind fun r4=>
 bif (!r4)then(some (r1.1,r1.2.1,r1.2.2.1,r1.2.2.2.1,r1.2.2.2.2.1,r1.2.2.2.2.2.1,r1.2.2.2.2.2.2.1,r1.2.2.2.2.2.2.2.1,r1.2.2.2.2.2.2.2.2.1,r1.2.2.2.2.2.2.2.2.2.1,r1.2.2.2.2.2.2.2.2.2.2.1,r1.2.2.2.2.2.2.2.2.2.2.2.1,r1.2.2.2.2.2.2.2.2.2.2.2.2.1,r1.2.2.2.2.2.2.2.2.2.2.2.2.2.1,r1.2.2.2.2.2.2.2.2.2.2.2.2.2.2.1,r1.2.2.2.2.2.2.2.2.2.2.2.2.2.2.2.1,r1.2.2.2.2.2.2.2.2.2.2.2.2.2.2.2.2.1,r1.2.2.2.2.2.2.2.2.2.2.2.2.2.2.2.2.2.1,r1.2.2.2.2.2.2.2.2.2.2.2.2.2.2.2.2.2.2,[],[],1))
 else(bif ((decide (a20=a0))==(decide (a19=4)))then(some (r1.1,r1.2.1,r1.2.2.1,r1.2.2.2.1,r1.2.2.2.2.1,r1.2.2.2.2.2.1,r1.2.2.2.2.2.2.1,r1.2.2.2.2.2.2.2.1,r1.2.2.2.2.2.2.2.2.1,r1.2.2.2.2.2.2.2.2.2.1,r1.2.2.2.2.2.2.2.2.2.2.1,r1.2.2.2.2.2.2.2.2.2.2.2.1,r1.2.2.2.2.2.2.2.2.2.2.2.2.1,r1.2.2.2.2.2.2.2.2.2.2.2.2.2.1,r1.2.2.2.2.2.2.2.2.2.2.2.2.2.2.1,r1.2.2.2.2.2.2.2.2.2.2.2.2.2.2.2.1,r1.2.2.2.2.2.2.2.2.2.2.2.2.2.2.2.2.1,r1.2.2.2.2.2.2.2.2.2.2.2.2.2.2.2.2.2.1,r1.2.2.2.2.2.2.2.2.2.2.2.2.2.2.2.2.2.2,[],[],1))
 else((Qh5 D (a2,a3,a19,a20,a21)).bind fun r5=>
 bif (!decide (r5.2.2=0))then(some (r1.1,r1.2.1,r1.2.2.1,r1.2.2.2.1,r1.2.2.2.2.1,r1.2.2.2.2.2.1,r1.2.2.2.2.2.2.1,r1.2.2.2.2.2.2.2.1,r1.2.2.2.2.2.2.2.2.1,r1.2.2.2.2.2.2.2.2.2.1,r1.2.2.2.2.2.2.2.2.2.2.1,r1.2.2.2.2.2.2.2.2.2.2.2.1,r1.2.2.2.2.2.2.2.2.2.2.2.2.1,r1.2.2.2.2.2.2.2.2.2.2.2.2.2.1,r1.2.2.2.2.2.2.2.2.2.2.2.2.2.2.1,r1.2.2.2.2.2.2.2.2.2.2.2.2.2.2.2.1,r1.2.2.2.2.2.2.2.2.2.2.2.2.2.2.2.2.1,r1.2.2.2.2.2.2.2.2.2.2.2.2.2.2.2.2.2.1,r1.2.2.2.2.2.2.2.2.2.2.2.2.2.2.2.2.2.2,[],[],r5.2.2))
 else((Qfg D (a6,a7,a8,r5.1,r5.2.1)).bind fun r6=>
 bif (!r6.2.2.2)then(some (r1.1,r1.2.1,r1.2.2.1,r1.2.2.2.1,r1.2.2.2.2.1,r1.2.2.2.2.2.1,r1.2.2.2.2.2.2.1,r1.2.2.2.2.2.2.2.1,r1.2.2.2.2.2.2.2.2.1,r1.2.2.2.2.2.2.2.2.2.1,r1.2.2.2.2.2.2.2.2.2.2.1,r1.2.2.2.2.2.2.2.2.2.2.2.1,r1.2.2.2.2.2.2.2.2.2.2.2.2.1,r1.2.2.2.2.2.2.2.2.2.2.2.2.2.1,r1.2.2.2.2.2.2.2.2.2.2.2.2.2.2.1,r1.2.2.2.2.2.2.2.2.2.2.2.2.2.2.2.1,r1.2.2.2.2.2.2.2.2.2.2.2.2.2.2.2.2.1,r1.2.2.2.2.2.2.2.2.2.2.2.2.2.2.2.2.2.1,r1.2.2.2.2.2.2.2.2.2.2.2.2.2.2.2.2.2.2,[],[],4))
 else(bif inb a0 r1.2.2.2.2.2.2.2.2.2.1.length then
 bif inb a0 r1.2.2.2.2.2.2.2.2.2.1.length then
 let l7:=List.set r1.2.2.2.2.2.2.2.2.2.1 (Int.toNat a0) (wR ((rd1 (0:Int) r1.2.2.2.2.2.2.2.2.2.1 a0)+1));
 (Qaz D (r1.1,r1.2.1,r1.2.2.1,r1.2.2.2.1,r1.2.2.2.2.1,r1.2.2.2.2.2.1,r6.1,r6.2.1,r6.2.2.1,l7,r1.2.2.2.2.2.2.2.2.2.2.1,r1.2.2.2.2.2.2.2.2.2.2.2.1,r1.2.2.2.2.2.2.2.2.2.2.2.2.1,r1.2.2.2.2.2.2.2.2.2.2.2.2.2.1,r1.2.2.2.2.2.2.2.2.2.2.2.2.2.2.1,r1.2.2.2.2.2.2.2.2.2.2.2.2.2.2.2.1,r1.2.2.2.2.2.2.2.2.2.2.2.2.2.2.2.2.1,r1.2.2.2.2.2.2.2.2.2.2.2.2.2.2.2.2.2.1,r1.2.2.2.2.2.2.2.2.2.2.2.2.2.2.2.2.2.2,r5.1,r5.2.1)).bind fun r8=>
 some (r8.1,r8.2.1,r8.2.2.1,r8.2.2.2.1,r8.2.2.2.2.1,r8.2.2.2.2.2.1,r8.2.2.2.2.2.2.1,r8.2.2.2.2.2.2.2.1,r8.2.2.2.2.2.2.2.2.1,r8.2.2.2.2.2.2.2.2.2.1,r8.2.2.2.2.2.2.2.2.2.2.1,r8.2.2.2.2.2.2.2.2.2.2.2.1,r8.2.2.2.2.2.2.2.2.2.2.2.2.1,r8.2.2.2.2.2.2.2.2.2.2.2.2.2.1,r8.2.2.2.2.2.2.2.2.2.2.2.2.2.2.1,r8.2.2.2.2.2.2.2.2.2.2.2.2.2.2.2.1,r8.2.2.2.2.2.2.2.2.2.2.2.2.2.2.2.2.1,r8.2.2.2.2.2.2.2.2.2.2.2.2.2.2.2.2.2.1,r8.2.2.2.2.2.2.2.2.2.2.2.2.2.2.2.2.2.2.1,r5.1,r5.2.1,0)else none else none))))))
theorem QBZ:OfF Qo2 QqF:=ofF 105
def QhF:rF Y3:=fun D L (a0,a1,a2,a3,a4)=>
 (Kg D (a0,a1,a2)).bind fun r1=>
 (yx D (a0,a1,a2)).bind fun r2=>
 bif (!r2)then(some (r1.1,r1.2.1,r1.2.2,false))
 else((VL D (a0,a1,a2,a3)).bind fun r3=>
 bif (!r3)then(some (r1.1,r1.2.1,r1.2.2,false))
 else((VL D (a0,a1,a2,a4)).bind fun r4=>
 bif (!r4)then(some (r1.1,r1.2.1,r1.2.2,false))
 else(bif (decide (a3=a4))then(some (r1.1,r1.2.1,r1.2.2,false))
 else((Kg D (a0,a1,a2)).bind fun r5=>
 bif inb a3 a0.length then
 let e6:=(rd1 Qv a0 a3);
 (Qjq D (e6.1,e6.2.1,e6.2.2.1,e6.2.2.2.1,e6.2.2.2.2.1,e6.2.2.2.2.2.1,e6.2.2.2.2.2.2.1,e6.2.2.2.2.2.2.2.1,e6.2.2.2.2.2.2.2.2.1,e6.2.2.2.2.2.2.2.2.2.1,e6.2.2.2.2.2.2.2.2.2.2.1,e6.2.2.2.2.2.2.2.2.2.2.2.1,e6.2.2.2.2.2.2.2.2.2.2.2.2.1,e6.2.2.2.2.2.2.2.2.2.2.2.2.2.1,e6.2.2.2.2.2.2.2.2.2.2.2.2.2.2.1,e6.2.2.2.2.2.2.2.2.2.2.2.2.2.2.2.1,e6.2.2.2.2.2.2.2.2.2.2.2.2.2.2.2.2.1,e6.2.2.2.2.2.2.2.2.2.2.2.2.2.2.2.2.2.1,e6.2.2.2.2.2.2.2.2.2.2.2.2.2.2.2.2.2.2,a4)).bind fun r7=>
 bif (!r7.2.2.2.2.2.2.2.2.2.2.2.2.2.2.2.2.2.2.2.2.2.2.2.2.2.2.2.2.2.2.2)then(some (r1.1,r1.2.1,r1.2.2,false))
 else(bif inb a3 r5.1.length then
 let l8:=List.set r5.1 (Int.toNat a3) (r7.1,r7.2.1,r7.2.2.1,r7.2.2.2.1,r7.2.2.2.2.1,r7.2.2.2.2.2.1,r7.2.2.2.2.2.2.1,r7.2.2.2.2.2.2.2.1,r7.2.2.2.2.2.2.2.2.1,r7.2.2.2.2.2.2.2.2.2.1,r7.2.2.2.2.2.2.2.2.2.2.1,r7.2.2.2.2.2.2.2.2.2.2.2.1,r7.2.2.2.2.2.2.2.2.2.2.2.2.1,r7.2.2.2.2.2.2.2.2.2.2.2.2.2.1,r7.2.2.2.2.2.2.2.2.2.2.2.2.2.2.1,r7.2.2.2.2.2.2.2.2.2.2.2.2.2.2.2.1,r7.2.2.2.2.2.2.2.2.2.2.2.2.2.2.2.2.1,r7.2.2.2.2.2.2.2.2.2.2.2.2.2.2.2.2.2.1,r7.2.2.2.2.2.2.2.2.2.2.2.2.2.2.2.2.2.2.1);
 (J2 D (l8,r5.2.1,r5.2.2,r7.2.2.2.2.2.2.2.2.2.2.2.2.2.2.2.2.2.2.2.1,r7.2.2.2.2.2.2.2.2.2.2.2.2.2.2.2.2.2.2.2.2.1,r7.2.2.2.2.2.2.2.2.2.2.2.2.2.2.2.2.2.2.2.2.2.1,r7.2.2.2.2.2.2.2.2.2.2.2.2.2.2.2.2.2.2.2.2.2.2.1,r7.2.2.2.2.2.2.2.2.2.2.2.2.2.2.2.2.2.2.2.2.2.2.2.1,r7.2.2.2.2.2.2.2.2.2.2.2.2.2.2.2.2.2.2.2.2.2.2.2.2.1,r7.2.2.2.2.2.2.2.2.2.2.2.2.2.2.2.2.2.2.2.2.2.2.2.2.2.1,r7.2.2.2.2.2.2.2.2.2.2.2.2.2.2.2.2.2.2.2.2.2.2.2.2.2.2.1,r7.2.2.2.2.2.2.2.2.2.2.2.2.2.2.2.2.2.2.2.2.2.2.2.2.2.2.2.1,r7.2.2.2.2.2.2.2.2.2.2.2.2.2.2.2.2.2.2.2.2.2.2.2.2.2.2.2.2.1,r7.2.2.2.2.2.2.2.2.2.2.2.2.2.2.2.2.2.2.2.2.2.2.2.2.2.2.2.2.2.1,r7.2.2.2.2.2.2.2.2.2.2.2.2.2.2.2.2.2.2.2.2.2.2.2.2.2.2.2.2.2.2.1)).bind fun r9=>
 bif (!r9.2.2.2.2.2.2.2.2.2.2.2.2.1)then(some (r1.1,r1.2.1,r1.2.2,false))
 else(bif (!r9.2.2.2.2.2.2.2.2.2.2.2.2.2.1)then(some (r1.1,r1.2.1,r1.2.2,false))
 else((J2 D (r9.2.2.2.2.2.2.2.2.2.2.2.2.2.2,r5.2.1,r5.2.2,r9.1,r9.2.1,r9.2.2.1,r9.2.2.2.1,r9.2.2.2.2.1,r9.2.2.2.2.2.1,r9.2.2.2.2.2.2.1,r9.2.2.2.2.2.2.2.1,r9.2.2.2.2.2.2.2.2.1,r9.2.2.2.2.2.2.2.2.2.1,r9.2.2.2.2.2.2.2.2.2.2.1,r9.2.2.2.2.2.2.2.2.2.2.2.1)).bind fun r10=>
 bif (!r10.2.2.2.2.2.2.2.2.2.2.2.2.1)then(some (r1.1,r1.2.1,r1.2.2,false))
 else(bif (!r10.2.2.2.2.2.2.2.2.2.2.2.2.2.1)then(some (r1.1,r1.2.1,r1.2.2,false))
 else((J2 D (r10.2.2.2.2.2.2.2.2.2.2.2.2.2.2,r5.2.1,r5.2.2,r10.1,r10.2.1,r10.2.2.1,r10.2.2.2.1,r10.2.2.2.2.1,r10.2.2.2.2.2.1,r10.2.2.2.2.2.2.1,r10.2.2.2.2.2.2.2.1,r10.2.2.2.2.2.2.2.2.1,r10.2.2.2.2.2.2.2.2.2.1,r10.2.2.2.2.2.2.2.2.2.2.1,r10.2.2.2.2.2.2.2.2.2.2.2.1)).bind fun r11=>
 bif (!r11.2.2.2.2.2.2.2.2.2.2.2.2.1)then(some (r1.1,r1.2.1,r1.2.2,false))
 else(some (r11.2.2.2.2.2.2.2.2.2.2.2.2.2.2,r5.2.1,r5.2.2,true))))))else none)else none))))
theorem QsG:OfF Y3 QhF:=ofF 106
def jU:rL YP:=fun D L (y0,y1,y2)=>
 bif (decide (y1<(y2.length:Int)))then(bif inb y1 y2.length then
 let e1:=(rd1 XV y2 y1);
 let l2:=List.set y2 (Int.toNat y1) (y0,e1.2);
 bif inb y1 l2.length then
 let e3:=(rd1 XV l2 y1);
 let l4:=List.set l2 (Int.toNat y1) (e3.1,(wR (y0+1)),e3.2.2);
 bif inb y1 l4.length then
 let e5:=(rd1 XV l4 y1);
 let l6:=List.set l4 (Int.toNat y1) (e5.1,e5.2.1,(wR ((wR (y0+1))+1)),e5.2.2.2);
 bif inb y1 l6.length then
 let e7:=(rd1 XV l6 y1);
 let l8:=List.set l6 (Int.toNat y1) (e7.1,e7.2.1,e7.2.2.1,(wR ((wR ((wR (y0+1))+1))+1)),e7.2.2.2.2);
 bif inb y1 l8.length then
 let e9:=(rd1 XV l8 y1);
 let l10:=List.set l8 (Int.toNat y1) (e9.1,e9.2.1,e9.2.2.1,e9.2.2.2.1,(wR ((wR ((wR ((wR (y0+1))+1))+1))+1)),e9.2.2.2.2.2);
 (K7 D (wR ((wR ((wR ((wR ((wR (y0+1))+1))+1))+1))+1))).bind fun r11=>
 bif inb y1 l10.length then
 let e12:=(rd1 XV l10 y1);
 let l13:=List.set l10 (Int.toNat y1) (e12.1,e12.2.1,e12.2.2.1,e12.2.2.2.1,e12.2.2.2.2.1,r11);
 YP L ((wR ((wR ((wR ((wR ((wR ((wR (y0+1))+1))+1))+1))+1))+1)),(wR (y1+1)),l13)else none else none else none else none else none else none)
 else(some (y0,y2))
theorem Qa8:OfL YP jU:=ofL 107 0
def Qf6:rF VA:=fun D L (a0,a1)=>
 (YP L (a1,0,a0)).bind fun z14=>
 some z14
theorem QrG:OfF VA Qf6:=ofF 107
def yT:rL Yl:=fun D L (y0,y1,y2)=>
 bif (decide (y1<(y2.length:Int)))then(bif inb y1 y2.length then
 let e1:=(rd1 XP y2 y1);
 let l2:=List.set y2 (Int.toNat y1) (y0,e1.2);
 bif inb y1 l2.length then
 let e3:=(rd1 XP l2 y1);
 let l4:=List.set l2 (Int.toNat y1) (e3.1,(wR (y0+1)));
 Yl L ((wR ((wR (y0+1))+1)),(wR (y1+1)),l4)else none else none)
 else(some (y0,y2))
theorem Qau:OfL Yl yT:=ofL 108 0
def QdA:rF KJ:=fun D L (a0,a1)=>
 (Yl L (a1,0,a0)).bind fun z5=>
 some z5
theorem Qql:OfF KJ QdA:=ofF 108
def yS:rL Yb:=fun D L (y0,y1,y2)=>
 bif (decide (y1<(y2.length:Int)))then(bif inb y1 y2.length then
 let e1:=(rd1 Y9 y2 y1);
 (VA D ((rd1 Y9 y2 y1).1,y0)).bind fun r2=>
 let e3:=(rd1 Y9 y2 y1);
 let l4:=List.set y2 (Int.toNat y1) (r2.2,e3.2);
 bif inb y1 l4.length then
 let e5:=(rd1 Y9 l4 y1);
 (KJ D ((rd1 Y9 l4 y1).2,r2.1)).bind fun r6=>
 let e7:=(rd1 Y9 l4 y1);
 let l8:=List.set l4 (Int.toNat y1) (e7.1,r6.2);
 Yb L (r6.1,(wR (y1+1)),l8)else none else none)
 else(some (y0,y2))
theorem QaB:OfL Yb yS:=ofL 109 0
def QdH:rF yf:=fun D L (a0,a1)=>
 (Yb L (a1,0,a0)).bind fun z9=>
 some z9
theorem QpM:OfF yf QdH:=ofF 109
def vj:rL YK:=fun D L (y0,y1,y2)=>
 bif (decide (y1<(y2.length:Int)))then(bif inb y1 y2.length then
 (K6 D ((rd1 ([]:List Int) y2 y1),y0)).bind fun r1=>
 let l2:=List.set y2 (Int.toNat y1) r1.2;
 YK L (r1.1,(wR (y1+1)),l2)else none)
 else(some (y0,y2))
theorem Qdj:OfL YK vj:=ofL 110 0
def QgU:rF je:=fun D L (a0,a1)=>
 (YK L (a1,0,a0)).bind fun z3=>
 some z3
theorem QrA:OfF je QgU:=ofF 110
def j6:rL YJ:=fun D L (y0,y1,y2)=>
 bif (decide (y1<(y2.length:Int)))then(bif inb y1 y2.length then
 let e1:=(rd1 X9 y2 y1);
 let l2:=List.set y2 (Int.toNat y1) (y0,e1.2);
 bif inb y1 l2.length then
 let e3:=(rd1 X9 l2 y1);
 let l4:=List.set l2 (Int.toNat y1) (e3.1,(wR (y0+1)),e3.2.2);
 bif decide ((3:Int)≠0)then
 bif inb y1 l4.length then
 let e5:=(rd1 X9 l4 y1);
 let l6:=List.set l4 (Int.toNat y1) (e5.1,e5.2.1,(decide ((Int.tmod (wR ((wR (y0+1))+1)) 3)=0)),e5.2.2.2);
 bif inb y1 l6.length then
 let e7:=(rd1 X9 l6 y1);
 let l8:=List.set l6 (Int.toNat y1) (e7.1,e7.2.1,e7.2.2.1,(wR ((wR ((wR (y0+1))+1))+1)));
 YJ L ((wR ((wR ((wR ((wR (y0+1))+1))+1))+1)),(wR (y1+1)),l8)else none else none else none else none else none)
 else(some (y0,y2))
theorem Qa6:OfL YJ j6:=ofL 111 0
def QfY:rF jN:=fun D L (a0,a1)=>
 (YJ L (a1,0,a0)).bind fun z9=>
 some z9
theorem Qrn:OfF jN QfY:=ofF 111
def jY:rL YQ:=fun D L (y0,y1,y2)=>
 bif (decide (y1<(y2.length:Int)))then(bif inb y1 y2.length then
 let e1:=(rd1 Zq y2 y1);
 let l2:=List.set y2 (Int.toNat y1) (y0,e1.2);
 bif inb y1 l2.length then
 let e3:=(rd1 Zq l2 y1);
 let l4:=List.set l2 (Int.toNat y1) (e3.1,(wR (y0+1)),e3.2.2);
 bif inb y1 l4.length then
 let e5:=(rd1 Zq l4 y1);
 let l6:=List.set l4 (Int.toNat y1) (e5.1,e5.2.1,(wR ((wR (y0+1))+1)));
 YQ L ((wR ((wR ((wR (y0+1))+1))+1)),(wR (y1+1)),l6)else none else none else none)
 else(some (y0,y2))
theorem Qa7:OfL YQ jY:=ofL 112 0
def Qfv:rF jM:=fun D L (a0,a1)=>
 (YQ L (a1,0,a0)).bind fun z7=>
 some z7
theorem QrC:OfF jM Qfv:=ofF 112
def vn:rL YX:=fun D L (y0,y1,y2)=>
 bif (decide (y1<(y2.length:Int)))then(bif inb y1 y2.length then
 let l1:=List.set y2 (Int.toNat y1) (IntKind.wrap .u8 y0);
 YX L ((wR (y0+1)),(wR (y1+1)),l1)else none)
 else(some (y0,y2))
theorem QbG:OfL YX vn:=ofL 113 0
def Qgj:rF jx:=fun D L (a0,a1)=>
 (YX L (a1,0,a0)).bind fun z2=>
 some z2
theorem Qrl:OfF jx Qgj:=ofF 113
def jX:rL YW:=fun D L (y0,y1,y2)=>
 bif (decide (y2<(y0.length:Int)))then(bif inb y2 y0.length then
 let e1:=(rd1 XV y0 y2);
 bif (!decide (e1.1=y1))then(some (Sum.inl (-1)))
 else(bif inb y2 y0.length then
 let e2:=(rd1 XV y0 y2);
 bif (!decide (e2.2.1=(wR (y1+1))))then(some (Sum.inl (-1)))
 else(bif inb y2 y0.length then
 let e3:=(rd1 XV y0 y2);
 bif (!decide (e3.2.2.1=(wR ((wR (y1+1))+1))))then(some (Sum.inl (-1)))
 else(bif inb y2 y0.length then
 let e4:=(rd1 XV y0 y2);
 bif (!decide (e4.2.2.2.1=(wR ((wR ((wR (y1+1))+1))+1))))then(some (Sum.inl (-1)))
 else(bif inb y2 y0.length then
 let e5:=(rd1 XV y0 y2);
 bif (!decide (e5.2.2.2.2.1=(wR ((wR ((wR ((wR (y1+1))+1))+1))+1))))then(some (Sum.inl (-1)))
 else(bif inb y2 y0.length then
 let e6:=(rd1 XV y0 y2);
 (K7 D (wR ((wR ((wR ((wR ((wR (y1+1))+1))+1))+1))+1))).bind fun r7=>
 bif (!Jb e6.2.2.2.2.2 r7)then(some (Sum.inl (-1)))
 else(YW L (y0,(wR ((wR ((wR ((wR ((wR ((wR (y1+1))+1))+1))+1))+1))+1)),(wR (y2+1))))else none)else none)else none)else none)else none)else none)
 else(some (Sum.inr y1))
theorem Qds:OfL YW jX:=ofL 114 0
def QgR:rF VF:=fun D L (a0,a1)=>
 (YW L (a0,a1,0)).bind fun z8=>
 Qp z8 (fun u9=>
 some u9)
 (fun z10=>
 some z10)
theorem Qrm:OfF VF QgR:=ofF 114
def yI:rL Yk:=fun D L (y0,y1,y2)=>
 bif (decide (y2<(y0.length:Int)))then(bif inb y2 y0.length then
 let e1:=(rd1 XP y0 y2);
 bif (!decide (e1.1=y1))then(some (Sum.inl (-1)))
 else(bif inb y2 y0.length then
 let e2:=(rd1 XP y0 y2);
 bif (!decide (e2.2=(wR (y1+1))))then(some (Sum.inl (-1)))
 else(Yk L (y0,(wR ((wR (y1+1))+1)),(wR (y2+1))))else none)else none)
 else(some (Sum.inr y1))
theorem QaA:OfL Yk yI:=ofL 115 0
def QdN:rF KM:=fun D L (a0,a1)=>
 (Yk L (a0,a1,0)).bind fun z3=>
 Qp z3 (fun u4=>
 some u4)
 (fun z5=>
 some z5)
theorem Qqc:OfF KM QdN:=ofF 115
def Qan:rL Kf:=fun D L (y0,y1,y2)=>
 bif (decide (y2<(y0.length:Int)))then(bif inb y2 y0.length then
 bif (!decide ((rd1 (0:Int) y0 y2)=y1))then(some (Sum.inl (-1)))
 else(Kf L (y0,(wR (y1+1)),(wR (y2+1))))else none)
 else(some (Sum.inr y1))
theorem QdO:OfL Kf Qan:=ofL 116 0
def Qhm:rF Va:=fun D L (a0,a1)=>
 (Kf L (a0,a1,0)).bind fun z1=>
 Qp z1 (fun u2=>
 some u2)
 (fun z3=>
 some z3)
theorem QsM:OfF Va Qhm:=ofF 116
def yY:rL Yj:=fun D L (y0,y1,y2)=>
 bif (decide (y2<(y0.length:Int)))then(bif inb y2 y0.length then
 let e1:=(rd1 Y9 y0 y2);
 (VF D (e1.1,y1)).bind fun r2=>
 bif (decide (r2<0))then(some (Sum.inl (-1)))
 else(bif inb y2 y0.length then
 let e3:=(rd1 Y9 y0 y2);
 (KM D (e3.2,r2)).bind fun r4=>
 bif (decide (r4<0))then(some (Sum.inl (-1)))
 else(Yj L (y0,r4,(wR (y2+1))))else none)else none)
 else(some (Sum.inr y1))
theorem QaK:OfL Yj yY:=ofL 117 0
def QdR:rF ya:=fun D L (a0,a1)=>
 (Yj L (a0,a1,0)).bind fun z5=>
 Qp z5 (fun u6=>
 some u6)
 (fun z7=>
 some z7)
theorem Qqs:OfF ya QdR:=ofF 117
def vk:rL YM:=fun D L (y0,y1,y2)=>
 bif (decide (y2<(y0.length:Int)))then(bif inb y2 y0.length then
 (Va D ((rd1 ([]:List Int) y0 y2),y1)).bind fun r1=>
 bif (decide (r1<0))then(some (Sum.inl (-1)))
 else(YM L (y0,r1,(wR (y2+1))))else none)
 else(some (Sum.inr y1))
theorem QaX:OfL YM vk:=ofL 118 0
def QgN:rF jO:=fun D L (a0,a1)=>
 (YM L (a0,a1,0)).bind fun z2=>
 Qp z2 (fun u3=>
 some u3)
 (fun z4=>
 some z4)
theorem QrE:OfF jO QgN:=ofF 118
def vb:rL YZ:=fun D L (y0,y1,y2)=>
 bif (decide (y2<(y0.length:Int)))then(bif inb y2 y0.length then
 let e1:=(rd1 X9 y0 y2);
 bif (!decide (e1.1=y1))then(some (Sum.inl (-1)))
 else(bif inb y2 y0.length then
 let e2:=(rd1 X9 y0 y2);
 bif (!decide (e2.2.1=(wR (y1+1))))then(some (Sum.inl (-1)))
 else(bif inb y2 y0.length then
 let e3:=(rd1 X9 y0 y2);
 bif decide ((3:Int)≠0)then
 bif (!(e3.2.2.1==(decide ((Int.tmod (wR ((wR (y1+1))+1)) 3)=0))))then(some (Sum.inl (-1)))
 else(bif inb y2 y0.length then
 let e4:=(rd1 X9 y0 y2);
 bif (!decide (e4.2.2.2=(wR ((wR ((wR (y1+1))+1))+1))))then(some (Sum.inl (-1)))
 else(YZ L (y0,(wR ((wR ((wR ((wR (y1+1))+1))+1))+1)),(wR (y2+1))))else none)else none else none)else none)else none)
 else(some (Sum.inr y1))
theorem QcO:OfL YZ vb:=ofL 119 0
def Qgi:rF jI:=fun D L (a0,a1)=>
 (YZ L (a0,a1,0)).bind fun z5=>
 Qp z5 (fun u6=>
 some u6)
 (fun z7=>
 some z7)
theorem QrD:OfF jI Qgi:=ofF 119
def jT:rL YO:=fun D L (y0,y1,y2)=>
 bif (decide (y2<(y0.length:Int)))then(bif inb y2 y0.length then
 let e1:=(rd1 Zq y0 y2);
 bif (!decide (e1.1=y1))then(some (Sum.inl (-1)))
 else(bif inb y2 y0.length then
 let e2:=(rd1 Zq y0 y2);
 bif (!decide (e2.2.1=(wR (y1+1))))then(some (Sum.inl (-1)))
 else(bif inb y2 y0.length then
 let e3:=(rd1 Zq y0 y2);
 bif (!decide (e3.2.2=(wR ((wR (y1+1))+1))))then(some (Sum.inl (-1)))
 else(YO L (y0,(wR ((wR ((wR (y1+1))+1))+1)),(wR (y2+1))))else none)else none)else none)
 else(some (Sum.inr y1))
theorem Qdl:OfL YO jT:=ofL 120 0
def Qf9:rF jH:=fun D L (a0,a1)=>
 (YO L (a0,a1,0)).bind fun z4=>
 Qp z4 (fun u5=>
 some u5)
 (fun z6=>
 some z6)
theorem QrF:OfF jH Qf9:=ofF 120
def jW:rL Y0:=fun D L (y0,y1,y2)=>
 bif (decide (y2<(y0.length:Int)))then(bif inb y2 y0.length then
 bif (!decide ((rd1 (0:Int) y0 y2)=(IntKind.wrap .u8 y1)))then(some (Sum.inl (-1)))
 else(Y0 L (y0,(wR (y1+1)),(wR (y2+1))))else none)
 else(some (Sum.inr y1))
theorem Qb6:OfL Y0 jW:=ofL 121 0
def Qfp:rF jA:=fun D L (a0,a1)=>
 (Y0 L (a0,a1,0)).bind fun z1=>
 Qp z1 (fun u2=>
 some u2)
 (fun z3=>
 some z3)
theorem Qru:OfF jA Qfp:=ofF 121
def QiD:rF QbN:=fun D L (a0,a1,a2,a3,a4,a5,a6,a7,a8,a9,a10,a11,a12,a13,a14,a15,a16,a17,a18,a19)=>
 (QF D (a19,0,(wR (a1 - 1)))).bind fun r1=>
 bif r1 then(some (!decide (a19=a0)))
 else(some false)
theorem QuO:OfF QbN QiD:=ofF 122
def Ql0:rF Z5:=fun D L (a0,a1,a2,a3,a4,a5,a6,a7,a8,a9,a10,a11,a12,a13,a14,a15,a16,a17,a18,a19,a20,a21)=>
 (qx D (a6,a7,a8)).bind fun r1=>
 bif fits (List.length ([]:List Int)+a9.length) 8 then
 (xy D (a2,a3)).bind fun r2=>
 some (a19,a0,a20,a21,r1,[],0,(([]:List Int)++a9),[],[],[],r2)else none
theorem Qxk:OfF Z5 Ql0:=ofF 123
def Qkm:rF QaT:=fun D L (a0,a1,a2,a3,a4,a5,a6,a7,a8,a9,a10,a11,a12,a13,a14,a15,a16,a17,a18,a19)=>
 (zj D (a6,a7,a8,a19)).bind fun r1=>
 bif r1.2.2 then(some (r1.1,r1.2.1,true))
 else((Z2 D (a2,a3)).bind fun r2=>
 some (r2.1,r2.2,false))
theorem Quq:OfF QaT Qkm:=ofF 124
def QlO:rF zL:=fun D L (a0,a1,a2,a3,a4,a5,a6,a7,a8,a9,a10,a11,a12,a13,a14,a15,a16,a17,a18,a19)=>
 (QA D (a19,0,(wR (a1 - 1)))).bind fun r1=>
 bif r1 then(some (!decide (a19=a0)))
 else(some false)
theorem QvR:OfF zL QlO:=ofF 126
def QiK:rF ZE:=fun D L (a0,a1,a2,a3,a4,a5,a6,a7,a8,a9,a10,a11,a12,a13,a14,a15,a16,a17,a18,a19,a20,a21)=>
 (Vx D (a6,a7,a8)).bind fun r1=>
 (ZI D a9).bind fun r2=>
 (qT D (a2,a3)).bind fun r3=>
 some (a19,a0,a20,a21,r1,[],0,r2,[],[],[],r3)
theorem Qvk:OfF ZE QiK:=ofF 127
def Qpe:rF QlD:=fun D L (a0,a1,a2,a3,a4,a5,a6,a7,a8,a9,a10,a11,a12,a13,a14,a15,a16,a17,a18,a19)=>
 (ZH D (a0,a1,a2,a3,a4,a5,a6,a7,a8,a9,a10,a11,a12,a13,a14,a15,a16,a17,a18)).bind fun r1=>
 bif (!r1)then(some ([],[],false))
 else((zx D (a6,a7,a8,a19)).bind fun r2=>
 bif (!r2.2.2)then((X2 D (a2,a3)).bind fun r3=>
 some (r3.1,r3.2,false))
 else(some (r2.1,r2.2.1,true)))
theorem QBb:OfF QlD Qpe:=ofF 128
end
end Go.Proofs.YtiejfnbmficbmaaGreat.M
