/- Plain forms of the functions that FnExactIslands reaches, part 3. No conditions. -/
import Derived.Test.YtiejfnbmficbmaaGreatFnExactIslandsTab
set_option linter.all false
namespace Go.Proofs.YtiejfnbmficbmaaGreat.M
open Go Go.Eng Go.Proofs
set_option linter.unusedVariables false
noncomputable section
def yw:rL Z1:=fun D L (y0,y1,y2)=>
 bif (decide (y1<(y2.length:Int)))then(bif inb y1 y2.length then
 let e1:=(rd1 XF y2 y1);
 let l2:=List.set y2 (Int.toNat y1) (y0,e1.2);
 bif inb y1 l2.length then
 let e3:=(rd1 XF l2 y1);
 let l4:=List.set l2 (Int.toNat y1) (e3.1,(wR (y0+1)));
 Z1 L ((wR ((wR (y0+1))+1)),(wR (y1+1)),l4)else none else none)
 else(some (y0,y2))
theorem Qat:OfL Z1 yw:=ofL 108 0
def QdI:rF KH:=fun D L (a0,a1)=>
 (Z1 L (a1,0,a0)).bind fun z5=>
 some z5
theorem Qp1:OfF KH QdI:=ofF 108
def yC:rL Z7:=fun D L (y0,y1,y2)=>
 bif (decide (y1<(y2.length:Int)))then(bif inb y1 y2.length then
 let e1:=(rd1 YU y2 y1);
 (Vu D ((rd1 YU y2 y1).1,y0)).bind fun r2=>
 let e3:=(rd1 YU y2 y1);
 let l4:=List.set y2 (Int.toNat y1) (r2.2,e3.2);
 bif inb y1 l4.length then
 let e5:=(rd1 YU l4 y1);
 (KH D ((rd1 YU l4 y1).2,r2.1)).bind fun r6=>
 let e7:=(rd1 YU l4 y1);
 let l8:=List.set l4 (Int.toNat y1) (e7.1,r6.2);
 Z7 L (r6.1,(wR (y1+1)),l8)else none else none)
 else(some (y0,y2))
theorem QaG:OfL Z7 yC:=ofL 109 0
def QdH:rF zQ:=fun D L (a0,a1)=>
 (Z7 L (a1,0,a0)).bind fun z9=>
 some z9
theorem Qp5:OfF zQ QdH:=ofF 109
def jY:rL YI:=fun D L (y0,y1,y2)=>
 bif (decide (y1<(y2.length:Int)))then(bif inb y1 y2.length then
 (YO D ((rd1 ([]:List Int) y2 y1),y0)).bind fun r1=>
 let l2:=List.set y2 (Int.toNat y1) r1.2;
 YI L (r1.1,(wR (y1+1)),l2)else none)
 else(some (y0,y2))
theorem QcJ:OfL YI jY:=ofL 110 0
def Qfl:rF yZ:=fun D L (a0,a1)=>
 (YI L (a1,0,a0)).bind fun z3=>
 some z3
theorem Qrb:OfF yZ Qfl:=ofF 110
def jV:rL YJ:=fun D L (y0,y1,y2)=>
 bif (decide (y1<(y2.length:Int)))then(bif inb y1 y2.length then
 let e1:=(rd1 XX y2 y1);
 let l2:=List.set y2 (Int.toNat y1) (y0,e1.2);
 bif inb y1 l2.length then
 let e3:=(rd1 XX l2 y1);
 let l4:=List.set l2 (Int.toNat y1) (e3.1,(wR (y0+1)),e3.2.2);
 bif decide ((3:Int)≠0)then
 bif inb y1 l4.length then
 let e5:=(rd1 XX l4 y1);
 let l6:=List.set l4 (Int.toNat y1) (e5.1,e5.2.1,(decide ((Int.tmod (wR ((wR (y0+1))+1)) 3)=0)),e5.2.2.2);
 bif inb y1 l6.length then
 let e7:=(rd1 XX l6 y1);
 let l8:=List.set l6 (Int.toNat y1) (e7.1,e7.2.1,e7.2.2.1,(wR ((wR ((wR (y0+1))+1))+1)));
 YJ L ((wR ((wR ((wR ((wR (y0+1))+1))+1))+1)),(wR (y1+1)),l8)else none else none else none else none else none)
 else(some (y0,y2))
theorem Qbl:OfL YJ jV:=ofL 111 0
def QfW:rF jt:=fun D L (a0,a1)=>
 (YJ L (a1,0,a0)).bind fun z9=>
 some z9
theorem Qq5:OfF jt QfW:=ofF 111
def jN:rL YM:=fun D L (y0,y1,y2)=>
 bif (decide (y1<(y2.length:Int)))then(bif inb y1 y2.length then
 let e1:=(rd1 Zc y2 y1);
 let l2:=List.set y2 (Int.toNat y1) (y0,e1.2);
 bif inb y1 l2.length then
 let e3:=(rd1 Zc l2 y1);
 let l4:=List.set l2 (Int.toNat y1) (e3.1,(wR (y0+1)),e3.2.2);
 bif inb y1 l4.length then
 let e5:=(rd1 Zc l4 y1);
 let l6:=List.set l4 (Int.toNat y1) (e5.1,e5.2.1,(wR ((wR (y0+1))+1)));
 YM L ((wR ((wR ((wR (y0+1))+1))+1)),(wR (y1+1)),l6)else none else none else none)
 else(some (y0,y2))
theorem Qbb:OfL YM jN:=ofL 112 0
def QfL:rF ji:=fun D L (a0,a1)=>
 (YM L (a1,0,a0)).bind fun z7=>
 some z7
theorem Qrd:OfF ji QfL:=ofF 112
def va:rL YE:=fun D L (y0,y1,y2)=>
 bif (decide (y1<(y2.length:Int)))then(bif inb y1 y2.length then
 let l1:=List.set y2 (Int.toNat y1) (IntKind.wrap .u8 y0);
 YE L ((wR (y0+1)),(wR (y1+1)),l1)else none)
 else(some (y0,y2))
theorem Qdl:OfL YE va:=ofL 113 0
def Qf8:rF yX:=fun D L (a0,a1)=>
 (YE L (a1,0,a0)).bind fun z2=>
 some z2
theorem Qq1:OfF yX Qf8:=ofF 113
def vg:rL YL:=fun D L (y0,y1,y2)=>
 bif (decide (y2<(y0.length:Int)))then(bif inb y2 y0.length then
 let e1:=(rd1 XZ y0 y2);
 bif (!decide (e1.1=y1))then(some (Sum.inl (-1)))
 else(bif inb y2 y0.length then
 let e2:=(rd1 XZ y0 y2);
 bif (!decide (e2.2.1=(wR (y1+1))))then(some (Sum.inl (-1)))
 else(bif inb y2 y0.length then
 let e3:=(rd1 XZ y0 y2);
 bif (!decide (e3.2.2.1=(wR ((wR (y1+1))+1))))then(some (Sum.inl (-1)))
 else(bif inb y2 y0.length then
 let e4:=(rd1 XZ y0 y2);
 bif (!decide (e4.2.2.2.1=(wR ((wR ((wR (y1+1))+1))+1))))then(some (Sum.inl (-1)))
 else(bif inb y2 y0.length then
 let e5:=(rd1 XZ y0 y2);
 bif (!decide (e5.2.2.2.2.1=(wR ((wR ((wR ((wR (y1+1))+1))+1))+1))))then(some (Sum.inl (-1)))
 else(bif inb y2 y0.length then
 let e6:=(rd1 XZ y0 y2);
 (K3 D (wR ((wR ((wR ((wR ((wR (y1+1))+1))+1))+1))+1))).bind fun r7=>
 bif (!V1 e6.2.2.2.2.2 r7)then(some (Sum.inl (-1)))
 else(YL L (y0,(wR ((wR ((wR ((wR ((wR ((wR (y1+1))+1))+1))+1))+1))+1)),(wR (y2+1))))else none)else none)else none)else none)else none)else none)
 else(some (Sum.inr y1))
theorem Qa5:OfL YL vg:=ofL 114 0
def Qgy:rF Vq:=fun D L (a0,a1)=>
 (YL L (a0,a1,0)).bind fun z8=>
 Qp z8 (fun u9=>
 some u9)
 (fun z10=>
 some z10)
theorem QqP:OfF Vq Qgy:=ofF 114
def yO:rL Z2:=fun D L (y0,y1,y2)=>
 bif (decide (y2<(y0.length:Int)))then(bif inb y2 y0.length then
 let e1:=(rd1 XF y0 y2);
 bif (!decide (e1.1=y1))then(some (Sum.inl (-1)))
 else(bif inb y2 y0.length then
 let e2:=(rd1 XF y0 y2);
 bif (!decide (e2.2=(wR (y1+1))))then(some (Sum.inl (-1)))
 else(Z2 L (y0,(wR ((wR (y1+1))+1)),(wR (y2+1))))else none)else none)
 else(some (Sum.inr y1))
theorem Qaz:OfL Z2 yO:=ofL 115 0
def Qdw:rF KT:=fun D L (a0,a1)=>
 (Z2 L (a0,a1,0)).bind fun z3=>
 Qp z3 (fun u4=>
 some u4)
 (fun z5=>
 some z5)
theorem Qpv:OfF KT Qdw:=ofF 115
def v7:rL Y4:=fun D L (y0,y1,y2)=>
 bif (decide (y2<(y0.length:Int)))then(bif inb y2 y0.length then
 bif (!decide ((rd1 (0:Int) y0 y2)=y1))then(some (Sum.inl (-1)))
 else(Y4 L (y0,(wR (y1+1)),(wR (y2+1))))else none)
 else(some (Sum.inr y1))
theorem QdC:OfL Y4 v7:=ofL 116 0
def Qhi:rF K2:=fun D L (a0,a1)=>
 (Y4 L (a0,a1,0)).bind fun z1=>
 Qp z1 (fun u2=>
 some u2)
 (fun z3=>
 some z3)
theorem Qss:OfF K2 Qhi:=ofF 116
def yi:rL Z4:=fun D L (y0,y1,y2)=>
 bif (decide (y2<(y0.length:Int)))then(bif inb y2 y0.length then
 let e1:=(rd1 YU y0 y2);
 (Vq D (e1.1,y1)).bind fun r2=>
 bif (decide (r2<0))then(some (Sum.inl (-1)))
 else(bif inb y2 y0.length then
 let e3:=(rd1 YU y0 y2);
 (KT D (e3.2,r2)).bind fun r4=>
 bif (decide (r4<0))then(some (Sum.inl (-1)))
 else(Z4 L (y0,r4,(wR (y2+1))))else none)else none)
 else(some (Sum.inr y1))
theorem QaH:OfL Z4 yi:=ofL 117 0
def Qdr:rF zN:=fun D L (a0,a1)=>
 (Z4 L (a0,a1,0)).bind fun z5=>
 Qp z5 (fun u6=>
 some u6)
 (fun z7=>
 some z7)
theorem Qpo:OfF zN Qdr:=ofF 117
def vf:rL YD:=fun D L (y0,y1,y2)=>
 bif (decide (y2<(y0.length:Int)))then(bif inb y2 y0.length then
 (K2 D ((rd1 ([]:List Int) y0 y2),y1)).bind fun r1=>
 bif (decide (r1<0))then(some (Sum.inl (-1)))
 else(YD L (y0,r1,(wR (y2+1))))else none)
 else(some (Sum.inr y1))
theorem QcE:OfL YD vf:=ofL 118 0
def QfB:rF jd:=fun D L (a0,a1)=>
 (YD L (a0,a1,0)).bind fun z2=>
 Qp z2 (fun u3=>
 some u3)
 (fun z4=>
 some z4)
theorem QqZ:OfF jd QfB:=ofF 118
def j8:rL Yy:=fun D L (y0,y1,y2)=>
 bif (decide (y2<(y0.length:Int)))then(bif inb y2 y0.length then
 let e1:=(rd1 XX y0 y2);
 bif (!decide (e1.1=y1))then(some (Sum.inl (-1)))
 else(bif inb y2 y0.length then
 let e2:=(rd1 XX y0 y2);
 bif (!decide (e2.2.1=(wR (y1+1))))then(some (Sum.inl (-1)))
 else(bif inb y2 y0.length then
 let e3:=(rd1 XX y0 y2);
 bif decide ((3:Int)≠0)then
 bif (!(e3.2.2.1==(decide ((Int.tmod (wR ((wR (y1+1))+1)) 3)=0))))then(some (Sum.inl (-1)))
 else(bif inb y2 y0.length then
 let e4:=(rd1 XX y0 y2);
 bif (!decide (e4.2.2.2=(wR ((wR ((wR (y1+1))+1))+1))))then(some (Sum.inl (-1)))
 else(Yy L (y0,(wR ((wR ((wR ((wR (y1+1))+1))+1))+1)),(wR (y2+1))))else none)else none else none)else none)else none)
 else(some (Sum.inr y1))
theorem QbW:OfL Yy j8:=ofL 119 0
def Qfu:rF yW:=fun D L (a0,a1)=>
 (Yy L (a0,a1,0)).bind fun z5=>
 Qp z5 (fun u6=>
 some u6)
 (fun z7=>
 some z7)
theorem Qq9:OfF yW Qfu:=ofF 119
def jP:rL YA:=fun D L (y0,y1,y2)=>
 bif (decide (y2<(y0.length:Int)))then(bif inb y2 y0.length then
 let e1:=(rd1 Zc y0 y2);
 bif (!decide (e1.1=y1))then(some (Sum.inl (-1)))
 else(bif inb y2 y0.length then
 let e2:=(rd1 Zc y0 y2);
 bif (!decide (e2.2.1=(wR (y1+1))))then(some (Sum.inl (-1)))
 else(bif inb y2 y0.length then
 let e3:=(rd1 Zc y0 y2);
 bif (!decide (e3.2.2=(wR ((wR (y1+1))+1))))then(some (Sum.inl (-1)))
 else(YA L (y0,(wR ((wR ((wR (y1+1))+1))+1)),(wR (y2+1))))else none)else none)else none)
 else(some (Sum.inr y1))
theorem QcL:OfL YA jP:=ofL 120 0
def Qgc:rF jy:=fun D L (a0,a1)=>
 (YA L (a0,a1,0)).bind fun z4=>
 Qp z4 (fun u5=>
 some u5)
 (fun z6=>
 some z6)
theorem QqU:OfF jy Qgc:=ofF 120
def jQ:rL YG:=fun D L (y0,y1,y2)=>
 bif (decide (y2<(y0.length:Int)))then(bif inb y2 y0.length then
 bif (!decide ((rd1 (0:Int) y0 y2)=(IntKind.wrap .u8 y1)))then(some (Sum.inl (-1)))
 else(YG L (y0,(wR (y1+1)),(wR (y2+1))))else none)
 else(some (Sum.inr y1))
theorem QbL:OfL YG jQ:=ofL 121 0
def Qfc:rF js:=fun D L (a0,a1)=>
 (YG L (a0,a1,0)).bind fun z1=>
 Qp z1 (fun u2=>
 some u2)
 (fun z3=>
 some z3)
theorem Qq4:OfF js Qfc:=ofF 121
def QjW:rF Qc2:=fun D L (a0,a1,a2,a3,a4,a5,a6,a7,a8,a9,a10,a11,a12,a13,a14,a15,a16,a17,a18,a19)=>
 (QE D (a19,0,(wR (a1 - 1)))).bind fun r1=>
 bif r1 then(some (!decide (a19=a0)))
 else(some false)
theorem QuE:OfF Qc2 QjW:=ofF 122
def QlS:rF ZT:=fun D L (a0,a1,a2,a3,a4,a5,a6,a7,a8,a9,a10,a11,a12,a13,a14,a15,a16,a17,a18,a19,a20,a21)=>
 (qy D (a6,a7,a8)).bind fun r1=>
 bif fits (List.length ([]:List Int)+a9.length) 8 then
 (xC D (a2,a3)).bind fun r2=>
 some (a19,a0,a20,a21,r1,[],0,(([]:List Int)++a9),[],[],[],r2)else none
theorem QvK:OfF ZT QlS:=ofF 123
def QjM:rF QcT:=fun D L (a0,a1,a2,a3,a4,a5,a6,a7,a8,a9,a10,a11,a12,a13,a14,a15,a16,a17,a18,a19)=>
 (ze D (a6,a7,a8,a19)).bind fun r1=>
 bif r1.2.2 then(some (r1.1,r1.2.1,true))
 else((Kd D (a2,a3)).bind fun r2=>
 some (r2.1,r2.2,false))
theorem QuO:OfF QcT QjM:=ofF 124
def QkY:rF zu:=fun D L (a0,a1,a2,a3,a4,a5,a6,a7,a8,a9,a10,a11,a12,a13,a14,a15,a16,a17,a18,a19)=>
 (QC D (a19,0,(wR (a1 - 1)))).bind fun r1=>
 bif r1 then(some (!decide (a19=a0)))
 else(some false)
theorem Qwv:OfF zu QkY:=ofF 126
def QjS:rF Zv:=fun D L (a0,a1,a2,a3,a4,a5,a6,a7,a8,a9,a10,a11,a12,a13,a14,a15,a16,a17,a18,a19,a20,a21)=>
 (Vf D (a6,a7,a8)).bind fun r1=>
 (Zx D a9).bind fun r2=>
 (qP D (a2,a3)).bind fun r3=>
 some (a19,a0,a20,a21,r1,[],0,r2,[],[],[],r3)
theorem Qtl:OfF Zv QjS:=ofF 127
def QoZ:rF QlH:=fun D L (a0,a1,a2,a3,a4,a5,a6,a7,a8,a9,a10,a11,a12,a13,a14,a15,a16,a17,a18,a19)=>
 (ZO D (a0,a1,a2,a3,a4,a5,a6,a7,a8,a9,a10,a11,a12,a13,a14,a15,a16,a17,a18)).bind fun r1=>
 bif (!r1)then(some ([],[],false))
 else((x7 D (a6,a7,a8,a19)).bind fun r2=>
 bif (!r2.2.2)then((Zy D (a2,a3)).bind fun r3=>
 some (r3.1,r3.2,false))
 else(some (r2.1,r2.2.1,true)))
theorem Qzk:OfF QlH QoZ:=ofF 128
def QlD:rF Qe4:=fun D L (a0,a1,a2,a3,a4)=>
 (qR D (a0,a1,a2)).bind fun r1=>
 bif r1 then((QE D (a3,0,(wR ((a0.length:Int) - 1)))).bind fun r2=>
 bif r2 then((QE D (a4,0,(wR ((a0.length:Int) - 1)))).bind fun r3=>
 bif r3 then(some (!decide (a3=a4)))
 else(some false))
 else(some false))
 else(some false)
theorem QwE:OfF Qe4 QlD:=ofF 129
def QpS:rF QkF:=fun D L (a0,a1,a2,a3,a4,a5,a6,a7,a8,a9,a10,a11,a12,a13,a14,a15,a16,a17,a18,a19)=>
 (Xt D (a0,a1,a2,a3,a4,a5,a6,a7,a8,a9,a10,a11,a12,a13,a14,a15,a16,a17,a18)).bind fun r1=>
 (Ka D (a0,a1,a2,a3,a4,a5,a6,a7,a8,a9,a10,a11,a12,a13,a14,a15,a16,a17,a18)).bind fun r2=>
 bif (!r2)then(some (r1.1,r1.2.1,r1.2.2.1,r1.2.2.2.1,r1.2.2.2.2.1,r1.2.2.2.2.2.1,r1.2.2.2.2.2.2.1,r1.2.2.2.2.2.2.2.1,r1.2.2.2.2.2.2.2.2.1,r1.2.2.2.2.2.2.2.2.2.1,r1.2.2.2.2.2.2.2.2.2.2.1,r1.2.2.2.2.2.2.2.2.2.2.2.1,r1.2.2.2.2.2.2.2.2.2.2.2.2.1,r1.2.2.2.2.2.2.2.2.2.2.2.2.2.1,r1.2.2.2.2.2.2.2.2.2.2.2.2.2.2.1,r1.2.2.2.2.2.2.2.2.2.2.2.2.2.2.2.1,r1.2.2.2.2.2.2.2.2.2.2.2.2.2.2.2.2.1,r1.2.2.2.2.2.2.2.2.2.2.2.2.2.2.2.2.2.1,r1.2.2.2.2.2.2.2.2.2.2.2.2.2.2.2.2.2.2,0,0,0,0,0,[],0,[],[],[],[],[],false))
 else((Qc2 D (a0,a1,a2,a3,a4,a5,a6,a7,a8,a9,a10,a11,a12,a13,a14,a15,a16,a17,a18,a19)).bind fun r3=>
 bif (!r3)then(some (r1.1,r1.2.1,r1.2.2.1,r1.2.2.2.1,r1.2.2.2.2.1,r1.2.2.2.2.2.1,r1.2.2.2.2.2.2.1,r1.2.2.2.2.2.2.2.1,r1.2.2.2.2.2.2.2.2.1,r1.2.2.2.2.2.2.2.2.2.1,r1.2.2.2.2.2.2.2.2.2.2.1,r1.2.2.2.2.2.2.2.2.2.2.2.1,r1.2.2.2.2.2.2.2.2.2.2.2.2.1,r1.2.2.2.2.2.2.2.2.2.2.2.2.2.1,r1.2.2.2.2.2.2.2.2.2.2.2.2.2.2.1,r1.2.2.2.2.2.2.2.2.2.2.2.2.2.2.2.1,r1.2.2.2.2.2.2.2.2.2.2.2.2.2.2.2.2.1,r1.2.2.2.2.2.2.2.2.2.2.2.2.2.2.2.2.2.1,r1.2.2.2.2.2.2.2.2.2.2.2.2.2.2.2.2.2.2,0,0,0,0,0,[],0,[],[],[],[],[],false))
 else((QaC D (a0,a1,a2,a3,a4,a5,a6,a7,a8,a9,a10,a11,a12,a13,a14,a15,a16,a17,a18,a19,false)).bind fun r4=>
 bif (decide (0<=r4))then(some (r1.1,r1.2.1,r1.2.2.1,r1.2.2.2.1,r1.2.2.2.2.1,r1.2.2.2.2.2.1,r1.2.2.2.2.2.2.1,r1.2.2.2.2.2.2.2.1,r1.2.2.2.2.2.2.2.2.1,r1.2.2.2.2.2.2.2.2.2.1,r1.2.2.2.2.2.2.2.2.2.2.1,r1.2.2.2.2.2.2.2.2.2.2.2.1,r1.2.2.2.2.2.2.2.2.2.2.2.2.1,r1.2.2.2.2.2.2.2.2.2.2.2.2.2.1,r1.2.2.2.2.2.2.2.2.2.2.2.2.2.2.1,r1.2.2.2.2.2.2.2.2.2.2.2.2.2.2.2.1,r1.2.2.2.2.2.2.2.2.2.2.2.2.2.2.2.2.1,r1.2.2.2.2.2.2.2.2.2.2.2.2.2.2.2.2.2.1,r1.2.2.2.2.2.2.2.2.2.2.2.2.2.2.2.2.2.2,0,0,0,0,0,[],0,[],[],[],[],[],false))
 else(bif (decide ((a14.length:Int)=a13))then(some (r1.1,r1.2.1,r1.2.2.1,r1.2.2.2.1,r1.2.2.2.2.1,r1.2.2.2.2.2.1,r1.2.2.2.2.2.2.1,r1.2.2.2.2.2.2.2.1,r1.2.2.2.2.2.2.2.2.1,r1.2.2.2.2.2.2.2.2.2.1,r1.2.2.2.2.2.2.2.2.2.2.1,r1.2.2.2.2.2.2.2.2.2.2.2.1,r1.2.2.2.2.2.2.2.2.2.2.2.2.1,r1.2.2.2.2.2.2.2.2.2.2.2.2.2.1,r1.2.2.2.2.2.2.2.2.2.2.2.2.2.2.1,r1.2.2.2.2.2.2.2.2.2.2.2.2.2.2.2.1,r1.2.2.2.2.2.2.2.2.2.2.2.2.2.2.2.2.1,r1.2.2.2.2.2.2.2.2.2.2.2.2.2.2.2.2.2.1,r1.2.2.2.2.2.2.2.2.2.2.2.2.2.2.2.2.2.2,0,0,0,0,0,[],0,[],[],[],[],[],false))
 else(bif (decide (a12=100000))then(some (r1.1,r1.2.1,r1.2.2.1,r1.2.2.2.1,r1.2.2.2.2.1,r1.2.2.2.2.2.1,r1.2.2.2.2.2.2.1,r1.2.2.2.2.2.2.2.1,r1.2.2.2.2.2.2.2.2.1,r1.2.2.2.2.2.2.2.2.2.1,r1.2.2.2.2.2.2.2.2.2.2.1,r1.2.2.2.2.2.2.2.2.2.2.2.1,r1.2.2.2.2.2.2.2.2.2.2.2.2.1,r1.2.2.2.2.2.2.2.2.2.2.2.2.2.1,r1.2.2.2.2.2.2.2.2.2.2.2.2.2.2.1,r1.2.2.2.2.2.2.2.2.2.2.2.2.2.2.2.1,r1.2.2.2.2.2.2.2.2.2.2.2.2.2.2.2.2.1,r1.2.2.2.2.2.2.2.2.2.2.2.2.2.2.2.2.2.1,r1.2.2.2.2.2.2.2.2.2.2.2.2.2.2.2.2.2.2,0,0,0,0,0,[],0,[],[],[],[],[],false))
 else(bif fits (r1.2.2.2.2.2.2.2.2.2.2.2.2.2.2.1.length+ [(a19,(wR (r1.2.2.2.2.2.2.2.2.2.2.2.2.1+1)),false,0)].length) 32 then
 (ZT D (r1.1,r1.2.1,r1.2.2.1,r1.2.2.2.1,r1.2.2.2.2.1,r1.2.2.2.2.2.1,r1.2.2.2.2.2.2.1,r1.2.2.2.2.2.2.2.1,r1.2.2.2.2.2.2.2.2.1,r1.2.2.2.2.2.2.2.2.2.1,r1.2.2.2.2.2.2.2.2.2.2.1,r1.2.2.2.2.2.2.2.2.2.2.2.1,(wR (r1.2.2.2.2.2.2.2.2.2.2.2.2.1+1)),r1.2.2.2.2.2.2.2.2.2.2.2.2.2.1,(r1.2.2.2.2.2.2.2.2.2.2.2.2.2.2.1++[(a19,(wR (r1.2.2.2.2.2.2.2.2.2.2.2.2.1+1)),false,0)]),r1.2.2.2.2.2.2.2.2.2.2.2.2.2.2.2.1,r1.2.2.2.2.2.2.2.2.2.2.2.2.2.2.2.2.1,r1.2.2.2.2.2.2.2.2.2.2.2.2.2.2.2.2.2.1,r1.2.2.2.2.2.2.2.2.2.2.2.2.2.2.2.2.2.2,2,a19,(wR (r1.2.2.2.2.2.2.2.2.2.2.2.2.1+1)))).bind fun r5=>
 (Ki D (r1.2.2.2.2.1,r1.2.2.2.2.2.1)).bind fun r6=>
 some (r1.1,r1.2.1,r1.2.2.1,r1.2.2.2.1,r1.2.2.2.2.1,r1.2.2.2.2.2.1,r1.2.2.2.2.2.2.1,r1.2.2.2.2.2.2.2.1,r1.2.2.2.2.2.2.2.2.1,r1.2.2.2.2.2.2.2.2.2.1,r1.2.2.2.2.2.2.2.2.2.2.1,r1.2.2.2.2.2.2.2.2.2.2.2.1,(wR (r1.2.2.2.2.2.2.2.2.2.2.2.2.1+1)),r1.2.2.2.2.2.2.2.2.2.2.2.2.2.1,(r1.2.2.2.2.2.2.2.2.2.2.2.2.2.2.1++[(a19,(wR (r1.2.2.2.2.2.2.2.2.2.2.2.2.1+1)),false,0)]),r1.2.2.2.2.2.2.2.2.2.2.2.2.2.2.2.1,r1.2.2.2.2.2.2.2.2.2.2.2.2.2.2.2.2.1,r1.2.2.2.2.2.2.2.2.2.2.2.2.2.2.2.2.2.1,r1.2.2.2.2.2.2.2.2.2.2.2.2.2.2.2.2.2.2,r5.1,r5.2.1,r5.2.2.1,r5.2.2.2.1,r5.2.2.2.2.1,r6.1,r6.2,r5.2.2.2.2.2.2.2.1,r5.2.2.2.2.2.2.2.2.1,r5.2.2.2.2.2.2.2.2.2.1,r5.2.2.2.2.2.2.2.2.2.2.1,r5.2.2.2.2.2.2.2.2.2.2.2,true)else none)))))
theorem QBK:OfF QkF QpS:=ofF 130
def Qje:rF Yl:=fun D L (a0,a1,a2,a3,a4,a5,a6,a7,a8,a9,a10,a11,a12,a13,a14,a15,a16,a17,a18,a19,a20,a21,a22,a23,a24,a25,a26,a27,a28,a29,a30)=>
 (Ka D (a0,a1,a2,a3,a4,a5,a6,a7,a8,a9,a10,a11,a12,a13,a14,a15,a16,a17,a18)).bind fun r1=>
 bif (!r1)then((Xt D (a0,a1,a2,a3,a4,a5,a6,a7,a8,a9,a10,a11,a12,a13,a14,a15,a16,a17,a18)).bind fun r2=>
 some (r2.1,r2.2.1,r2.2.2.1,r2.2.2.2.1,r2.2.2.2.2.1,r2.2.2.2.2.2.1,r2.2.2.2.2.2.2.1,r2.2.2.2.2.2.2.2.1,r2.2.2.2.2.2.2.2.2.1,r2.2.2.2.2.2.2.2.2.2.1,r2.2.2.2.2.2.2.2.2.2.2.1,r2.2.2.2.2.2.2.2.2.2.2.2.1,r2.2.2.2.2.2.2.2.2.2.2.2.2.1,r2.2.2.2.2.2.2.2.2.2.2.2.2.2.1,r2.2.2.2.2.2.2.2.2.2.2.2.2.2.2.1,r2.2.2.2.2.2.2.2.2.2.2.2.2.2.2.2.1,r2.2.2.2.2.2.2.2.2.2.2.2.2.2.2.2.2.1,r2.2.2.2.2.2.2.2.2.2.2.2.2.2.2.2.2.2.1,r2.2.2.2.2.2.2.2.2.2.2.2.2.2.2.2.2.2.2,[],1))
 else((Qb9 D (a19,a20,a21,a22,a23,a24,a25,a26,a27,a28,a29,a30)).bind fun r3=>
 bif (!r3)then((Xt D (a0,a1,a2,a3,a4,a5,a6,a7,a8,a9,a10,a11,a12,a13,a14,a15,a16,a17,a18)).bind fun r4=>
 some (r4.1,r4.2.1,r4.2.2.1,r4.2.2.2.1,r4.2.2.2.2.1,r4.2.2.2.2.2.1,r4.2.2.2.2.2.2.1,r4.2.2.2.2.2.2.2.1,r4.2.2.2.2.2.2.2.2.1,r4.2.2.2.2.2.2.2.2.2.1,r4.2.2.2.2.2.2.2.2.2.2.1,r4.2.2.2.2.2.2.2.2.2.2.2.1,r4.2.2.2.2.2.2.2.2.2.2.2.2.1,r4.2.2.2.2.2.2.2.2.2.2.2.2.2.1,r4.2.2.2.2.2.2.2.2.2.2.2.2.2.2.1,r4.2.2.2.2.2.2.2.2.2.2.2.2.2.2.2.1,r4.2.2.2.2.2.2.2.2.2.2.2.2.2.2.2.2.1,r4.2.2.2.2.2.2.2.2.2.2.2.2.2.2.2.2.2.1,r4.2.2.2.2.2.2.2.2.2.2.2.2.2.2.2.2.2.2,[],1))
 else(bif (!decide (a21=a0))then((Xt D (a0,a1,a2,a3,a4,a5,a6,a7,a8,a9,a10,a11,a12,a13,a14,a15,a16,a17,a18)).bind fun r5=>
 some (r5.1,r5.2.1,r5.2.2.1,r5.2.2.2.1,r5.2.2.2.2.1,r5.2.2.2.2.2.1,r5.2.2.2.2.2.2.1,r5.2.2.2.2.2.2.2.1,r5.2.2.2.2.2.2.2.2.1,r5.2.2.2.2.2.2.2.2.2.1,r5.2.2.2.2.2.2.2.2.2.2.1,r5.2.2.2.2.2.2.2.2.2.2.2.1,r5.2.2.2.2.2.2.2.2.2.2.2.2.1,r5.2.2.2.2.2.2.2.2.2.2.2.2.2.1,r5.2.2.2.2.2.2.2.2.2.2.2.2.2.2.1,r5.2.2.2.2.2.2.2.2.2.2.2.2.2.2.2.1,r5.2.2.2.2.2.2.2.2.2.2.2.2.2.2.2.2.1,r5.2.2.2.2.2.2.2.2.2.2.2.2.2.2.2.2.2.1,r5.2.2.2.2.2.2.2.2.2.2.2.2.2.2.2.2.2.2,[],1))
 else(bif (decide (a1<=a20))then((Xt D (a0,a1,a2,a3,a4,a5,a6,a7,a8,a9,a10,a11,a12,a13,a14,a15,a16,a17,a18)).bind fun r6=>
 some (r6.1,r6.2.1,r6.2.2.1,r6.2.2.2.1,r6.2.2.2.2.1,r6.2.2.2.2.2.1,r6.2.2.2.2.2.2.1,r6.2.2.2.2.2.2.2.1,r6.2.2.2.2.2.2.2.2.1,r6.2.2.2.2.2.2.2.2.2.1,r6.2.2.2.2.2.2.2.2.2.2.1,r6.2.2.2.2.2.2.2.2.2.2.2.1,r6.2.2.2.2.2.2.2.2.2.2.2.2.1,r6.2.2.2.2.2.2.2.2.2.2.2.2.2.1,r6.2.2.2.2.2.2.2.2.2.2.2.2.2.2.1,r6.2.2.2.2.2.2.2.2.2.2.2.2.2.2.2.1,r6.2.2.2.2.2.2.2.2.2.2.2.2.2.2.2.2.1,r6.2.2.2.2.2.2.2.2.2.2.2.2.2.2.2.2.2.1,r6.2.2.2.2.2.2.2.2.2.2.2.2.2.2.2.2.2.2,[],1))
 else(bif (!decide ((a26.length:Int)=a1))then((Xt D (a0,a1,a2,a3,a4,a5,a6,a7,a8,a9,a10,a11,a12,a13,a14,a15,a16,a17,a18)).bind fun r7=>
 some (r7.1,r7.2.1,r7.2.2.1,r7.2.2.2.1,r7.2.2.2.2.1,r7.2.2.2.2.2.1,r7.2.2.2.2.2.2.1,r7.2.2.2.2.2.2.2.1,r7.2.2.2.2.2.2.2.2.1,r7.2.2.2.2.2.2.2.2.2.1,r7.2.2.2.2.2.2.2.2.2.2.1,r7.2.2.2.2.2.2.2.2.2.2.2.1,r7.2.2.2.2.2.2.2.2.2.2.2.2.1,r7.2.2.2.2.2.2.2.2.2.2.2.2.2.1,r7.2.2.2.2.2.2.2.2.2.2.2.2.2.2.1,r7.2.2.2.2.2.2.2.2.2.2.2.2.2.2.2.1,r7.2.2.2.2.2.2.2.2.2.2.2.2.2.2.2.2.1,r7.2.2.2.2.2.2.2.2.2.2.2.2.2.2.2.2.2.1,r7.2.2.2.2.2.2.2.2.2.2.2.2.2.2.2.2.2.2,[],1))
 else(bif (decide (a19=0))then((J6 D (a0,a1,a2,a3,a4,a5,a6,a7,a8,a9,a10,a11,a12,a13,a14,a15,a16,a17,a18,a19,a20,a21,a22,a23,a24,a25,a26,a27,a28,a29,a30)).bind fun r8=>
 (ZT D (r8.1,r8.2.1,r8.2.2.1,r8.2.2.2.1,r8.2.2.2.2.1,r8.2.2.2.2.2.1,r8.2.2.2.2.2.2.1,r8.2.2.2.2.2.2.2.1,r8.2.2.2.2.2.2.2.2.1,r8.2.2.2.2.2.2.2.2.2.1,r8.2.2.2.2.2.2.2.2.2.2.1,r8.2.2.2.2.2.2.2.2.2.2.2.1,r8.2.2.2.2.2.2.2.2.2.2.2.2.1,r8.2.2.2.2.2.2.2.2.2.2.2.2.2.1,r8.2.2.2.2.2.2.2.2.2.2.2.2.2.2.1,r8.2.2.2.2.2.2.2.2.2.2.2.2.2.2.2.1,r8.2.2.2.2.2.2.2.2.2.2.2.2.2.2.2.2.1,r8.2.2.2.2.2.2.2.2.2.2.2.2.2.2.2.2.2.1,r8.2.2.2.2.2.2.2.2.2.2.2.2.2.2.2.2.2.2,1,a20,a22)).bind fun r9=>
 some (r8.1,r8.2.1,r8.2.2.1,r8.2.2.2.1,r8.2.2.2.2.1,r8.2.2.2.2.2.1,r8.2.2.2.2.2.2.1,r8.2.2.2.2.2.2.2.1,r8.2.2.2.2.2.2.2.2.1,r8.2.2.2.2.2.2.2.2.2.1,r8.2.2.2.2.2.2.2.2.2.2.1,r8.2.2.2.2.2.2.2.2.2.2.2.1,r8.2.2.2.2.2.2.2.2.2.2.2.2.1,r8.2.2.2.2.2.2.2.2.2.2.2.2.2.1,r8.2.2.2.2.2.2.2.2.2.2.2.2.2.2.1,r8.2.2.2.2.2.2.2.2.2.2.2.2.2.2.2.1,r8.2.2.2.2.2.2.2.2.2.2.2.2.2.2.2.2.1,r8.2.2.2.2.2.2.2.2.2.2.2.2.2.2.2.2.2.1,r8.2.2.2.2.2.2.2.2.2.2.2.2.2.2.2.2.2.2,[r9],0))
 else(bif (decide (a19=1))then((YP D (a0,a1,a2,a3,a4,a5,a6,a7,a8,a9,a10,a11,a12,a13,a14,a15,a16,a17,a18,a19,a20,a21,a22,a23,a24,a25,a26,a27,a28,a29,a30)).bind fun r10=>
 some (r10.1,r10.2.1,r10.2.2.1,r10.2.2.2.1,r10.2.2.2.2.1,r10.2.2.2.2.2.1,r10.2.2.2.2.2.2.1,r10.2.2.2.2.2.2.2.1,r10.2.2.2.2.2.2.2.2.1,r10.2.2.2.2.2.2.2.2.2.1,r10.2.2.2.2.2.2.2.2.2.2.1,r10.2.2.2.2.2.2.2.2.2.2.2.1,r10.2.2.2.2.2.2.2.2.2.2.2.2.1,r10.2.2.2.2.2.2.2.2.2.2.2.2.2.1,r10.2.2.2.2.2.2.2.2.2.2.2.2.2.2.1,r10.2.2.2.2.2.2.2.2.2.2.2.2.2.2.2.1,r10.2.2.2.2.2.2.2.2.2.2.2.2.2.2.2.2.1,r10.2.2.2.2.2.2.2.2.2.2.2.2.2.2.2.2.2.1,r10.2.2.2.2.2.2.2.2.2.2.2.2.2.2.2.2.2.2,[],0))
 else(bif (decide (a19=2))then((QeO D (a0,a1,a2,a3,a4,a5,a6,a7,a8,a9,a10,a11,a12,a13,a14,a15,a16,a17,a18,a19,a20,a21,a22,a23,a24,a25,a26,a27,a28,a29,a30)).bind fun r11=>
 some r11)
 else((Qbj D (a0,a1,a2,a3,a4,a5,a6,a7,a8,a9,a10,a11,a12,a13,a14,a15,a16,a17,a18,a19,a20,a21,a22,a23,a24,a25,a26,a27,a28,a29,a30,(decide (a19=4)))).bind fun r12=>
 bif (decide (r12<0))then((Xt D (a0,a1,a2,a3,a4,a5,a6,a7,a8,a9,a10,a11,a12,a13,a14,a15,a16,a17,a18)).bind fun r13=>
 some (r13.1,r13.2.1,r13.2.2.1,r13.2.2.2.1,r13.2.2.2.2.1,r13.2.2.2.2.2.1,r13.2.2.2.2.2.2.1,r13.2.2.2.2.2.2.2.1,r13.2.2.2.2.2.2.2.2.1,r13.2.2.2.2.2.2.2.2.2.1,r13.2.2.2.2.2.2.2.2.2.2.1,r13.2.2.2.2.2.2.2.2.2.2.2.1,r13.2.2.2.2.2.2.2.2.2.2.2.2.1,r13.2.2.2.2.2.2.2.2.2.2.2.2.2.1,r13.2.2.2.2.2.2.2.2.2.2.2.2.2.2.1,r13.2.2.2.2.2.2.2.2.2.2.2.2.2.2.2.1,r13.2.2.2.2.2.2.2.2.2.2.2.2.2.2.2.2.1,r13.2.2.2.2.2.2.2.2.2.2.2.2.2.2.2.2.2.1,r13.2.2.2.2.2.2.2.2.2.2.2.2.2.2.2.2.2.2,[],2))
 else((VX D (a0,a1,a2,a3,a4,a5,a6,a7,a8,a9,a10,a11,a12,a13,a14,a15,a16,a17,a18,r12)).bind fun r14=>
 bif (decide (a19=5))then(some (r14.1,r14.2.1,r14.2.2.1,r14.2.2.2.1,r14.2.2.2.2.1,r14.2.2.2.2.2.1,r14.2.2.2.2.2.2.1,r14.2.2.2.2.2.2.2.1,r14.2.2.2.2.2.2.2.2.1,r14.2.2.2.2.2.2.2.2.2.1,r14.2.2.2.2.2.2.2.2.2.2.1,r14.2.2.2.2.2.2.2.2.2.2.2.1,r14.2.2.2.2.2.2.2.2.2.2.2.2.1,r14.2.2.2.2.2.2.2.2.2.2.2.2.2.1,r14.2.2.2.2.2.2.2.2.2.2.2.2.2.2.1,r14.2.2.2.2.2.2.2.2.2.2.2.2.2.2.2.1,r14.2.2.2.2.2.2.2.2.2.2.2.2.2.2.2.2.1,r14.2.2.2.2.2.2.2.2.2.2.2.2.2.2.2.2.2.1,r14.2.2.2.2.2.2.2.2.2.2.2.2.2.2.2.2.2.2,[],0))
 else((J6 D (r14.1,r14.2.1,r14.2.2.1,r14.2.2.2.1,r14.2.2.2.2.1,r14.2.2.2.2.2.1,r14.2.2.2.2.2.2.1,r14.2.2.2.2.2.2.2.1,r14.2.2.2.2.2.2.2.2.1,r14.2.2.2.2.2.2.2.2.2.1,r14.2.2.2.2.2.2.2.2.2.2.1,r14.2.2.2.2.2.2.2.2.2.2.2.1,r14.2.2.2.2.2.2.2.2.2.2.2.2.1,r14.2.2.2.2.2.2.2.2.2.2.2.2.2.1,r14.2.2.2.2.2.2.2.2.2.2.2.2.2.2.1,r14.2.2.2.2.2.2.2.2.2.2.2.2.2.2.2.1,r14.2.2.2.2.2.2.2.2.2.2.2.2.2.2.2.2.1,r14.2.2.2.2.2.2.2.2.2.2.2.2.2.2.2.2.2.1,r14.2.2.2.2.2.2.2.2.2.2.2.2.2.2.2.2.2.2,a19,a20,a21,a22,a23,a24,a25,a26,a27,a28,a29,a30)).bind fun r15=>
 bif (decide (a19=4))then(some (r15.1,r15.2.1,r15.2.2.1,r15.2.2.2.1,r15.2.2.2.2.1,r15.2.2.2.2.2.1,r15.2.2.2.2.2.2.1,r15.2.2.2.2.2.2.2.1,r15.2.2.2.2.2.2.2.2.1,r15.2.2.2.2.2.2.2.2.2.1,r15.2.2.2.2.2.2.2.2.2.2.1,r15.2.2.2.2.2.2.2.2.2.2.2.1,r15.2.2.2.2.2.2.2.2.2.2.2.2.1,r15.2.2.2.2.2.2.2.2.2.2.2.2.2.1,r15.2.2.2.2.2.2.2.2.2.2.2.2.2.2.1,r15.2.2.2.2.2.2.2.2.2.2.2.2.2.2.2.1,r15.2.2.2.2.2.2.2.2.2.2.2.2.2.2.2.2.1,r15.2.2.2.2.2.2.2.2.2.2.2.2.2.2.2.2.2.1,r15.2.2.2.2.2.2.2.2.2.2.2.2.2.2.2.2.2.2,[],0))
 else((ZT D (r15.1,r15.2.1,r15.2.2.1,r15.2.2.2.1,r15.2.2.2.2.1,r15.2.2.2.2.2.1,r15.2.2.2.2.2.2.1,r15.2.2.2.2.2.2.2.1,r15.2.2.2.2.2.2.2.2.1,r15.2.2.2.2.2.2.2.2.2.1,r15.2.2.2.2.2.2.2.2.2.2.1,r15.2.2.2.2.2.2.2.2.2.2.2.1,r15.2.2.2.2.2.2.2.2.2.2.2.2.1,r15.2.2.2.2.2.2.2.2.2.2.2.2.2.1,r15.2.2.2.2.2.2.2.2.2.2.2.2.2.2.1,r15.2.2.2.2.2.2.2.2.2.2.2.2.2.2.2.1,r15.2.2.2.2.2.2.2.2.2.2.2.2.2.2.2.2.1,r15.2.2.2.2.2.2.2.2.2.2.2.2.2.2.2.2.2.1,r15.2.2.2.2.2.2.2.2.2.2.2.2.2.2.2.2.2.2,4,a20,a22)).bind fun r16=>
 bif fits (List.length ([]:List Int)+a27.length) 8 then
 bif inb a0 a26.length then
 (VS D (r15.1,r15.2.1,r15.2.2.1,r15.2.2.2.1,r15.2.2.2.2.1,r15.2.2.2.2.2.1,r15.2.2.2.2.2.2.1,r15.2.2.2.2.2.2.2.1,r15.2.2.2.2.2.2.2.2.1,r15.2.2.2.2.2.2.2.2.2.1,r15.2.2.2.2.2.2.2.2.2.2.1,r15.2.2.2.2.2.2.2.2.2.2.2.1,r15.2.2.2.2.2.2.2.2.2.2.2.2.1,r15.2.2.2.2.2.2.2.2.2.2.2.2.2.1,r15.2.2.2.2.2.2.2.2.2.2.2.2.2.2.1,r15.2.2.2.2.2.2.2.2.2.2.2.2.2.2.2.1,r15.2.2.2.2.2.2.2.2.2.2.2.2.2.2.2.2.1,r15.2.2.2.2.2.2.2.2.2.2.2.2.2.2.2.2.2.1,r15.2.2.2.2.2.2.2.2.2.2.2.2.2.2.2.2.2.2,(([]:List Int)++a27),(rd1 (0:Int) a26 a0))).bind fun r17=>
 some (r15.1,r15.2.1,r15.2.2.1,r15.2.2.2.1,r15.2.2.2.2.1,r15.2.2.2.2.2.1,r15.2.2.2.2.2.2.1,r15.2.2.2.2.2.2.2.1,r15.2.2.2.2.2.2.2.2.1,r15.2.2.2.2.2.2.2.2.2.1,r15.2.2.2.2.2.2.2.2.2.2.1,r15.2.2.2.2.2.2.2.2.2.2.2.1,r15.2.2.2.2.2.2.2.2.2.2.2.2.1,r15.2.2.2.2.2.2.2.2.2.2.2.2.2.1,r15.2.2.2.2.2.2.2.2.2.2.2.2.2.2.1,r15.2.2.2.2.2.2.2.2.2.2.2.2.2.2.2.1,r15.2.2.2.2.2.2.2.2.2.2.2.2.2.2.2.2.1,r15.2.2.2.2.2.2.2.2.2.2.2.2.2.2.2.2.2.1,r15.2.2.2.2.2.2.2.2.2.2.2.2.2.2.2.2.2.2,[(r16.1,r16.2.1,r16.2.2.1,r16.2.2.2.1,r16.2.2.2.2.1,r16.2.2.2.2.2.1,r16.2.2.2.2.2.2.1,r16.2.2.2.2.2.2.2.1,(([]:List Int)++a27),r17.1,r17.2,r16.2.2.2.2.2.2.2.2.2.2.2)],0)else none else none)))))))))))
theorem QsY:OfF Yl Qje:=ofF 131
end
end Go.Proofs.YtiejfnbmficbmaaGreat.M
