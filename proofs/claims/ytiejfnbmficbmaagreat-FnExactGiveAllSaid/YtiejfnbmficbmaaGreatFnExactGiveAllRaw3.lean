/- Plain forms of the functions that FnExactGiveAll reaches, part 3. No conditions. -/
import Derived.Test.YtiejfnbmficbmaaGreatFnExactGiveAllTab
set_option linter.all false
namespace Go.Proofs.YtiejfnbmficbmaaGreat.M
open Go Go.Eng Go.Proofs
set_option linter.unusedVariables false
noncomputable section
def QnH:rF QA:=fun D L (a0,a1,a2)=>
 bif (decide (a1<=a0))then(some (decide (a0<=a2)))
 else(some false)
theorem QxF:OfF QA QnH:=ofF 85
def Qnj:rF KA:=fun D L (a0,a1,a2,a3,a4,a5,a6,a7,a8,a9,a10,a11,a12,a13,a14,a15,a16,a17,a18)=>
 (QA D (a1,1,5)).bind fun r1=>
 bif (!r1)then(some false)
 else((QA D (a0,0,(wR (a1 - 1)))).bind fun r2=>
 bif (!r2)then(some false)
 else((XB D (a2,a3)).bind fun r3=>
 bif (!r3)then(some false)
 else((yw D (a2,a3)).bind fun r4=>
 (QaP D (a4,a5,r4)).bind fun r5=>
 bif (!r5)then(some false)
 else((VL D (a6,a7,a8)).bind fun r6=>
 (zG D (a6,a7,a8)).bind fun r7=>
 bif (!r7)then(some false)
 else((Qb9 D (a9,a1)).bind fun r8=>
 bif (!r8)then(some false)
 else((Qb9 D (a10,a1)).bind fun r9=>
 bif (!r9)then(some false)
 else(bif inb a0 a9.length then
 bif (!decide ((rd1 (0:Int) a9 a0)=r6))then(some false)
 else((Vw D a10).bind fun r10=>
 bif (decide (r6<r10))then(some false)
 else((QdB D (a11,a1)).bind fun r11=>
 bif (!r11)then(some false)
 else((QA D (a12,0,100000)).bind fun r12=>
 bif (!r12)then(some false)
 else((QA D (a17,0,100000)).bind fun r13=>
 bif (!r13)then(some false)
 else((QA D (a15,1,20)).bind fun r14=>
 bif r14 then((QA D (a16,1,50)).bind fun r15=>
 bif r15 then((Qgs D (a0,a1,a2,a3,a4,a5,a6,a7,a8,a9,a10,a11,a12,a13,a14,a15,a16,a17,a18)).bind fun r16=>
 bif r16 then((Qc3 D (a0,a1,a2,a3,a4,a5,a6,a7,a8,a9,a10,a11,a12,a13,a14,a15,a16,a17,a18)).bind fun r17=>
 some r17)
 else(some false))
 else(some false))
 else(some false))))))else none)))))))
theorem Qyu:OfF KA Qnj:=ofF 86
def Ql9:rF jo:=fun D L (a0,a1,a2,a3)=>
 (QA D (a3,0,(wR ((a0.length:Int) - 1)))).bind fun r1=>
 some r1
theorem QwE:OfF jo Ql9:=ofF 87
def QbY:rL Vi:=fun D L (y0,y1,y2,y3,y4)=>
 bif (decide (y2<y1))then(bif inb y2 y0.length then
 let e1:=(rd1 Xx y0 y2);
 (Ko D e1.1).bind fun r2=>
 bif (!r2)then(some (Sum.inl false))
 else((QA D (e1.2,1,1000)).bind fun r3=>
 bif (!r3)then(some (Sum.inl false))
 else(bif (decide (0<y2))then(bif inb (wR (y2 - 1)) y4.length then
 let e4:=(rd1 Xx y4 (wR (y2 - 1)));
 bif (decide (e1.1<=e4.1))then(some (Sum.inl false))
 else(Vi L (y0,y1,(wR (y2+1)),y3,y4))else none)
 else(Vi L (y0,y1,(wR (y2+1)),y3,y4))))else none)
 else(some (Sum.inr (y3,y4)))
theorem Qh5:OfL Vi QbY:=ofL 88 0
def QbU:rL K5:=fun D L (y0,y1,y2,y3,y4)=>
 bif (decide (y2<y1))then(bif inb y2 y0.length then
 let e8:=(rd1 Zc y0 y2);
 (Ko D e8.1).bind fun r9=>
 bif (!r9)then(some (Sum.inl false))
 else((jk D e8.2).bind fun r10=>
 bif (!r10)then(some (Sum.inl false))
 else((V5 D (y3,y4,e8.1)).bind fun r11=>
 bif (decide (e8.2.1<=r11))then(some (Sum.inl false))
 else(bif (decide (0<y2))then(bif inb (wR (y2 - 1)) y3.length then
 let e12:=(rd1 Zc y3 (wR (y2 - 1)));
 bif (decide (e8.1<=e12.1))then(some (Sum.inl false))
 else(K5 L (y0,y1,(wR (y2+1)),y3,y4))else none)
 else(K5 L (y0,y1,(wR (y2+1)),y3,y4)))))else none)
 else(some (Sum.inr ()))
theorem QgW:OfL K5 QbU:=ofL 88 2
def Qlz:rF XB:=fun D L (a0,a1)=>
 (Vi L (a1,(a1.length:Int),0,a0,a1)).bind fun z5=>
 Qn z5 (fun u6=>
 some u6)
 (fun z7=>
 (K5 L (z7.1,(z7.1.length:Int),0,z7)).bind fun z13=>
 Qn z13 (fun u14=>
 some u14)
 (fun z15=>
 some true))
theorem QvM:OfF XB Qlz:=ofF 88
def Qm7:rF Qgb:=fun D L (a0,a1,a2,a3,a4,a5,a6,a7,a8,a9,a10,a11,a12,a13,a14,a15,a16,a17,a18,a19,a20,a21,a22,a23,a24,a25,a26,a27,a28,a29,a30,a31,a32,a33,a34,a35,a36,a37)=>
 bif (!decide (a0=a19))then(some false)
 else(bif (!decide (a1=a20))then(some false)
 else((xY D (a2,a3,a21,a22)).bind fun r1=>
 bif (!r1)then(some false)
 else((Qgc D (a4,a5,a23,a24)).bind fun r2=>
 bif (!r2)then(some false)
 else((Qjz D (a6,a7,a8,a25,a26,a27)).bind fun r3=>
 bif (!r3)then(some false)
 else((VS D (a9,a28)).bind fun r4=>
 bif (!r4)then(some false)
 else((VS D (a10,a29)).bind fun r5=>
 bif (!r5)then(some false)
 else((Qdc D (a11,a30)).bind fun r6=>
 bif (!r6)then(some false)
 else(bif (!decide (a12=a31))then(some false)
 else(bif (!decide (a13=a32))then(some false)
 else((QdH D (a14,a33)).bind fun r7=>
 bif (!r7)then(some false)
 else(bif (!decide (a15=a34))then(some false)
 else(bif (!decide (a16=a35))then(some false)
 else(bif (!decide (a17=a36))then(some false)
 else((QcE D (a18,a37)).bind fun r8=>
 bif (!r8)then(some false)
 else(some true)))))))))))))))
theorem QxR:OfF Qgb Qm7:=ofF 89
def QnA:rF QfS:=fun D L (a0,a1,a2,a3,a4,a5)=>
 bif (!decide (a0=a3))then(some false)
 else((Qcw D (a1,a4)).bind fun r1=>
 bif (!r1)then(some false)
 else(bif (!(a2==a5))then(some false)
 else(some true)))
theorem Qys:OfF QfS QnA:=ofF 90
def Qms:rF Qgt:=fun D L (a0,a1,a2,a3,a4,a5)=>
 bif (!decide (a0=a3))then(some false)
 else((xY D (a1,a2,a4,a5)).bind fun r1=>
 bif (!r1)then(some false)
 else(some true))
theorem QyB:OfF Qgt Qms:=ofF 91
def Qmg:rF XA:=fun D L (a0,a1,a2,a3,a4,a5,a6,a7,a8,a9,a10,a11,a12,a13,a14,a15,a16,a17,a18)=>
 (Kx D (a2,a3)).bind fun r1=>
 (xf D (a4,a5)).bind fun r2=>
 (Qgw D (a6,a7,a8)).bind fun r3=>
 bif fits (List.length ([]:List Int)+a9.length) 8 then
 bif fits (List.length ([]:List Int)+a10.length) 8 then
 (Qav D a11).bind fun r4=>
 bif fits (List.length ([]:List QB)+a14.length) 32 then
 bif fits (List.length ([]:List QR)+a18.length) 24 then
 some (a0,a1,r1.1,r1.2,r2.1,r2.2,r3.1,r3.2.1,r3.2.2,(([]:List Int)++a9),(([]:List Int)++a10),r4,a12,a13,(([]:List QB)++a14),a15,a16,a17,(([]:List QR)++a18))else none else none else none else none
theorem QvD:OfF XA Qmg:=ofF 92
def Qkx:rF Qes:=fun D L (a0,a1,a2)=>
 bif fits (List.length ([]:List Int)+a1.length) 1 then
 some (a0,(([]:List Int)++a1),a2)else none
theorem QvQ:OfF Qes Qkx:=ofF 93
def Qnk:rF Kx:=fun D L (a0,a1)=>
 bif fits (List.length ([]:List Qf)+a0.length) 56 then
 bif fits (List.length ([]:List Qa)+a1.length) 16 then
 some ((([]:List Qf)++a0),(([]:List Qa)++a1))else none else none
theorem QxQ:OfF Kx Qnk:=ofF 94
def Qi9:rF Y3:=fun D L (a0,a1,a2,a3,a4,a5,a6,a7,a8,a9,a10,a11,a12,a13,a14,a15,a16,a17,a18)=>
 (ZO D (a2,a3)).bind fun r1=>
 (Vs D (a4,a5)).bind fun r2=>
 (Qds D (a6,a7,a8)).bind fun r3=>
 (ZI D a9).bind fun r4=>
 (ZI D a10).bind fun r5=>
 (xB D a11).bind fun r6=>
 bif fits (List.length ([]:List QB)+a14.length) 32 then
 bif fits (List.length ([]:List QR)+a18.length) 24 then
 some (a0,a1,r1.1,r1.2,r2.1,r2.2,r3.1,r3.2.1,r3.2.2,r4,r5,r6,a12,a13,(([]:List QB)++a14),a15,a16,a17,(([]:List QR)++a18))else none else none
theorem Quv:OfF Y3 Qi9:=ofF 99
def QiU:rF QaL:=fun D L (a0,a1,a2)=>
 (Zu D [a1]).bind fun r1=>
 some (a0,r1,a2)
theorem Qt4:OfF QaL QiU:=ofF 100
def Qhl:rF ZO:=fun D L (a0,a1)=>
 bif fits (List.length ([]:List Qf)+a0.length) 56 then
 bif fits (List.length ([]:List Qa)+a1.length) 16 then
 some ((([]:List Qf)++a0),(([]:List Qa)++a1))else none else none
theorem QsA:OfF ZO Qhl:=ofF 101
def v8:rL YZ:=fun D L (y0,y1,y2)=>
 bif (decide (y1<(y2.length:Int)))then(bif inb y1 y2.length then
 let e1:=(rd1 Zc y2 y1);
 let l2:=List.set y2 (Int.toNat y1) (y0,e1.2);
 bif inb y1 l2.length then
 let e3:=(rd1 Zc l2 y1);
 let l4:=List.set l2 (Int.toNat y1) (e3.1,(wR (y0+1)),e3.2.2);
 bif inb y1 l4.length then
 let e5:=(rd1 Zc l4 y1);
 let l6:=List.set l4 (Int.toNat y1) (e5.1,e5.2.1,(wR ((wR (y0+1))+1)),e5.2.2.2);
 bif inb y1 l6.length then
 let e7:=(rd1 Zc l6 y1);
 let l8:=List.set l6 (Int.toNat y1) (e7.1,e7.2.1,e7.2.2.1,(wR ((wR ((wR (y0+1))+1))+1)),e7.2.2.2.2);
 bif inb y1 l8.length then
 let e9:=(rd1 Zc l8 y1);
 let l10:=List.set l8 (Int.toNat y1) (e9.1,e9.2.1,e9.2.2.1,e9.2.2.2.1,(wR ((wR ((wR ((wR (y0+1))+1))+1))+1)),e9.2.2.2.2.2);
 (Vn D (wR ((wR ((wR ((wR ((wR (y0+1))+1))+1))+1))+1))).bind fun r11=>
 bif inb y1 l10.length then
 let e12:=(rd1 Zc l10 y1);
 let l13:=List.set l10 (Int.toNat y1) (e12.1,e12.2.1,e12.2.2.1,e12.2.2.2.1,e12.2.2.2.2.1,r11);
 YZ L ((wR ((wR ((wR ((wR ((wR ((wR (y0+1))+1))+1))+1))+1))+1)),(wR (y1+1)),l13)else none else none else none else none else none else none)
 else(some (y0,y2))
theorem QeN:OfL YZ v8:=ofL 107 0
def QgJ:rF VZ:=fun D L (a0,a1)=>
 (YZ L (a1,0,a0)).bind fun z14=>
 some z14
theorem QsH:OfF VZ QgJ:=ofF 107
def jA:rL Ye:=fun D L (y0,y1,y2)=>
 bif (decide (y1<(y2.length:Int)))then(bif inb y1 y2.length then
 let e1:=(rd1 Xx y2 y1);
 let l2:=List.set y2 (Int.toNat y1) (y0,e1.2);
 bif inb y1 l2.length then
 let e3:=(rd1 Xx l2 y1);
 let l4:=List.set l2 (Int.toNat y1) (e3.1,(wR (y0+1)));
 Ye L ((wR ((wR (y0+1))+1)),(wR (y1+1)),l4)else none else none)
 else(some (y0,y2))
theorem QbD:OfL Ye jA:=ofL 108 0
def Qe7:rF KW:=fun D L (a0,a1)=>
 (Ye L (a1,0,a0)).bind fun z5=>
 some z5
theorem Qq9:OfF KW Qe7:=ofF 108
def jP:rL Yg:=fun D L (y0,y1,y2)=>
 bif (decide (y1<(y2.length:Int)))then(bif inb y1 y2.length then
 let e1:=(rd1 Y9 y2 y1);
 (VZ D ((rd1 Y9 y2 y1).1,y0)).bind fun r2=>
 let e3:=(rd1 Y9 y2 y1);
 let l4:=List.set y2 (Int.toNat y1) (r2.2,e3.2);
 bif inb y1 l4.length then
 let e5:=(rd1 Y9 l4 y1);
 (KW D ((rd1 Y9 l4 y1).2,r2.1)).bind fun r6=>
 let e7:=(rd1 Y9 l4 y1);
 let l8:=List.set l4 (Int.toNat y1) (e7.1,r6.2);
 Yg L (r6.1,(wR (y1+1)),l8)else none else none)
 else(some (y0,y2))
theorem Qbu:OfL Yg jP:=ofL 109 0
def QeV:rF ja:=fun D L (a0,a1)=>
 (Yg L (a1,0,a0)).bind fun z9=>
 some z9
theorem Qrv:OfF ja QeV:=ofF 109
def vL:rL YR:=fun D L (y0,y1,y2)=>
 bif (decide (y1<(y2.length:Int)))then(bif inb y1 y2.length then
 (Y4 D ((rd1 ([]:List Int) y2 y1),y0)).bind fun r1=>
 let l2:=List.set y2 (Int.toNat y1) r1.2;
 YR L (r1.1,(wR (y1+1)),l2)else none)
 else(some (y0,y2))
theorem Qco:OfL YR vL:=ofL 110 0
def QhE:rF vu:=fun D L (a0,a1)=>
 (YR L (a1,0,a0)).bind fun z3=>
 some z3
theorem QsJ:OfF vu QhE:=ofF 110
def Qae:rL YV:=fun D L (y0,y1,y2)=>
 bif (decide (y1<(y2.length:Int)))then(bif inb y1 y2.length then
 let e1:=(rd1 Zr y2 y1);
 let l2:=List.set y2 (Int.toNat y1) (y0,e1.2);
 bif inb y1 l2.length then
 let e3:=(rd1 Zr l2 y1);
 let l4:=List.set l2 (Int.toNat y1) (e3.1,(wR (y0+1)),e3.2.2);
 bif decide ((3:Int)≠0)then
 bif inb y1 l4.length then
 let e5:=(rd1 Zr l4 y1);
 let l6:=List.set l4 (Int.toNat y1) (e5.1,e5.2.1,(decide ((Int.tmod (wR ((wR (y0+1))+1)) 3)=0)),e5.2.2.2);
 bif inb y1 l6.length then
 let e7:=(rd1 Zr l6 y1);
 let l8:=List.set l6 (Int.toNat y1) (e7.1,e7.2.1,e7.2.2.1,(wR ((wR ((wR (y0+1))+1))+1)));
 YV L ((wR ((wR ((wR ((wR (y0+1))+1))+1))+1)),(wR (y1+1)),l8)else none else none else none else none else none)
 else(some (y0,y2))
theorem Qc2:OfL YV Qae:=ofL 111 0
def Qh1:rF vA:=fun D L (a0,a1)=>
 (YV L (a1,0,a0)).bind fun z9=>
 some z9
theorem QsQ:OfF vA Qh1:=ofF 111
def vW:rL Y0:=fun D L (y0,y1,y2)=>
 bif (decide (y1<(y2.length:Int)))then(bif inb y1 y2.length then
 let e1:=(rd1 Zq y2 y1);
 let l2:=List.set y2 (Int.toNat y1) (y0,e1.2);
 bif inb y1 l2.length then
 let e3:=(rd1 Zq l2 y1);
 let l4:=List.set l2 (Int.toNat y1) (e3.1,(wR (y0+1)),e3.2.2);
 bif inb y1 l4.length then
 let e5:=(rd1 Zq l4 y1);
 let l6:=List.set l4 (Int.toNat y1) (e5.1,e5.2.1,(wR ((wR (y0+1))+1)));
 Y0 L ((wR ((wR ((wR (y0+1))+1))+1)),(wR (y1+1)),l6)else none else none else none)
 else(some (y0,y2))
theorem Qde:OfL Y0 vW:=ofL 112 0
def Qie:rF j8:=fun D L (a0,a1)=>
 (Y0 L (a1,0,a0)).bind fun z7=>
 some z7
theorem QsU:OfF j8 Qie:=ofF 112
def vN:rL YU:=fun D L (y0,y1,y2)=>
 bif (decide (y1<(y2.length:Int)))then(bif inb y1 y2.length then
 let l1:=List.set y2 (Int.toNat y1) (IntKind.wrap .u8 y0);
 YU L ((wR (y0+1)),(wR (y1+1)),l1)else none)
 else(some (y0,y2))
theorem Qdu:OfL YU vN:=ofL 113 0
def Qhu:rF vj:=fun D L (a0,a1)=>
 (YU L (a1,0,a0)).bind fun z2=>
 some z2
theorem QsR:OfF vj Qhu:=ofF 113
def Qad:rL YM:=fun D L (y0,y1,y2)=>
 bif (decide (y2<(y0.length:Int)))then(bif inb y2 y0.length then
 let e1:=(rd1 Zc y0 y2);
 bif (!decide (e1.1=y1))then(some (Sum.inl (-1)))
 else(bif inb y2 y0.length then
 let e2:=(rd1 Zc y0 y2);
 bif (!decide (e2.2.1=(wR (y1+1))))then(some (Sum.inl (-1)))
 else(bif inb y2 y0.length then
 let e3:=(rd1 Zc y0 y2);
 bif (!decide (e3.2.2.1=(wR ((wR (y1+1))+1))))then(some (Sum.inl (-1)))
 else(bif inb y2 y0.length then
 let e4:=(rd1 Zc y0 y2);
 bif (!decide (e4.2.2.2.1=(wR ((wR ((wR (y1+1))+1))+1))))then(some (Sum.inl (-1)))
 else(bif inb y2 y0.length then
 let e5:=(rd1 Zc y0 y2);
 bif (!decide (e5.2.2.2.2.1=(wR ((wR ((wR ((wR (y1+1))+1))+1))+1))))then(some (Sum.inl (-1)))
 else(bif inb y2 y0.length then
 let e6:=(rd1 Zc y0 y2);
 (Vn D (wR ((wR ((wR ((wR ((wR (y1+1))+1))+1))+1))+1))).bind fun r7=>
 bif (!X0 e6.2.2.2.2.2 r7)then(some (Sum.inl (-1)))
 else(YM L (y0,(wR ((wR ((wR ((wR ((wR ((wR (y1+1))+1))+1))+1))+1))+1)),(wR (y2+1))))else none)else none)else none)else none)else none)else none)
 else(some (Sum.inr y1))
theorem Qdn:OfL YM Qad:=ofL 114 0
def QhT:rF V3:=fun D L (a0,a1)=>
 (YM L (a0,a1,0)).bind fun z8=>
 Qn z8 (fun u9=>
 some u9)
 (fun z10=>
 some z10)
theorem QsI:OfF V3 QhT:=ofF 114
def jT:rL Yk:=fun D L (y0,y1,y2)=>
 bif (decide (y2<(y0.length:Int)))then(bif inb y2 y0.length then
 let e1:=(rd1 Xx y0 y2);
 bif (!decide (e1.1=y1))then(some (Sum.inl (-1)))
 else(bif inb y2 y0.length then
 let e2:=(rd1 Xx y0 y2);
 bif (!decide (e2.2=(wR (y1+1))))then(some (Sum.inl (-1)))
 else(Yk L (y0,(wR ((wR (y1+1))+1)),(wR (y2+1))))else none)else none)
 else(some (Sum.inr y1))
theorem Qbw:OfL Yk jT:=ofL 115 0
def Qe4:rF K7:=fun D L (a0,a1)=>
 (Yk L (a0,a1,0)).bind fun z3=>
 Qn z3 (fun u4=>
 some u4)
 (fun z5=>
 some z5)
theorem QrY:OfF K7 Qe4:=ofF 115
def Qbi:rL Ki:=fun D L (y0,y1,y2)=>
 bif (decide (y2<(y0.length:Int)))then(bif inb y2 y0.length then
 bif (!decide ((rd1 (0:Int) y0 y2)=y1))then(some (Sum.inl (-1)))
 else(Ki L (y0,(wR (y1+1)),(wR (y2+1))))else none)
 else(some (Sum.inr y1))
theorem Qe8:OfL Ki Qbi:=ofL 116 0
def QiN:rF Vl:=fun D L (a0,a1)=>
 (Ki L (a0,a1,0)).bind fun z1=>
 Qn z1 (fun u2=>
 some u2)
 (fun z3=>
 some z3)
theorem Qui:OfF Vl QiN:=ofF 116
def jQ:rL Yn:=fun D L (y0,y1,y2)=>
 bif (decide (y2<(y0.length:Int)))then(bif inb y2 y0.length then
 let e1:=(rd1 Y9 y0 y2);
 (V3 D (e1.1,y1)).bind fun r2=>
 bif (decide (r2<0))then(some (Sum.inl (-1)))
 else(bif inb y2 y0.length then
 let e3:=(rd1 Y9 y0 y2);
 (K7 D (e3.2,r2)).bind fun r4=>
 bif (decide (r4<0))then(some (Sum.inl (-1)))
 else(Yn L (y0,r4,(wR (y2+1))))else none)else none)
 else(some (Sum.inr y1))
theorem QbP:OfL Yn jQ:=ofL 117 0
def QeU:rF yZ:=fun D L (a0,a1)=>
 (Yn L (a0,a1,0)).bind fun z5=>
 Qn z5 (fun u6=>
 some u6)
 (fun z7=>
 some z7)
theorem Qrz:OfF yZ QeU:=ofF 117
def vJ:rL YX:=fun D L (y0,y1,y2)=>
 bif (decide (y2<(y0.length:Int)))then(bif inb y2 y0.length then
 (Vl D ((rd1 ([]:List Int) y0 y2),y1)).bind fun r1=>
 bif (decide (r1<0))then(some (Sum.inl (-1)))
 else(YX L (y0,r1,(wR (y2+1))))else none)
 else(some (Sum.inr y1))
theorem Qb3:OfL YX vJ:=ofL 118 0
def Qha:rF vf:=fun D L (a0,a1)=>
 (YX L (a0,a1,0)).bind fun z2=>
 Qn z2 (fun u3=>
 some u3)
 (fun z4=>
 some z4)
theorem QsE:OfF vf Qha:=ofF 118
def Qak:rL YT:=fun D L (y0,y1,y2)=>
 bif (decide (y2<(y0.length:Int)))then(bif inb y2 y0.length then
 let e1:=(rd1 Zr y0 y2);
 bif (!decide (e1.1=y1))then(some (Sum.inl (-1)))
 else(bif inb y2 y0.length then
 let e2:=(rd1 Zr y0 y2);
 bif (!decide (e2.2.1=(wR (y1+1))))then(some (Sum.inl (-1)))
 else(bif inb y2 y0.length then
 let e3:=(rd1 Zr y0 y2);
 bif decide ((3:Int)≠0)then
 bif (!(e3.2.2.1==(decide ((Int.tmod (wR ((wR (y1+1))+1)) 3)=0))))then(some (Sum.inl (-1)))
 else(bif inb y2 y0.length then
 let e4:=(rd1 Zr y0 y2);
 bif (!decide (e4.2.2.2=(wR ((wR ((wR (y1+1))+1))+1))))then(some (Sum.inl (-1)))
 else(YT L (y0,(wR ((wR ((wR ((wR (y1+1))+1))+1))+1)),(wR (y2+1))))else none)else none else none)else none)else none)
 else(some (Sum.inr y1))
theorem QeL:OfL YT Qak:=ofL 119 0
def QgD:rF vk:=fun D L (a0,a1)=>
 (YT L (a0,a1,0)).bind fun z5=>
 Qn z5 (fun u6=>
 some u6)
 (fun z7=>
 some z7)
theorem QsD:OfF vk QgD:=ofF 119
def vT:rL YN:=fun D L (y0,y1,y2)=>
 bif (decide (y2<(y0.length:Int)))then(bif inb y2 y0.length then
 let e1:=(rd1 Zq y0 y2);
 bif (!decide (e1.1=y1))then(some (Sum.inl (-1)))
 else(bif inb y2 y0.length then
 let e2:=(rd1 Zq y0 y2);
 bif (!decide (e2.2.1=(wR (y1+1))))then(some (Sum.inl (-1)))
 else(bif inb y2 y0.length then
 let e3:=(rd1 Zq y0 y2);
 bif (!decide (e3.2.2=(wR ((wR (y1+1))+1))))then(some (Sum.inl (-1)))
 else(YN L (y0,(wR ((wR ((wR (y1+1))+1))+1)),(wR (y2+1))))else none)else none)else none)
 else(some (Sum.inr y1))
theorem QdW:OfL YN vT:=ofL 120 0
def Qic:rF j7:=fun D L (a0,a1)=>
 (YN L (a0,a1,0)).bind fun z4=>
 Qn z4 (fun u5=>
 some u5)
 (fun z6=>
 some z6)
theorem QsN:OfF j7 Qic:=ofF 120
def vM:rL Y1:=fun D L (y0,y1,y2)=>
 bif (decide (y2<(y0.length:Int)))then(bif inb y2 y0.length then
 bif (!decide ((rd1 (0:Int) y0 y2)=(IntKind.wrap .u8 y1)))then(some (Sum.inl (-1)))
 else(Y1 L (y0,(wR (y1+1)),(wR (y2+1))))else none)
 else(some (Sum.inr y1))
theorem Qez:OfL Y1 vM:=ofL 121 0
def QhZ:rF vv:=fun D L (a0,a1)=>
 (Y1 L (a0,a1,0)).bind fun z1=>
 Qn z1 (fun u2=>
 some u2)
 (fun z3=>
 some z3)
theorem QsS:OfF vv QhZ:=ofF 121
def Qns:rF Ks:=fun D L (a0,a1,a2,a3,a4,a5,a6,a7,a8,a9,a10,a11,a12,a13,a14,a15,a16,a17,a18,a19,a20,a21)=>
 (xe D (a6,a7,a8)).bind fun r1=>
 bif fits (List.length ([]:List Int)+a9.length) 8 then
 (xH D (a2,a3)).bind fun r2=>
 some (a19,a0,a20,a21,r1,[],0,(([]:List Int)++a9),[],[],[],r2)else none
theorem Qyf:OfF Ks Qns:=ofF 123
def Qks:rF QeE:=fun D L (a0,a1,a2,a3,a4,a5,a6,a7,a8,a9,a10,a11,a12,a13,a14,a15,a16,a17,a18,a19)=>
 (ye D (a6,a7,a8,a19)).bind fun r1=>
 bif r1.2.2 then(some (r1.1,r1.2.1,true))
 else((Kx D (a2,a3)).bind fun r2=>
 some (r2.1,r2.2,false))
theorem Qu3:OfF QeE Qks:=ofF 124
def QcH:rL Ve:=fun D L (y0,y1,y2,y3,y4,y5,y6,y7,y8,y9,y10,y11,y12,y13,y14)=>
 bif (decide (y0<(y14.length:Int)))then(bif inb y0 y14.length then
 (Xs D (rd1 (0:Int) y14 y0)).bind fun r1=>
 bif fits (y13.length+r1.length) 1 then
 Ve L ((wR (y0+1)),y1,y2,y3,y4,y5,y6,y7,y8,y9,y10,y11,y12,(y13++r1),y14)else none else none)
 else(some (y1,y2,y3,y4,y5,y6,y7,y8,y9,y10,y11,y12,y13))
theorem Qhj:OfL Ve QcH:=ofL 125 0
def QcJ:rL KQ:=fun D L (y0,y1,y2,y3,y4,y5,y6,y7,y8,y9,y10,y11,y12,y13)=>
 bif (decide (y0<(y12.length:Int)))then(bif inb y0 y12.length then
 let e10:=(rd1 Xx y12 y0);
 (Xs D e10.1).bind fun r11=>
 bif fits (y13.length+r11.length) 1 then
 bif inb y0 y12.length then
 let e12:=(rd1 Xx y12 y0);
 (Xs D e12.2).bind fun r13=>
 bif fits (List.length (y13++r11)+r13.length) 1 then
 KQ L ((wR (y0+1)),y1,y2,y3,y4,y5,y6,y7,y8,y9,y10,y11,y12,((y13++r11)++r13))else none else none else none else none)
 else(some y13)
theorem Qg0:OfL KQ QcJ:=ofL 125 2
def Qj6:rF Qeu:=fun D L (a0,a1,a2,a3,a4,a5,a6,a7,a8,a9,a10,a11)=>
 (Ve L (0,a0,a1,a2,a3,a4,a5,a6,a7,a8,a9,a10,a11,[82,75],[a0,a1,a2,a3,a4])).bind fun z2=>
 (zg D z2.2.2.2.2.2.1).bind fun r3=>
 bif fits (z2.2.2.2.2.2.2.2.2.2.2.2.2.length+r3.length) 1 then
 (Xs D z2.2.2.2.2.2.2.1).bind fun r4=>
 bif fits (List.length (z2.2.2.2.2.2.2.2.2.2.2.2.2++r3)+r4.length) 1 then
 (zg D z2.2.2.2.2.2.2.2.1).bind fun r5=>
 bif fits (List.length ((z2.2.2.2.2.2.2.2.2.2.2.2.2++r3)++r4)+r5.length) 1 then
 (zg D z2.2.2.2.2.2.2.2.2.1).bind fun r6=>
 bif fits (List.length (((z2.2.2.2.2.2.2.2.2.2.2.2.2++r3)++r4)++r5)+r6.length) 1 then
 (xD D (z2.2.2.2.2.2.2.2.2.2.1,z2.2.2.2.2.2.2.2.2.2.2.1)).bind fun r7=>
 (Xs D (r7.length:Int)).bind fun r8=>
 bif fits (List.length ((((z2.2.2.2.2.2.2.2.2.2.2.2.2++r3)++r4)++r5)++r6)+r8.length) 1 then
 bif fits (List.length (((((z2.2.2.2.2.2.2.2.2.2.2.2.2++r3)++r4)++r5)++r6)++r8)+r7.length) 1 then
 (Xs D (z2.2.2.2.2.2.2.2.2.2.2.2.1.length:Int)).bind fun r9=>
 bif fits (List.length ((((((z2.2.2.2.2.2.2.2.2.2.2.2.2++r3)++r4)++r5)++r6)++r8)++r7)+r9.length) 1 then
 (KQ L (0,z2.1,z2.2.1,z2.2.2.1,z2.2.2.2.1,z2.2.2.2.2.1,z2.2.2.2.2.2.1,z2.2.2.2.2.2.2.1,z2.2.2.2.2.2.2.2.1,z2.2.2.2.2.2.2.2.2.1,z2.2.2.2.2.2.2.2.2.2.1,z2.2.2.2.2.2.2.2.2.2.2.1,z2.2.2.2.2.2.2.2.2.2.2.2.1,(((((((z2.2.2.2.2.2.2.2.2.2.2.2.2++r3)++r4)++r5)++r6)++r8)++r7)++r9))).bind fun z14=>
 some z14 else none else none else none else none else none else none else none
theorem Qvs:OfF Qeu Qj6:=ofF 125
end
end Go.Proofs.YtiejfnbmficbmaaGreat.M
