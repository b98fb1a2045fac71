/- Plain forms of the functions that FnExactAuto reaches, part 9. No conditions. -/
import Derived.Test.YtiejfnbmficbmaaGreatFnExactAutoTab
set_option linter.all false
namespace Go.Proofs.YtiejfnbmficbmaaGreat.M
open Go Go.Eng Go.Proofs
set_option linter.unusedVariables false
noncomputable section
def Qam:rL Ja:=fun D L (y0,y1,y2)=>
 bif (decide (y2<(y0.length:Int)))then(bif inb y2 y0.length then
 let e1:=(rd1 XP y0 y2);
 bif inb y2 y1.length then
 let e2:=(rd1 XP y1 y2);
 (QcS D (e1.1,e1.2,e2)).bind fun r3=>
 bif (!r3)then(some (Sum.inl false))
 else(Ja L (y0,y1,(wR (y2+1))))else none else none)
 else(some (Sum.inr ()))
theorem QdK:OfL Ja Qam:=ofL 254 0
def QhY:rF vM:=fun D L (a0,a1)=>
 bif (!decide ((a0.length:Int)=(a1.length:Int)))then(some false)
 else((Ja L (a0,a1,0)).bind fun z4=>
 Qp z4 (fun u5=>
 some u5)
 (fun z6=>
 some true))
theorem QsS:OfF vM QhY:=ofF 254
def Qap:rL VM:=fun D L (y0,y1,y2)=>
 bif (decide (y2<(y0.length:Int)))then(bif inb y2 y0.length then
 let e1:=(rd1 Y9 y0 y2);
 bif inb y2 y1.length then
 let e2:=(rd1 Y9 y1 y2);
 (xN D (e1.1,e1.2,e2)).bind fun r3=>
 bif (!r3)then(some (Sum.inl false))
 else(VM L (y0,y1,(wR (y2+1))))else none else none)
 else(some (Sum.inr ()))
theorem QdP:OfL VM Qap:=ofL 255 0
def QhD:rF vT:=fun D L (a0,a1)=>
 bif (!decide ((a0.length:Int)=(a1.length:Int)))then(some false)
 else((VM L (a0,a1,0)).bind fun z4=>
 Qp z4 (fun u5=>
 some u5)
 (fun z6=>
 some true))
theorem QsH:OfF vT QhD:=ofF 255
def Ql7:rF QeC:=fun D L (a0,a1,a2,a3,a4,a5,a6,a7)=>
 bif (!decide (a0=a4))then(some false)
 else(bif (!decide (a1=a5))then(some false)
 else(bif (!(a2==a6))then(some false)
 else(bif (!decide (a3=a7))then(some false)
 else(some true))))
theorem QwD:OfF QeC Ql7:=ofF 256
def Qk7:rF Qe8:=fun D L (a0,a1,a2,a3,a4,a5)=>
 bif (!decide (a0=a3))then(some false)
 else(bif (!decide (a1=a4))then(some false)
 else(bif (!decide (a2=a5))then(some false)
 else(some true)))
theorem QwK:OfF Qe8 Qk7:=ofF 257
def Qkw:rF Qc0:=fun D L (a0,a1,a2)=>
 (Qle D (a0,a1,a2)).bind fun r1=>
 bif (!decide (r1.2.2.2.2.2=0))then(some ([],[],r1.2.2.2.2.2))
 else(bif (decide (r1.2.2.1=100000))then(some ([],[],4))
 else((Qh4 D (a2,r1.1,r1.2.1,(wR (r1.2.2.1+1)),r1.2.2.2.1,r1.2.2.2.2.1)).bind fun r2=>
 some r2))
theorem Qu3:OfF Qc0 Qkw:=ofF 259
def QdV:rL Qx:=fun D L (y0,y1,y2,y3,y4,y5,y6)=>
 bif (decide (y0<5))then((KC D (y1,y2,y0)).bind fun r1=>
 (KC D (y3,y4,y0)).bind fun r2=>
 (QcE D (r1,r2)).bind fun r3=>
 bif (decide (0<r3))then(bif fits (y6.length+ [(y0,r3)].length) 16 then
 (YH D (y1,y2,y0)).bind fun r4=>
 (YH D (y3,y4,y0)).bind fun r5=>
 bif (!r4.2.2.2.2.2)then(bif (!r5.2.2.2.2.2)then(Qx L ((wR (y0+1)),y1,y2,y3,y4,y5,(y6++[(y0,r3)])))
 else(bif (!r4.2.2.2.2.2)then(bif (decide (r3<r5.1))then(bif fits (y5.length+ [(y0,r5.1,r5.2.1,r5.2.2.1,r5.2.2.2.1,r5.2.2.2.2.1)].length) 56 then
 Qx L ((wR (y0+1)),y1,y2,y3,y4,(y5++[(y0,r5.1,r5.2.1,r5.2.2.1,r5.2.2.2.1,r5.2.2.2.2.1)]),(y6++[(y0,r3)]))else none)
 else(Qx L ((wR (y0+1)),y1,y2,y3,y4,y5,(y6++[(y0,r3)]))))
 else(bif r5.2.2.2.2.2 then((Vb D (r5.1,r5.2.1,r5.2.2.1,r5.2.2.2.1,r5.2.2.2.2.1,r4.1,r4.2.1,r4.2.2.1,r4.2.2.2.1,r4.2.2.2.2.1)).bind fun r6=>
 bif (decide (0<r6))then(bif (decide (r3<r5.1))then(bif fits (y5.length+ [(y0,r5.1,r5.2.1,r5.2.2.1,r5.2.2.2.1,r5.2.2.2.2.1)].length) 56 then
 Qx L ((wR (y0+1)),y1,y2,y3,y4,(y5++[(y0,r5.1,r5.2.1,r5.2.2.1,r5.2.2.2.1,r5.2.2.2.2.1)]),(y6++[(y0,r3)]))else none)
 else(Qx L ((wR (y0+1)),y1,y2,y3,y4,y5,(y6++[(y0,r3)]))))
 else(bif (decide (r3<r4.1))then(bif fits (y5.length+ [(y0,r4.1,r4.2.1,r4.2.2.1,r4.2.2.2.1,r4.2.2.2.2.1)].length) 56 then
 Qx L ((wR (y0+1)),y1,y2,y3,y4,(y5++[(y0,r4.1,r4.2.1,r4.2.2.1,r4.2.2.2.1,r4.2.2.2.2.1)]),(y6++[(y0,r3)]))else none)
 else(Qx L ((wR (y0+1)),y1,y2,y3,y4,y5,(y6++[(y0,r3)])))))
 else(bif (decide (r3<r4.1))then(bif fits (y5.length+ [(y0,r4.1,r4.2.1,r4.2.2.1,r4.2.2.2.1,r4.2.2.2.2.1)].length) 56 then
 Qx L ((wR (y0+1)),y1,y2,y3,y4,(y5++[(y0,r4.1,r4.2.1,r4.2.2.1,r4.2.2.2.1,r4.2.2.2.2.1)]),(y6++[(y0,r3)]))else none)
 else(Qx L ((wR (y0+1)),y1,y2,y3,y4,y5,(y6++[(y0,r3)])))))))
 else(bif (!r4.2.2.2.2.2)then(bif (decide (r3<r5.1))then(bif fits (y5.length+ [(y0,r5.1,r5.2.1,r5.2.2.1,r5.2.2.2.1,r5.2.2.2.2.1)].length) 56 then
 Qx L ((wR (y0+1)),y1,y2,y3,y4,(y5++[(y0,r5.1,r5.2.1,r5.2.2.1,r5.2.2.2.1,r5.2.2.2.2.1)]),(y6++[(y0,r3)]))else none)
 else(Qx L ((wR (y0+1)),y1,y2,y3,y4,y5,(y6++[(y0,r3)]))))
 else(bif r5.2.2.2.2.2 then((Vb D (r5.1,r5.2.1,r5.2.2.1,r5.2.2.2.1,r5.2.2.2.2.1,r4.1,r4.2.1,r4.2.2.1,r4.2.2.2.1,r4.2.2.2.2.1)).bind fun r7=>
 bif (decide (0<r7))then(bif (decide (r3<r5.1))then(bif fits (y5.length+ [(y0,r5.1,r5.2.1,r5.2.2.1,r5.2.2.2.1,r5.2.2.2.2.1)].length) 56 then
 Qx L ((wR (y0+1)),y1,y2,y3,y4,(y5++[(y0,r5.1,r5.2.1,r5.2.2.1,r5.2.2.2.1,r5.2.2.2.2.1)]),(y6++[(y0,r3)]))else none)
 else(Qx L ((wR (y0+1)),y1,y2,y3,y4,y5,(y6++[(y0,r3)]))))
 else(bif (decide (r3<r4.1))then(bif fits (y5.length+ [(y0,r4.1,r4.2.1,r4.2.2.1,r4.2.2.2.1,r4.2.2.2.2.1)].length) 56 then
 Qx L ((wR (y0+1)),y1,y2,y3,y4,(y5++[(y0,r4.1,r4.2.1,r4.2.2.1,r4.2.2.2.1,r4.2.2.2.2.1)]),(y6++[(y0,r3)]))else none)
 else(Qx L ((wR (y0+1)),y1,y2,y3,y4,y5,(y6++[(y0,r3)])))))
 else(bif (decide (r3<r4.1))then(bif fits (y5.length+ [(y0,r4.1,r4.2.1,r4.2.2.1,r4.2.2.2.1,r4.2.2.2.2.1)].length) 56 then
 Qx L ((wR (y0+1)),y1,y2,y3,y4,(y5++[(y0,r4.1,r4.2.1,r4.2.2.1,r4.2.2.2.1,r4.2.2.2.2.1)]),(y6++[(y0,r3)]))else none)
 else(Qx L ((wR (y0+1)),y1,y2,y3,y4,y5,(y6++[(y0,r3)]))))))else none)
 else((YH D (y1,y2,y0)).bind fun r8=>
 (YH D (y3,y4,y0)).bind fun r9=>
 bif (!r8.2.2.2.2.2)then(bif (!r9.2.2.2.2.2)then(Qx L ((wR (y0+1)),y1,y2,y3,y4,y5,y6))
 else(bif (!r8.2.2.2.2.2)then(bif (decide (r3<r9.1))then(bif fits (y5.length+ [(y0,r9.1,r9.2.1,r9.2.2.1,r9.2.2.2.1,r9.2.2.2.2.1)].length) 56 then
 Qx L ((wR (y0+1)),y1,y2,y3,y4,(y5++[(y0,r9.1,r9.2.1,r9.2.2.1,r9.2.2.2.1,r9.2.2.2.2.1)]),y6)else none)
 else(Qx L ((wR (y0+1)),y1,y2,y3,y4,y5,y6)))
 else(bif r9.2.2.2.2.2 then((Vb D (r9.1,r9.2.1,r9.2.2.1,r9.2.2.2.1,r9.2.2.2.2.1,r8.1,r8.2.1,r8.2.2.1,r8.2.2.2.1,r8.2.2.2.2.1)).bind fun r10=>
 bif (decide (0<r10))then(bif (decide (r3<r9.1))then(bif fits (y5.length+ [(y0,r9.1,r9.2.1,r9.2.2.1,r9.2.2.2.1,r9.2.2.2.2.1)].length) 56 then
 Qx L ((wR (y0+1)),y1,y2,y3,y4,(y5++[(y0,r9.1,r9.2.1,r9.2.2.1,r9.2.2.2.1,r9.2.2.2.2.1)]),y6)else none)
 else(Qx L ((wR (y0+1)),y1,y2,y3,y4,y5,y6)))
 else(bif (decide (r3<r8.1))then(bif fits (y5.length+ [(y0,r8.1,r8.2.1,r8.2.2.1,r8.2.2.2.1,r8.2.2.2.2.1)].length) 56 then
 Qx L ((wR (y0+1)),y1,y2,y3,y4,(y5++[(y0,r8.1,r8.2.1,r8.2.2.1,r8.2.2.2.1,r8.2.2.2.2.1)]),y6)else none)
 else(Qx L ((wR (y0+1)),y1,y2,y3,y4,y5,y6))))
 else(bif (decide (r3<r8.1))then(bif fits (y5.length+ [(y0,r8.1,r8.2.1,r8.2.2.1,r8.2.2.2.1,r8.2.2.2.2.1)].length) 56 then
 Qx L ((wR (y0+1)),y1,y2,y3,y4,(y5++[(y0,r8.1,r8.2.1,r8.2.2.1,r8.2.2.2.1,r8.2.2.2.2.1)]),y6)else none)
 else(Qx L ((wR (y0+1)),y1,y2,y3,y4,y5,y6))))))
 else(bif (!r8.2.2.2.2.2)then(bif (decide (r3<r9.1))then(bif fits (y5.length+ [(y0,r9.1,r9.2.1,r9.2.2.1,r9.2.2.2.1,r9.2.2.2.2.1)].length) 56 then
 Qx L ((wR (y0+1)),y1,y2,y3,y4,(y5++[(y0,r9.1,r9.2.1,r9.2.2.1,r9.2.2.2.1,r9.2.2.2.2.1)]),y6)else none)
 else(Qx L ((wR (y0+1)),y1,y2,y3,y4,y5,y6)))
 else(bif r9.2.2.2.2.2 then((Vb D (r9.1,r9.2.1,r9.2.2.1,r9.2.2.2.1,r9.2.2.2.2.1,r8.1,r8.2.1,r8.2.2.1,r8.2.2.2.1,r8.2.2.2.2.1)).bind fun r11=>
 bif (decide (0<r11))then(bif (decide (r3<r9.1))then(bif fits (y5.length+ [(y0,r9.1,r9.2.1,r9.2.2.1,r9.2.2.2.1,r9.2.2.2.2.1)].length) 56 then
 Qx L ((wR (y0+1)),y1,y2,y3,y4,(y5++[(y0,r9.1,r9.2.1,r9.2.2.1,r9.2.2.2.1,r9.2.2.2.2.1)]),y6)else none)
 else(Qx L ((wR (y0+1)),y1,y2,y3,y4,y5,y6)))
 else(bif (decide (r3<r8.1))then(bif fits (y5.length+ [(y0,r8.1,r8.2.1,r8.2.2.1,r8.2.2.2.1,r8.2.2.2.2.1)].length) 56 then
 Qx L ((wR (y0+1)),y1,y2,y3,y4,(y5++[(y0,r8.1,r8.2.1,r8.2.2.1,r8.2.2.2.1,r8.2.2.2.2.1)]),y6)else none)
 else(Qx L ((wR (y0+1)),y1,y2,y3,y4,y5,y6))))
 else(bif (decide (r3<r8.1))then(bif fits (y5.length+ [(y0,r8.1,r8.2.1,r8.2.2.1,r8.2.2.2.1,r8.2.2.2.2.1)].length) 56 then
 Qx L ((wR (y0+1)),y1,y2,y3,y4,(y5++[(y0,r8.1,r8.2.1,r8.2.2.1,r8.2.2.2.1,r8.2.2.2.2.1)]),y6)else none)
 else(Qx L ((wR (y0+1)),y1,y2,y3,y4,y5,y6)))))))
 else(some (y5,y6))
theorem Qhl:OfL Qx QdV:=ofL 262 0
def Qlc:rF Yr:=fun D L (a0,a1,a2,a3)=>
 (Qx L (0,a0,a1,a2,a3,[],[])).bind fun z12=>
 some z12
theorem Qwz:OfF Yr Qlc:=ofF 262
def Qaf:rL V8:=fun D L (y0,y1,y2,y3)=>
 bif (decide (y2<(y1.length:Int)))then(bif inb y0 y3.length then
 bif inb y2 y1.length then
 let e4:=(rd1 XP y1 y2);
 bif inb y0 y3.length then
 bif inb y2 y1.length then
 let e5:=(rd1 XP y1 y2);
 bif inb e5.1 (List.length (rd1 ([]:List Int) y3 y0))then
 bif inb y2 y1.length then
 let e6:=(rd1 XP y1 y2);
 (QcE D ((rd1 (0:Int) (rd1 ([]:List Int) y3 y0) e5.1),e6.2)).bind fun r7=>
 bif inb e4.1 (List.length (rd1 ([]:List Int) y3 y0))then
 let l8:=List.set (rd1 ([]:List Int) y3 y0) (Int.toNat e4.1) r7;
 let l9:=List.set y3 (Int.toNat y0) l8;
 V8 L (y0,y1,(wR (y2+1)),l9)else none else none else none else none else none else none else none)
 else(some y3)
theorem QdL:OfL V8 Qaf:=ofL 263 0
def Qho:rF K9:=fun D L (a0,a1,a2)=>
 (vr D a0).bind fun r1=>
 (QF D (a1,0,(wR ((a0.length:Int) - 1)))).bind fun r2=>
 bif (!r2)then(some r1)
 else((yP D a2).bind fun r3=>
 bif (!r3)then(some r1)
 else(bif inb a1 a0.length then
 bif (decide (((List.length (rd1 ([]:List Int) a0 a1)):Int)<5))then(some r1)
 else((V8 L (a1,a2,0,r1)).bind fun z10=>
 some z10)else none))
theorem Qso:OfF K9 Qho:=ofF 263
def Qg2:rL Jv:=fun D L (y0,y1,y2,y3,y4,y5)=>
 bif (decide (y1<5))then((QeY D (y0,y1)).bind fun r3=>
 (vB D (y2,y3,y1)).bind fun r4=>
 (Qbt D (r3,r4)).bind fun r5=>
 bif (decide (0<r5))then(bif fits (y5.length+ [(y1,r5)].length) 16 then
 Jv L (y0,(wR (y1+1)),y2,y3,y4,(y5++[(y1,r5)]))else none)
 else(Jv L (y0,(wR (y1+1)),y2,y3,y4,y5)))
 else(some (y2,y3,y4,y5))
theorem QjF:OfL Jv Qg2:=ofL 264 0
def Qno:rF Qct:=fun D L (a0,a1,a2)=>
 (XA D (a0,a1)).bind fun r1=>
 bif (!r1)then((Z2 D (a0,a1)).bind fun r2=>
 some r2)
 else((Jv L (a2,0,a0,a1,[],[])).bind fun z6=>
 (Yr D z6).bind fun r7=>
 some r7)
theorem QyH:OfF Qct Qno:=ofF 264
def QjO:rF Qcd:=fun D L (a0,a1,a2)=>
 (Qc8 D (a0,a1,a2)).bind fun r1=>
 bif (!decide (r1.2.2.2.2.2=0))then(some ([],[],r1.2.2.2.2.2))
 else(bif (decide (r1.2.2.1=100000))then(some ([],[],4))
 else((Qfl D (a2,r1.1,r1.2.1,(wR (r1.2.2.1+1)),r1.2.2.2.1,r1.2.2.2.2.1)).bind fun r2=>
 some r2))
theorem QtW:OfF Qcd QjO:=ofF 266
def jS:rL Zu:=fun D L (y0,y1,y2,y3,y4,y5,y6)=>
 bif (decide (y0<5))then((VP D (y1,y2,y0)).bind fun r1=>
 (VP D (y3,y4,y0)).bind fun r2=>
 (vW D (r1.1,r1.2.1,r1.2.2.1,r1.2.2.2.1,r1.2.2.2.2.1,r2.1,r2.2.1,r2.2.2.1,r2.2.2.2.1,r2.2.2.2.2.1)).bind fun r3=>
 (V4 D (y1,y2,y0)).bind fun r4=>
 (V4 D (y3,y4,y0)).bind fun r5=>
 bif (decide ((mxI r4 r5)<r3.1))then(bif fits (y5.length+ [(y0,r3)].length) 56 then
 bif (decide (0<(mxI r4 r5)))then(bif fits (y6.length+ [(y0,(mxI r4 r5))].length) 16 then
 Zu L ((wR (y0+1)),y1,y2,y3,y4,(y5++[(y0,r3)]),(y6++[(y0,(mxI r4 r5))]))else none)
 else(Zu L ((wR (y0+1)),y1,y2,y3,y4,(y5++[(y0,r3)]),y6))else none)
 else(bif (decide (0<(mxI r4 r5)))then(bif fits (y6.length+ [(y0,(mxI r4 r5))].length) 16 then
 Zu L ((wR (y0+1)),y1,y2,y3,y4,y5,(y6++[(y0,(mxI r4 r5))]))else none)
 else(Zu L ((wR (y0+1)),y1,y2,y3,y4,y5,y6))))
 else(some (y5,y6))
theorem Qbk:OfL Zu jS:=ofL 269 0
def QgT:rF Zs:=fun D L (a0,a1,a2,a3)=>
 (Zu L (0,a0,a1,a2,a3,[],[])).bind fun z6=>
 some z6
theorem Qro:OfF Zs QgT:=ofF 269
def Qac:rL V9:=fun D L (y0,y1,y2,y3,y4)=>
 bif (decide (y3<y2))then(bif inb y3 y1.length then
 let e4:=(rd1 XP y1 y3);
 bif inb y0 y4.length then
 bif inb y0 y4.length then
 bif inb e4.1 (List.length (rd1 ([]:List Int) y4 y0))then
 bif inb e4.1 (List.length (rd1 ([]:List Int) y4 y0))then
 let l5:=List.set (rd1 ([]:List Int) y4 y0) (Int.toNat e4.1) (mxI (rd1 (0:Int) (rd1 ([]:List Int) y4 y0) e4.1) e4.2);
 let l6:=List.set y4 (Int.toNat y0) l5;
 V9 L (y0,y1,y2,(wR (y3+1)),l6)else none else none else none else none else none)
 else(some y4)
theorem QdQ:OfL V9 Qac:=ofL 270 0
def Qhy:rF Vd:=fun D L (a0,a1,a2)=>
 (xG D a0).bind fun r1=>
 (QA D (a1,0,(wR ((a0.length:Int) - 1)))).bind fun r2=>
 bif (!r2)then(some r1)
 else((yy D a2).bind fun r3=>
 bif (!r3)then(some r1)
 else(bif inb a1 a0.length then
 bif (decide (((List.length (rd1 ([]:List Int) a0 a1)):Int)<5))then(some r1)
 else((V9 L (a1,a2,(a2.length:Int),0,r1)).bind fun z7=>
 some z7)else none))
theorem QsA:OfF Vd Qhy:=ofF 270
def Qhc:rL Jx:=fun D L (y0,y1,y2,y3,y4,y5)=>
 bif (decide (y1<5))then((QeU D (y0,y1)).bind fun r3=>
 (vv D (y2,y3,y1)).bind fun r4=>
 bif (decide (0<(mnI r3 r4)))then(bif fits (y5.length+ [(y1,(mnI r3 r4))].length) 16 then
 Jx L (y0,(wR (y1+1)),y2,y3,y4,(y5++[(y1,(mnI r3 r4))]))else none)
 else(Jx L (y0,(wR (y1+1)),y2,y3,y4,y5)))
 else(some (y2,y3,y4,y5))
theorem QkF:OfL Jx Qhc:=ofL 271 0
def QnF:rF Qcb:=fun D L (a0,a1,a2)=>
 (Xs D (a0,a1)).bind fun r1=>
 bif (!r1)then((X2 D (a0,a1)).bind fun r2=>
 some r2)
 else((Jx L (a2,0,a0,a1,[],[])).bind fun z5=>
 (Zs D z5).bind fun r6=>
 some r6)
theorem Qyp:OfF Qcb QnF:=ofF 271
def QmJ:rF vB:=fun D L (a0,a1,a2)=>
 (XA D (a0,a1)).bind fun r1=>
 bif (!r1)then(some 0)
 else((YH D (a0,a1,a2)).bind fun r2=>
 bif (!r2.2.2.2.2.2)then((KC D (a0,a1,a2)).bind fun r3=>
 some r3)
 else(bif (decide (r2.2.1=0))then(some (wR (r2.1 - 1)))
 else(some r2.1)))
theorem QwV:OfF vB QmJ:=ofF 272
def Qlp:rF vv:=fun D L (a0,a1,a2)=>
 (Xs D (a0,a1)).bind fun r1=>
 bif (!r1)then(some 0)
 else((VP D (a0,a1,a2)).bind fun r2=>
 bif (!r2.2.2.2.2.2)then((V4 D (a0,a1,a2)).bind fun r3=>
 some r3)
 else(bif (decide (r2.2.1=1))then(some r2.1)
 else(some (wR (r2.1 - 1)))))
theorem QwZ:OfF vv Qlp:=ofF 273
def QhB:rF Jq:=fun D L (a0,a1,a2)=>
 bif fits (List.length ([]:List Int)+a0.length) 8 then
 (QF D (a1,0,(wR ((a0.length:Int) - 1)))).bind fun r1=>
 bif r1 then(bif inb a1 a0.length then
 bif (decide ((rd1 (0:Int) a0 a1)<a2))then(bif inb a1 (List.length (([]:List Int)++a0))then
 let l2:=List.set (([]:List Int)++a0) (Int.toNat a1) a2;
 some l2 else none)
 else(some (([]:List Int)++a0))else none)
 else(some (([]:List Int)++a0))else none
theorem Qst:OfF Jq QhB:=ofF 274
def Qnl:rF Qbt:=fun D L (a0,a1)=>
 bif (decide (a0<a1))then(some a0)
 else(some a1)
theorem Qyg:OfF Qbt Qnl:=ofF 275
def QdY:rL Yc:=fun D L (y0,y1,y2,y3,y4,y5)=>
 bif (decide (y0<4))then(bif (!decide ((y1.length:Int)=4))then(bif fits (y5.length+ [y0].length) 8 then
 Yc L ((wR (y0+1)),y1,y2,y3,y4,(y5++[y0]))else none)
 else(bif (!decide ((y3.length:Int)=4))then(bif fits (y5.length+ [y0].length) 8 then
 Yc L ((wR (y0+1)),y1,y2,y3,y4,(y5++[y0]))else none)
 else(bif inb y0 y1.length then
 bif inb y0 y3.length then
 bif (!decide ((rd1 (0:Int) y1 y0)=(rd1 (0:Int) y3 y0)))then(bif fits (y5.length+ [y0].length) 8 then
 Yc L ((wR (y0+1)),y1,y2,y3,y4,(y5++[y0]))else none)
 else(Yc L ((wR (y0+1)),y1,y2,y3,y4,y5))else none else none)))
 else(some y5)
theorem QhE:OfL Yc QdY:=ofL 276 0
def Qml:rF vA:=fun D L (a0,a1,a2,a3)=>
 bif (decide (a1=a3))then(some [])
 else((Yc L (0,a0,a1,a2,a3,[])).bind fun z1=>
 some z1)
theorem QvN:OfF vA Qml:=ofF 276
def Qbv:rL YI:=fun D L (y0,y1,y2,y3,y4,y5)=>
 bif (decide (y1<(y2.length:Int)))then(bif inb y1 y2.length then
 let e1:=(rd1 XV y2 y1);
 (vt D e1.1).bind fun r2=>
 (Qc3 D (y0,r2)).bind fun r3=>
 bif r3 then(bif inb y1 y2.length then
 let e4:=(rd1 XV y2 y1);
 bif fits (y4.length+ [e4].length) 56 then
 YI L (y0,(wR (y1+1)),y2,y3,(y4++[e4]),y5)else none else none)
 else(YI L (y0,(wR (y1+1)),y2,y3,y4,y5))else none)
 else(some (y0,y2,y3,y4,y5))
theorem QfV:OfL YI Qbv:=ofL 277 0
def QcQ:rL Yy:=fun D L (y0,y1,y2,y3,y4,y5)=>
 bif (decide (y1<(y3.length:Int)))then(bif inb y1 y3.length then
 let e6:=(rd1 XP y3 y1);
 (vt D e6.1).bind fun r7=>
 (Qc3 D (y0,r7)).bind fun r8=>
 bif r8 then(bif inb y1 y3.length then
 let e9:=(rd1 XP y3 y1);
 bif fits (y5.length+ [e9].length) 16 then
 Yy L (y0,(wR (y1+1)),y2,y3,y4,(y5++[e9]))else none else none)
 else(Yy L (y0,(wR (y1+1)),y2,y3,y4,y5))else none)
 else(some (y4,y5))
theorem QfH:OfL Yy QcQ:=ofL 277 2
def QkO:rF xq:=fun D L (a0,a1,a2)=>
 (YI L (a2,0,a0,a1,[],[])).bind fun z5=>
 (Yy L (z5.1,0,z5.2)).bind fun z10=>
 some z10
theorem Qvo:OfF xq QkO:=ofF 277
def QhH:rF Ju:=fun D L (a0,a1,a2)=>
 (ZI D a0).bind fun r1=>
 (QA D (a1,0,(wR ((a0.length:Int) - 1)))).bind fun r2=>
 bif r2 then(bif inb a1 a0.length then
 bif inb a1 r1.length then
 let l3:=List.set r1 (Int.toNat a1) (mxI (rd1 (0:Int) a0 a1) a2);
 some l3 else none else none)
 else(some r1)
theorem Qs1:OfF Ju QhH:=ofF 278
def QdX:rL Ye:=fun D L (y0,y1,y2,y3,y4,y5,y6)=>
 bif (decide (y1<4))then(bif (!y0)then(bif fits (y6.length+ [y1].length) 8 then
 Ye L (y0,(wR (y1+1)),y2,y3,y4,y5,(y6++[y1]))else none)
 else(bif inb y1 y2.length then
 bif inb y1 y4.length then
 bif (!decide ((rd1 (0:Int) y2 y1)=(rd1 (0:Int) y4 y1)))then(bif fits (y6.length+ [y1].length) 8 then
 Ye L (y0,(wR (y1+1)),y2,y3,y4,y5,(y6++[y1]))else none)
 else(Ye L (y0,(wR (y1+1)),y2,y3,y4,y5,y6))else none else none))
 else(some y6)
theorem Qhw:OfL Ye QdX:=ofL 279 0
def QmK:rF vq:=fun D L (a0,a1,a2,a3)=>
 bif (decide (a1=a3))then(some [])
 else(bif (decide ((a0.length:Int)=4))then((Ye L ((decide ((a2.length:Int)=4)),0,a0,a1,a2,a3,[])).bind fun z1=>
 some z1)
 else((Ye L (false,0,a0,a1,a2,a3,[])).bind fun z2=>
 some z2))
theorem Qw7:OfF vq QmK:=ofF 279
end
end Go.Proofs.YtiejfnbmficbmaaGreat.M
