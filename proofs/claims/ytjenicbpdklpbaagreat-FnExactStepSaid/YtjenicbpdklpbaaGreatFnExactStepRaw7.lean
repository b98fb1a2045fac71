/- Plain forms of the functions that FnExactStep reaches, part 7. No conditions. -/
import Derived.Test.YtjenicbpdklpbaaGreatFnExactStepTab
set_option linter.all false
namespace Go.Proofs.YtjenicbpdklpbaaGreat.M
open Go Go.Eng Go.Proofs
set_option linter.unusedVariables false
noncomputable section
def Qmq:rL vo:=fun D L (y0,y1,y2)=>
 bif (decide (y2<(y0.length:Int)))then(bif inb y2 y0.length then
 (qy L (y0,(bits .xor .i64 y1 (wR (rd1 (0:Int) y0 y2))),y2,0)).bind fun z1=>
 vo L (z1.1,z1.2.1,(wR (z1.2.2+1)))else none)
 else(some y1)
theorem Qne:OfL vo Qmq:=ofL 239 0
def Qmm:rL qy:=fun D L (y0,y1,y2,y3)=>
 bif (decide (y3<8))then(bif decide ((2:Int)≠0)then
 bif decide ((2:Int)≠0)then
 bif (decide ((Int.tmod y1 2)=1))then(qy L (y0,(bits .xor .i64 (wR (Int.tdiv y1 2)) 3988292384),y2,(wR (y3+1))))
 else(qy L (y0,(wR (Int.tdiv y1 2)),y2,(wR (y3+1))))else none else none)
 else(some (y0,y1,y2))
theorem Qnl:OfL qy Qmm:=ofL 239 2
def QpO:rF QdC:=fun D L a0=>
 (vo L (a0,4294967295,0)).bind fun z2=>
 some (bits .xor .i64 z2 4294967295)
theorem QA0:OfF QdC QpO:=ofF 239
def Qc6:rL KF:=fun D L (y0,y1,y2,y3)=>
 bif (decide (y0<(y1.length:Int)))then(bif inb y0 y1.length then
 let e2:=(rd1 XU y1 y0);
 bif inb y0 y1.length then
 let e3:=(rd1 XU y1 y0);
 (KD L (y0,0,y1,y2,y3,e2.2.1,e2.2.2.1,e2.2.2.2.1,e2.2.2.2.2.1,e2.2.2.2.2.2,[e3.1,e2.2.1,e2.2.2.1,e2.2.2.2.1,e2.2.2.2.2.1])).bind fun z5=>
 (QbN D z5.2.2.2.2.2.2.2.2).bind fun r6=>
 bif fits (z5.2.2.2.1.length+r6.length) 1 then
 KF L ((wR (z5.1+1)),z5.2.1,z5.2.2.1,(z5.2.2.2.1++r6))else none else none else none)
 else(some (y1,y2,y3))
theorem Qgs:OfL KF Qc6:=ofL 242 0
def QaU:rL KD:=fun D L (y0,y1,y2,y3,y4,y5,y6,y7,y8,y9,y10)=>
 bif (decide (y1<(y10.length:Int)))then(bif inb y1 y10.length then
 (ZX D (rd1 (0:Int) y10 y1)).bind fun r4=>
 bif fits (y4.length+r4.length) 1 then
 KD L (y0,(wR (y1+1)),y2,y3,(y4++r4),y5,y6,y7,y8,y9,y10)else none else none)
 else(some (y0,y2,y3,y4,y5,y6,y7,y8,y9))
theorem Qgt:OfL KD QaU:=ofL 242 2
def Qbi:rL KS:=fun D L (y0,y1,y2,y3)=>
 bif (decide (y0<(y2.length:Int)))then(bif inb y0 y2.length then
 let e9:=(rd1 XN y2 y0);
 (ZX D e9.1).bind fun r10=>
 bif fits (y3.length+r10.length) 1 then
 bif inb y0 y2.length then
 let e11:=(rd1 XN y2 y0);
 (ZX D e11.2).bind fun r12=>
 bif fits (List.length (y3++r10)+r12.length) 1 then
 KS L ((wR (y0+1)),y1,y2,((y3++r10)++r12))else none else none else none else none)
 else(some y3)
theorem Qfp:OfL KS Qbi:=ofL 242 4
def Qjv:rF Qbz:=fun D L (a0,a1)=>
 (ZX D (a0.length:Int)).bind fun r1=>
 (KF L (0,a0,a1,r1)).bind fun z7=>
 (ZX D (z7.2.1.length:Int)).bind fun r8=>
 bif fits (z7.2.2.length+r8.length) 1 then
 (KS L (0,z7.1,z7.2.1,(z7.2.2++r8))).bind fun z13=>
 some z13 else none
theorem QtA:OfF Qbz Qjv:=ofF 242
def QjZ:rF QbE:=fun D L (a0,a1)=>
 bif (decide ((a0.length:Int)=0))then(some (decide (a1=0)))
 else(bif (decide ((a0.length:Int)=4))then((qZ D (a0,4,1023)).bind fun r1=>
 bif r1 then((QE D (a1,0,1023)).bind fun r2=>
 some r2)
 else(some false))
 else(some false))
theorem QsW:OfF QbE QjZ:=ofF 243
def Qc5:rL Jy:=fun D L (y0,y1,y2)=>
 bif (decide (y2<(y0.length:Int)))then(bif inb y2 y0.length then
 (QE D ((rd1 (0:Int) y0 y2),0,y1)).bind fun r1=>
 bif (!r1)then(some (Sum.inl false))
 else(Jy L (y0,y1,(wR (y2+1))))else none)
 else(some (Sum.inr ()))
theorem Qf9:OfL Jy Qc5:=ofL 244 0
def QiZ:rF qZ:=fun D L (a0,a1,a2)=>
 bif (decide (a1<(a0.length:Int)))then(some false)
 else((Jy L (a0,a2,0)).bind fun z2=>
 Qn z2 (fun u3=>
 some u3)
 (fun z4=>
 some true))
theorem Qt3:OfF qZ QiZ:=ofF 244
def Qcd:rL KQ:=fun D L (y0,y1)=>
 bif (decide (y1<(y0.length:Int)))then(bif inb y1 y0.length then
 let e1:=(rd1 XN y0 y1);
 (Yo D e1.1).bind fun r2=>
 bif (!r2)then(some (Sum.inl false))
 else(bif (decide (0<y1))then(bif inb y1 y0.length then
 let e3:=(rd1 XN y0 y1);
 bif inb (wR (y1 - 1)) y0.length then
 let e4:=(rd1 XN y0 (wR (y1 - 1)));
 bif (decide (e3.1<=e4.1))then(some (Sum.inl false))
 else(bif inb y1 y0.length then
 let e5:=(rd1 XN y0 y1);
 (QE D (e5.2,1,1000)).bind fun r6=>
 bif (!r6)then(some (Sum.inl false))
 else(KQ L (y0,(wR (y1+1))))else none)else none else none)
 else(bif inb y1 y0.length then
 let e7:=(rd1 XN y0 y1);
 (QE D (e7.2,1,1000)).bind fun r8=>
 bif (!r8)then(some (Sum.inl false))
 else(KQ L (y0,(wR (y1+1))))else none))else none)
 else(some (Sum.inr ()))
theorem QfS:OfL KQ Qcd:=ofL 245 0
def Qig:rF yH:=fun D L a0=>
 (KQ L (a0,0)).bind fun z9=>
 Qn z9 (fun u10=>
 some u10)
 (fun z11=>
 some true)
theorem QsR:OfF yH Qig:=ofF 245
def zW:rL Z8:=fun D L (y0,y1,y2,y3,y4,y5)=>
 bif (decide (y2<y1))then(bif inb y2 y0.length then
 let e3:=(rd1 XU y0 y2);
 (XW D e3.1).bind fun r4=>
 (XW D e3.2.1).bind fun r5=>
 (XW D e3.2.2.1).bind fun r6=>
 (XW D e3.2.2.2.1).bind fun r7=>
 (XW D e3.2.2.2.2.1).bind fun r8=>
 (QaZ D e3.2.2.2.2.2).bind fun r9=>
 (Kp D [y5,r4,r5,r6,r7,r8,r9]).bind fun r10=>
 Z8 L (y0,y1,(wR (y2+1)),y3,y4,r10)else none)
 else(some (y3,y4,y5))
theorem Qac:OfL Z8 zW:=ofL 249 0
def yu:rL Yb:=fun D L (y0,y1,y2,y3)=>
 bif (decide (y2<y1))then(bif inb y2 y0.length then
 let e14:=(rd1 XN y0 y2);
 (XW D e14.1).bind fun r15=>
 (XW D e14.2).bind fun r16=>
 (Kp D [y3,r15,r16]).bind fun r17=>
 Yb L (y0,y1,(wR (y2+1)),r17)else none)
 else(some y3)
theorem Qau:OfL Yb yu:=ofL 249 2
def Qdq:rF zT:=fun D L (a0,a1)=>
 (Xp D (a0,a1)).bind fun r1=>
 bif (!r1)then(some [])
 else((XW D (a0.length:Int)).bind fun r2=>
 (Z8 L (a0,(a0.length:Int),0,a0,a1,r2)).bind fun z11=>
 (XW D (z11.2.1.length:Int)).bind fun r12=>
 (Kp D [z11.2.2,r12]).bind fun r13=>
 (Yb L (z11.2.1,(z11.2.1.length:Int),0,r13)).bind fun z18=>
 some z18)
theorem QpK:OfF zT Qdq:=ofF 249
def Qd1:rL qR:=fun D L (y0,y1,y2,y3,y4)=>
 bif (decide (y2<y1))then(bif inb y2 y0.length then
 (QA D ((rd1 (0:Int) y0 y2),0,1023)).bind fun r1=>
 bif (!r1)then(some (Sum.inl false))
 else(qR L (y0,y1,(wR (y2+1)),y3,y4))else none)
 else(some (Sum.inr (y3,y4)))
theorem Qg3:OfL qR Qd1:=ofL 250 0
def QkJ:rF Qet:=fun D L (a0,a1)=>
 bif (decide ((a0.length:Int)=0))then(some (decide (a1=0)))
 else((qR L (a0,(a0.length:Int),0,a0,a1)).bind fun z2=>
 Qn z2 (fun u3=>
 some u3)
 (fun z4=>
 bif (decide ((z4.1.length:Int)=4))then((QA D (z4.2,0,1023)).bind fun r5=>
 some r5)
 else(some false)))
theorem QvN:OfF Qet QkJ:=ofF 250
def QbW:rL KU:=fun D L (y0,y1,y2,y3)=>
 bif (decide (y3<y2))then(bif inb y3 y1.length then
 let e1:=(rd1 XN y1 y3);
 (Yq D e1.1).bind fun r2=>
 bif (!r2)then(some (Sum.inl false))
 else((QA D (e1.2,1,1000)).bind fun r3=>
 bif (!r3)then(some (Sum.inl false))
 else(bif (decide (0<y3))then(bif inb (wR (y3 - 1)) y0.length then
 let e4:=(rd1 XN y0 (wR (y3 - 1)));
 bif (decide (e1.1<=e4.1))then(some (Sum.inl false))
 else(KU L (y0,y1,y2,(wR (y3+1))))else none)
 else(KU L (y0,y1,y2,(wR (y3+1))))))else none)
 else(some (Sum.inr ()))
theorem QfB:OfL KU QbW:=ofL 251 0
def QjO:rF yI:=fun D L a0=>
 (KU L (a0,a0,(a0.length:Int),0)).bind fun z5=>
 Qn z5 (fun u6=>
 some u6)
 (fun z7=>
 some true)
theorem Quc:OfF yI QjO:=ofF 251
def QdO:rL xD:=fun D L (y0,y1,y2,y3)=>
 bif (decide (y2<y1))then(bif inb y2 y0.length then
 bif fits (y3.length+List.length (rd1 ([]:List Int) y0 y2)) 1 then
 xD L (y0,y1,(wR (y2+1)),(y3++(rd1 ([]:List Int) y0 y2)))else none else none)
 else(some y3)
theorem QgX:OfL xD QdO:=ofL 252 0
def QkA:rF Kp:=fun D L a0=>
 (xD L (a0,(a0.length:Int),0,[])).bind fun z1=>
 some z1
theorem Qwx:OfF Kp QkA:=ofF 252
def js:rL xd:=fun D L (y0,y1)=>
 bif (decide (128<=y0))then(bif decide ((128:Int)≠0)then
 bif fits (y1.length+ [(IntKind.wrap .u8 (wR ((Int.tmod y0 128)+128)))].length) 1 then
 bif decide ((128:Int)≠0)then
 xd L ((wR (Int.tdiv y0 128)),(y1++[(IntKind.wrap .u8 (wR ((Int.tmod y0 128)+128)))]))else none else none else none)
 else(some (y0,y1))
theorem Qhf:OfL xd js:=ofL 253 0
def QlN:rF XW:=fun D L a0=>
 (QA D (a0,0,2147483647)).bind fun r1=>
 bif (!r1)then(some [])
 else((xd L (a0,[])).bind fun z2=>
 bif fits (z2.2.length+ [(IntKind.wrap .u8 z2.1)].length) 1 then
 some (z2.2++[(IntKind.wrap .u8 z2.1)])else none)
theorem Qu7:OfF XW QlN:=ofF 253
def QiR:rF Qa7:=fun D L (a0,a1,a2)=>
 (QkU D (a0,a1,a2)).bind fun r1=>
 bif (!decide (r1.2.2.2.2.2=0))then(some ([],[],r1.2.2.2.2.2))
 else(bif (decide (r1.2.2.1=100000))then(some ([],[],4))
 else((QhP D (a2,r1.1,r1.2.1,(wR (r1.2.2.1+1)),r1.2.2.2.1,r1.2.2.2.2.1)).bind fun r2=>
 some r2))
theorem Qs7:OfF Qa7 QiR:=ofF 257
def QdF:rL Qx:=fun D L (y0,y1,y2,y3,y4,y5,y6)=>
 bif (decide (y0<5))then((Kz D (y1,y2,y0)).bind fun r1=>
 (Kz D (y3,y4,y0)).bind fun r2=>
 (QbH D (r1,r2)).bind fun r3=>
 bif (decide (0<r3))then(bif fits (y6.length+ [(y0,r3)].length) 16 then
 (Yw D (y1,y2,y0)).bind fun r4=>
 (Yw D (y3,y4,y0)).bind fun r5=>
 bif (!r4.2.2.2.2.2)then(bif (!r5.2.2.2.2.2)then(Qx L ((wR (y0+1)),y1,y2,y3,y4,y5,(y6++[(y0,r3)])))
 else(bif (!r4.2.2.2.2.2)then(bif (decide (r3<r5.1))then(bif fits (y5.length+ [(y0,r5.1,r5.2.1,r5.2.2.1,r5.2.2.2.1,r5.2.2.2.2.1)].length) 56 then
 Qx L ((wR (y0+1)),y1,y2,y3,y4,(y5++[(y0,r5.1,r5.2.1,r5.2.2.1,r5.2.2.2.1,r5.2.2.2.2.1)]),(y6++[(y0,r3)]))else none)
 else(Qx L ((wR (y0+1)),y1,y2,y3,y4,y5,(y6++[(y0,r3)]))))
 else(bif r5.2.2.2.2.2 then((K2 D (r5.1,r5.2.1,r5.2.2.1,r5.2.2.2.1,r5.2.2.2.2.1,r4.1,r4.2.1,r4.2.2.1,r4.2.2.2.1,r4.2.2.2.2.1)).bind fun r6=>
 bif (decide (0<r6))then(bif (decide (r3<r5.1))then(bif fits (y5.length+ [(y0,r5.1,r5.2.1,r5.2.2.1,r5.2.2.2.1,r5.2.2.2.2.1)].length) 56 then
 Qx L ((wR (y0+1)),y1,y2,y3,y4,(y5++[(y0,r5.1,r5.2.1,r5.2.2.1,r5.2.2.2.1,r5.2.2.2.2.1)]),(y6++[(y0,r3)]))else none)
 else(Qx L ((wR (y0+1)),y1,y2,y3,y4,y5,(y6++[(y0,r3)]))))
 else(bif (decide (r3<r4.1))then(bif fits (y5.length+ [(y0,r4.1,r4.2.1,r4.2.2.1,r4.2.2.2.1,r4.2.2.2.2.1)].length) 56 then
 Qx L ((wR (y0+1)),y1,y2,y3,y4,(y5++[(y0,r4.1,r4.2.1,r4.2.2.1,r4.2.2.2.1,r4.2.2.2.2.1)]),(y6++[(y0,r3)]))else none)
 else(Qx L ((wR (y0+1)),y1,y2,y3,y4,y5,(y6++[(y0,r3)])))))
 else(bif (decide (r3<r4.1))then(bif fits (y5.length+ [(y0,r4.1,r4.2.1,r4.2.2.1,r4.2.2.2.1,r4.2.2.2.2.1)].length) 56 then
 Qx L ((wR (y0+1)),y1,y2,y3,y4,(y5++[(y0,r4.1,r4.2.1,r4.2.2.1,r4.2.2.2.1,r4.2.2.2.2.1)]),(y6++[(y0,r3)]))else none)
 else(Qx L ((wR (y0+1)),y1,y2,y3,y4,y5,(y6++[(y0,r3)])))))))
 else(bif (!r4.2.2.2.2.2)then(bif (decide (r3<r5.1))then(bif fits (y5.length+ [(y0,r5.1,r5.2.1,r5.2.2.1,r5.2.2.2.1,r5.2.2.2.2.1)].length) 56 then
 Qx L ((wR (y0+1)),y1,y2,y3,y4,(y5++[(y0,r5.1,r5.2.1,r5.2.2.1,r5.2.2.2.1,r5.2.2.2.2.1)]),(y6++[(y0,r3)]))else none)
 else(Qx L ((wR (y0+1)),y1,y2,y3,y4,y5,(y6++[(y0,r3)]))))
 else(bif r5.2.2.2.2.2 then((K2 D (r5.1,r5.2.1,r5.2.2.1,r5.2.2.2.1,r5.2.2.2.2.1,r4.1,r4.2.1,r4.2.2.1,r4.2.2.2.1,r4.2.2.2.2.1)).bind fun r7=>
 bif (decide (0<r7))then(bif (decide (r3<r5.1))then(bif fits (y5.length+ [(y0,r5.1,r5.2.1,r5.2.2.1,r5.2.2.2.1,r5.2.2.2.2.1)].length) 56 then
 Qx L ((wR (y0+1)),y1,y2,y3,y4,(y5++[(y0,r5.1,r5.2.1,r5.2.2.1,r5.2.2.2.1,r5.2.2.2.2.1)]),(y6++[(y0,r3)]))else none)
 else(Qx L ((wR (y0+1)),y1,y2,y3,y4,y5,(y6++[(y0,r3)]))))
 else(bif (decide (r3<r4.1))then(bif fits (y5.length+ [(y0,r4.1,r4.2.1,r4.2.2.1,r4.2.2.2.1,r4.2.2.2.2.1)].length) 56 then
 Qx L ((wR (y0+1)),y1,y2,y3,y4,(y5++[(y0,r4.1,r4.2.1,r4.2.2.1,r4.2.2.2.1,r4.2.2.2.2.1)]),(y6++[(y0,r3)]))else none)
 else(Qx L ((wR (y0+1)),y1,y2,y3,y4,y5,(y6++[(y0,r3)])))))
 else(bif (decide (r3<r4.1))then(bif fits (y5.length+ [(y0,r4.1,r4.2.1,r4.2.2.1,r4.2.2.2.1,r4.2.2.2.2.1)].length) 56 then
 Qx L ((wR (y0+1)),y1,y2,y3,y4,(y5++[(y0,r4.1,r4.2.1,r4.2.2.1,r4.2.2.2.1,r4.2.2.2.2.1)]),(y6++[(y0,r3)]))else none)
 else(Qx L ((wR (y0+1)),y1,y2,y3,y4,y5,(y6++[(y0,r3)]))))))else none)
 else((Yw D (y1,y2,y0)).bind fun r8=>
 (Yw D (y3,y4,y0)).bind fun r9=>
 bif (!r8.2.2.2.2.2)then(bif (!r9.2.2.2.2.2)then(Qx L ((wR (y0+1)),y1,y2,y3,y4,y5,y6))
 else(bif (!r8.2.2.2.2.2)then(bif (decide (r3<r9.1))then(bif fits (y5.length+ [(y0,r9.1,r9.2.1,r9.2.2.1,r9.2.2.2.1,r9.2.2.2.2.1)].length) 56 then
 Qx L ((wR (y0+1)),y1,y2,y3,y4,(y5++[(y0,r9.1,r9.2.1,r9.2.2.1,r9.2.2.2.1,r9.2.2.2.2.1)]),y6)else none)
 else(Qx L ((wR (y0+1)),y1,y2,y3,y4,y5,y6)))
 else(bif r9.2.2.2.2.2 then((K2 D (r9.1,r9.2.1,r9.2.2.1,r9.2.2.2.1,r9.2.2.2.2.1,r8.1,r8.2.1,r8.2.2.1,r8.2.2.2.1,r8.2.2.2.2.1)).bind fun r10=>
 bif (decide (0<r10))then(bif (decide (r3<r9.1))then(bif fits (y5.length+ [(y0,r9.1,r9.2.1,r9.2.2.1,r9.2.2.2.1,r9.2.2.2.2.1)].length) 56 then
 Qx L ((wR (y0+1)),y1,y2,y3,y4,(y5++[(y0,r9.1,r9.2.1,r9.2.2.1,r9.2.2.2.1,r9.2.2.2.2.1)]),y6)else none)
 else(Qx L ((wR (y0+1)),y1,y2,y3,y4,y5,y6)))
 else(bif (decide (r3<r8.1))then(bif fits (y5.length+ [(y0,r8.1,r8.2.1,r8.2.2.1,r8.2.2.2.1,r8.2.2.2.2.1)].length) 56 then
 Qx L ((wR (y0+1)),y1,y2,y3,y4,(y5++[(y0,r8.1,r8.2.1,r8.2.2.1,r8.2.2.2.1,r8.2.2.2.2.1)]),y6)else none)
 else(Qx L ((wR (y0+1)),y1,y2,y3,y4,y5,y6))))
 else(bif (decide (r3<r8.1))then(bif fits (y5.length+ [(y0,r8.1,r8.2.1,r8.2.2.1,r8.2.2.2.1,r8.2.2.2.2.1)].length) 56 then
 Qx L ((wR (y0+1)),y1,y2,y3,y4,(y5++[(y0,r8.1,r8.2.1,r8.2.2.1,r8.2.2.2.1,r8.2.2.2.2.1)]),y6)else none)
 else(Qx L ((wR (y0+1)),y1,y2,y3,y4,y5,y6))))))
 else(bif (!r8.2.2.2.2.2)then(bif (decide (r3<r9.1))then(bif fits (y5.length+ [(y0,r9.1,r9.2.1,r9.2.2.1,r9.2.2.2.1,r9.2.2.2.2.1)].length) 56 then
 Qx L ((wR (y0+1)),y1,y2,y3,y4,(y5++[(y0,r9.1,r9.2.1,r9.2.2.1,r9.2.2.2.1,r9.2.2.2.2.1)]),y6)else none)
 else(Qx L ((wR (y0+1)),y1,y2,y3,y4,y5,y6)))
 else(bif r9.2.2.2.2.2 then((K2 D (r9.1,r9.2.1,r9.2.2.1,r9.2.2.2.1,r9.2.2.2.2.1,r8.1,r8.2.1,r8.2.2.1,r8.2.2.2.1,r8.2.2.2.2.1)).bind fun r11=>
 bif (decide (0<r11))then(bif (decide (r3<r9.1))then(bif fits (y5.length+ [(y0,r9.1,r9.2.1,r9.2.2.1,r9.2.2.2.1,r9.2.2.2.2.1)].length) 56 then
 Qx L ((wR (y0+1)),y1,y2,y3,y4,(y5++[(y0,r9.1,r9.2.1,r9.2.2.1,r9.2.2.2.1,r9.2.2.2.2.1)]),y6)else none)
 else(Qx L ((wR (y0+1)),y1,y2,y3,y4,y5,y6)))
 else(bif (decide (r3<r8.1))then(bif fits (y5.length+ [(y0,r8.1,r8.2.1,r8.2.2.1,r8.2.2.2.1,r8.2.2.2.2.1)].length) 56 then
 Qx L ((wR (y0+1)),y1,y2,y3,y4,(y5++[(y0,r8.1,r8.2.1,r8.2.2.1,r8.2.2.2.1,r8.2.2.2.2.1)]),y6)else none)
 else(Qx L ((wR (y0+1)),y1,y2,y3,y4,y5,y6))))
 else(bif (decide (r3<r8.1))then(bif fits (y5.length+ [(y0,r8.1,r8.2.1,r8.2.2.1,r8.2.2.2.1,r8.2.2.2.2.1)].length) 56 then
 Qx L ((wR (y0+1)),y1,y2,y3,y4,(y5++[(y0,r8.1,r8.2.1,r8.2.2.1,r8.2.2.2.1,r8.2.2.2.2.1)]),y6)else none)
 else(Qx L ((wR (y0+1)),y1,y2,y3,y4,y5,y6)))))))
 else(some (y5,y6))
theorem QgV:OfL Qx QdF:=ofL 260 0
def Qly:rF Yn:=fun D L (a0,a1,a2,a3)=>
 (Qx L (0,a0,a1,a2,a3,[],[])).bind fun z12=>
 some z12
theorem QvB:OfF Yn Qly:=ofF 260
def vL:rL VT:=fun D L (y0,y1,y2,y3)=>
 bif (decide (y2<(y1.length:Int)))then(bif inb y0 y3.length then
 bif inb y2 y1.length then
 let e4:=(rd1 XN y1 y2);
 bif inb y0 y3.length then
 bif inb y2 y1.length then
 let e5:=(rd1 XN y1 y2);
 bif inb e5.1 (List.length (rd1 ([]:List Int) y3 y0))then
 bif inb y2 y1.length then
 let e6:=(rd1 XN y1 y2);
 (QbH D ((rd1 (0:Int) (rd1 ([]:List Int) y3 y0) e5.1),e6.2)).bind fun r7=>
 bif inb e4.1 (List.length (rd1 ([]:List Int) y3 y0))then
 let l8:=List.set (rd1 ([]:List Int) y3 y0) (Int.toNat e4.1) r7;
 let l9:=List.set y3 (Int.toNat y0) l8;
 VT L (y0,y1,(wR (y2+1)),l9)else none else none else none else none else none else none else none)
 else(some y3)
theorem Qdu:OfL VT vL:=ofL 261 0
def Qg6:rF K3:=fun D L (a0,a1,a2)=>
 (vm D a0).bind fun r1=>
 (QE D (a1,0,(wR ((a0.length:Int) - 1)))).bind fun r2=>
 bif (!r2)then(some r1)
 else((yH D a2).bind fun r3=>
 bif (!r3)then(some r1)
 else(bif inb a1 a0.length then
 bif (decide (((List.length (rd1 ([]:List Int) a0 a1)):Int)<5))then(some r1)
 else((VT L (a1,a2,0,r1)).bind fun z10=>
 some z10)else none))
theorem Qsd:OfF K3 Qg6:=ofF 261
def Qct:rL KV:=fun D L (y0,y1,y2,y3)=>
 bif (decide (y0<5))then((j8 D (y1,y2,y0)).bind fun r1=>
 bif (decide (0<r1))then(bif fits (y3.length+ [(y0,r1)].length) 16 then
 KV L ((wR (y0+1)),y1,y2,(y3++[(y0,r1)]))else none)
 else(KV L ((wR (y0+1)),y1,y2,y3)))
 else(some y3)
theorem Qf2:OfL KV Qct:=ofL 262 0
def QiV:rF xn:=fun D L (a0,a1)=>
 (KV L (0,a0,a1,[])).bind fun z2=>
 some z2
theorem QuG:OfF xn QiV:=ofF 262
def QgH:rL Jj:=fun D L (y0,y1,y2,y3,y4,y5)=>
 bif (decide (y1<5))then((QeW D (y0,y1)).bind fun r3=>
 (j8 D (y2,y3,y1)).bind fun r4=>
 (Qbf D (r3,r4)).bind fun r5=>
 bif (decide (0<r5))then(bif fits (y5.length+ [(y1,r5)].length) 16 then
 Jj L (y0,(wR (y1+1)),y2,y3,y4,(y5++[(y1,r5)]))else none)
 else(Jj L (y0,(wR (y1+1)),y2,y3,y4,y5)))
 else(some (y2,y3,y4,y5))
theorem Qi0:OfL Jj QgH:=ofL 263 0
def QmK:rF Qa6:=fun D L (a0,a1,a2)=>
 (XA D (a0,a1)).bind fun r1=>
 bif (!r1)then((ZY D (a0,a1)).bind fun r2=>
 some r2)
 else((Jj L (a2,0,a0,a1,[],[])).bind fun z6=>
 (Yn D z6).bind fun r7=>
 some r7)
theorem QxA:OfF Qa6 QmK:=ofF 263
def QiF:rF Qay:=fun D L (a0,a1,a2,a3,a4,a5,a6,a7,a8,a9,a10,a11,a12,a13,a14,a15,a16,a17,a18,a19)=>
 (QE D (a19,0,(wR (a1 - 1)))).bind fun r1=>
 bif r1 then(some (!decide (a19=a0)))
 else(some false)
theorem QtW:OfF Qay QiF:=ofF 264
def QjE:rL qY:=fun D L (y0,y1,y2,y3,y4,y5,y6,y7,y8,y9,y10,y11,y12,y13,y14,y15,y16,y17,y18,y19,y20,y21)=>
 bif (decide (y2<(y17.length:Int)))then(bif inb y2 y17.length then
 let e1:=(rd1 X7 y17 y2);
 bif (decide (e1.1=y0))then(bif inb y2 y17.length then
 let e2:=(rd1 X7 y17 y2);
 bif (e2.2.2.1==y1)then(some (Sum.inl y2))
 else(qY L (y0,y1,(wR (y2+1)),y3,y4,y5,y6,y7,y8,y9,y10,y11,y12,y13,y14,y15,y16,y17,y18,y19,y20,y21))else none)
 else(qY L (y0,y1,(wR (y2+1)),y3,y4,y5,y6,y7,y8,y9,y10,y11,y12,y13,y14,y15,y16,y17,y18,y19,y20,y21))else none)
 else(some (Sum.inr ()))
theorem QlC:OfL qY QjE:=ofL 265 0
def Qow:rF Qas:=fun D L (a0,a1,a2,a3,a4,a5,a6,a7,a8,a9,a10,a11,a12,a13,a14,a15,a16,a17,a18,a19,a20)=>
 (qY L (a19,a20,0,a0,a1,a2,a3,a4,a5,a6,a7,a8,a9,a10,a11,a12,a13,a14,a15,a16,a17,a18)).bind fun z3=>
 Qn z3 (fun u4=>
 some u4)
 (fun z5=>
 some (-1))
theorem Qzw:OfF Qas Qow:=ofF 265
def Qlx:rF Z1:=fun D L (a0,a1,a2,a3,a4,a5,a6,a7,a8,a9,a10,a11,a12,a13,a14,a15,a16,a17,a18,a19,a20,a21)=>
 (qo D (a6,a7,a8)).bind fun r1=>
 bif fits (List.length ([]:List Int)+a9.length) 8 then
 (xn D (a2,a3)).bind fun r2=>
 some (a19,a0,a20,a21,r1,[],0,(([]:List Int)++a9),[],[],[],r2)else none
theorem QvG:OfF Z1 Qlx:=ofF 266
end
end Go.Proofs.YtjenicbpdklpbaaGreat.M
