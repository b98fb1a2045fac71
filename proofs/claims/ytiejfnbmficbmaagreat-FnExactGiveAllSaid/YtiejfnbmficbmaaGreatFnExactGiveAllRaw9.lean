/- Plain forms of the functions that FnExactGiveAll reaches, part 9. No conditions. -/
import Derived.Test.YtiejfnbmficbmaaGreatFnExactGiveAllTab
set_option linter.all false
namespace Go.Proofs.YtiejfnbmficbmaaGreat.M
open Go Go.Eng Go.Proofs
set_option linter.unusedVariables false
noncomputable section
def Qa2:rL Jn:=fun D L (y0,y1,y2,y3)=>
 bif (decide (y2<(y1.length:Int)))then(bif inb y0 y3.length then
 bif inb y2 y1.length then
 let e4:=(rd1 Xx y1 y2);
 bif inb y0 y3.length then
 bif inb y2 y1.length then
 let e5:=(rd1 Xx y1 y2);
 bif inb e5.1 (List.length (rd1 ([]:List Int) y3 y0))then
 bif inb y2 y1.length then
 let e6:=(rd1 Xx y1 y2);
 (QeJ D ((rd1 (0:Int) (rd1 ([]:List Int) y3 y0) e5.1),e6.2)).bind fun r7=>
 bif inb e4.1 (List.length (rd1 ([]:List Int) y3 y0))then
 let l8:=List.set (rd1 ([]:List Int) y3 y0) (Int.toNat e4.1) r7;
 let l9:=List.set y3 (Int.toNat y0) l8;
 Jn L (y0,y1,(wR (y2+1)),l9)else none else none else none else none else none else none else none)
 else(some y3)
theorem QeW:OfL Jn Qa2:=ofL 263 0
def Qjc:rF Vq:=fun D L (a0,a1,a2)=>
 (Qav D a0).bind fun r1=>
 (QL D (a1,0,(wR ((a0.length:Int) - 1)))).bind fun r2=>
 bif (!r2)then(some r1)
 else((jW D a2).bind fun r3=>
 bif (!r3)then(some r1)
 else(bif inb a1 a0.length then
 bif (decide (((List.length (rd1 ([]:List Int) a0 a1)):Int)<5))then(some r1)
 else((Jn L (a1,a2,0,r1)).bind fun z10=>
 some z10)else none))
theorem Qt8:OfF Vq Qjc:=ofF 263
def Qiy:rL JO:=fun D L (y0,y1,y2,y3,y4,y5)=>
 bif (decide (y1<5))then((Qgp D (y0,y1)).bind fun r3=>
 (QaC D (y2,y3,y1)).bind fun r4=>
 (Qcl D (r3,r4)).bind fun r5=>
 bif (decide (0<r5))then(bif fits (y5.length+ [(y1,r5)].length) 16 then
 JO L (y0,(wR (y1+1)),y2,y3,y4,(y5++[(y1,r5)]))else none)
 else(JO L (y0,(wR (y1+1)),y2,y3,y4,y5)))
 else(some (y2,y3,y4,y5))
theorem QlD:OfL JO Qiy:=ofL 264 0
def Qpk:rF QcF:=fun D L (a0,a1,a2)=>
 (Zo D (a0,a1)).bind fun r1=>
 bif (!r1)then((Kx D (a0,a1)).bind fun r2=>
 some r2)
 else((JO L (a2,0,a0,a1,[],[])).bind fun z6=>
 (Yt D z6).bind fun r7=>
 some r7)
theorem QAC:OfF QcF Qpk:=ofF 264
def Qab:rL Zw:=fun D L (y0,y1,y2,y3,y4,y5,y6)=>
 bif (decide (y0<5))then((xV D (y1,y2,y0)).bind fun r1=>
 (xV D (y3,y4,y0)).bind fun r2=>
 (QaW D (r1.1,r1.2.1,r1.2.2.1,r1.2.2.2.1,r1.2.2.2.2.1,r2.1,r2.2.1,r2.2.2.1,r2.2.2.2.1,r2.2.2.2.2.1)).bind fun r3=>
 (V5 D (y1,y2,y0)).bind fun r4=>
 (V5 D (y3,y4,y0)).bind fun r5=>
 bif (decide ((mxI r4 r5)<r3.1))then(bif fits (y5.length+ [(y0,r3)].length) 56 then
 bif (decide (0<(mxI r4 r5)))then(bif fits (y6.length+ [(y0,(mxI r4 r5))].length) 16 then
 Zw L ((wR (y0+1)),y1,y2,y3,y4,(y5++[(y0,r3)]),(y6++[(y0,(mxI r4 r5))]))else none)
 else(Zw L ((wR (y0+1)),y1,y2,y3,y4,(y5++[(y0,r3)]),y6))else none)
 else(bif (decide (0<(mxI r4 r5)))then(bif fits (y6.length+ [(y0,(mxI r4 r5))].length) 16 then
 Zw L ((wR (y0+1)),y1,y2,y3,y4,y5,(y6++[(y0,(mxI r4 r5))]))else none)
 else(Zw L ((wR (y0+1)),y1,y2,y3,y4,y5,y6))))
 else(some (y5,y6))
theorem QcV:OfL Zw Qab:=ofL 269 0
def Qig:rF Zs:=fun D L (a0,a1,a2,a3)=>
 (Zw L (0,a0,a1,a2,a3,[],[])).bind fun z6=>
 some z6
theorem QsW:OfF Zs Qig:=ofF 269
def Qbp:rL Js:=fun D L (y0,y1,y2,y3,y4)=>
 bif (decide (y3<y2))then(bif inb y3 y1.length then
 let e4:=(rd1 Xx y1 y3);
 bif inb y0 y4.length then
 bif inb y0 y4.length then
 bif inb e4.1 (List.length (rd1 ([]:List Int) y4 y0))then
 bif inb e4.1 (List.length (rd1 ([]:List Int) y4 y0))then
 let l5:=List.set (rd1 ([]:List Int) y4 y0) (Int.toNat e4.1) (mxI (rd1 (0:Int) (rd1 ([]:List Int) y4 y0) e4.1) e4.2);
 let l6:=List.set y4 (Int.toNat y0) l5;
 Js L (y0,y1,y2,(wR (y3+1)),l6)else none else none else none else none else none)
 else(some y4)
theorem QeZ:OfL Js Qbp:=ofL 270 0
def QiS:rF Vm:=fun D L (a0,a1,a2)=>
 (xB D a0).bind fun r1=>
 (QA D (a1,0,(wR ((a0.length:Int) - 1)))).bind fun r2=>
 bif (!r2)then(some r1)
 else((jg D a2).bind fun r3=>
 bif (!r3)then(some r1)
 else(bif inb a1 a0.length then
 bif (decide (((List.length (rd1 ([]:List Int) a0 a1)):Int)<5))then(some r1)
 else((Js L (a1,a2,(a2.length:Int),0,r1)).bind fun z7=>
 some z7)else none))
theorem QtM:OfF Vm QiS:=ofF 270
def Qiz:rL JU:=fun D L (y0,y1,y2,y3,y4,y5)=>
 bif (decide (y1<5))then((Qf1 D (y0,y1)).bind fun r3=>
 (Qay D (y2,y3,y1)).bind fun r4=>
 bif (decide (0<(mnI r3 r4)))then(bif fits (y5.length+ [(y1,(mnI r3 r4))].length) 16 then
 JU L (y0,(wR (y1+1)),y2,y3,y4,(y5++[(y1,(mnI r3 r4))]))else none)
 else(JU L (y0,(wR (y1+1)),y2,y3,y4,y5)))
 else(some (y2,y3,y4,y5))
theorem QlK:OfL JU Qiz:=ofL 271 0
def Qo3:rF Qb0:=fun D L (a0,a1,a2)=>
 (XB D (a0,a1)).bind fun r1=>
 bif (!r1)then((ZO D (a0,a1)).bind fun r2=>
 some r2)
 else((JU L (a2,0,a0,a1,[],[])).bind fun z5=>
 (Zs D z5).bind fun r6=>
 some r6)
theorem QAb:OfF Qb0 Qo3:=ofF 271
def Qm5:rF QaC:=fun D L (a0,a1,a2)=>
 (Zo D (a0,a1)).bind fun r1=>
 bif (!r1)then(some 0)
 else((KH D (a0,a1,a2)).bind fun r2=>
 bif (!r2.2.2.2.2.2)then((KI D (a0,a1,a2)).bind fun r3=>
 some r3)
 else(bif (decide (r2.2.1=0))then(some (wR (r2.1 - 1)))
 else(some r2.1)))
theorem QxB:OfF QaC Qm5:=ofF 272
def Qnm:rF Qay:=fun D L (a0,a1,a2)=>
 (XB D (a0,a1)).bind fun r1=>
 bif (!r1)then(some 0)
 else((xV D (a0,a1,a2)).bind fun r2=>
 bif (!r2.2.2.2.2.2)then((V5 D (a0,a1,a2)).bind fun r3=>
 some r3)
 else(bif (decide (r2.2.1=1))then(some r2.1)
 else(some (wR (r2.1 - 1)))))
theorem Qza:OfF Qay Qnm:=ofF 273
def Qjo:rF JM:=fun D L (a0,a1,a2)=>
 bif fits (List.length ([]:List Int)+a0.length) 8 then
 (QL D (a1,0,(wR ((a0.length:Int) - 1)))).bind fun r1=>
 bif r1 then(bif inb a1 a0.length then
 bif (decide ((rd1 (0:Int) a0 a1)<a2))then(bif inb a1 (List.length (([]:List Int)++a0))then
 let l2:=List.set (([]:List Int)++a0) (Int.toNat a1) a2;
 some l2 else none)
 else(some (([]:List Int)++a0))else none)
 else(some (([]:List Int)++a0))else none
theorem Quf:OfF JM Qjo:=ofF 274
def Qo4:rF Qcl:=fun D L (a0,a1)=>
 bif (decide (a0<a1))then(some a0)
 else(some a1)
theorem QAq:OfF Qcl Qo4:=ofF 275
def Qfg:rL Yi:=fun D L (y0,y1,y2,y3,y4,y5)=>
 bif (decide (y0<4))then(bif (!decide ((y1.length:Int)=4))then(bif fits (y5.length+ [y0].length) 8 then
 Yi L ((wR (y0+1)),y1,y2,y3,y4,(y5++[y0]))else none)
 else(bif (!decide ((y3.length:Int)=4))then(bif fits (y5.length+ [y0].length) 8 then
 Yi L ((wR (y0+1)),y1,y2,y3,y4,(y5++[y0]))else none)
 else(bif inb y0 y1.length then
 bif inb y0 y3.length then
 bif (!decide ((rd1 (0:Int) y1 y0)=(rd1 (0:Int) y3 y0)))then(bif fits (y5.length+ [y0].length) 8 then
 Yi L ((wR (y0+1)),y1,y2,y3,y4,(y5++[y0]))else none)
 else(Yi L ((wR (y0+1)),y1,y2,y3,y4,y5))else none else none)))
 else(some y5)
theorem Qjg:OfL Yi Qfg:=ofL 276 0
def QmV:rF Qaz:=fun D L (a0,a1,a2,a3)=>
 bif (decide (a1=a3))then(some [])
 else((Yi L (0,a0,a1,a2,a3,[])).bind fun z1=>
 some z1)
theorem Qyp:OfF Qaz QmV:=ofF 276
def QdJ:rL YA:=fun D L (y0,y1,y2,y3,y4,y5)=>
 bif (decide (y1<(y2.length:Int)))then(bif inb y1 y2.length then
 let e1:=(rd1 Zc y2 y1);
 (Qax D e1.1).bind fun r2=>
 (vn D (y0,r2)).bind fun r3=>
 bif r3 then(bif inb y1 y2.length then
 let e4:=(rd1 Zc y2 y1);
 bif fits (y4.length+ [e4].length) 56 then
 YA L (y0,(wR (y1+1)),y2,y3,(y4++[e4]),y5)else none else none)
 else(YA L (y0,(wR (y1+1)),y2,y3,y4,y5))else none)
 else(some (y0,y2,y3,y4,y5))
theorem QhK:OfL YA QdJ:=ofL 277 0
def QdC:rL Yz:=fun D L (y0,y1,y2,y3,y4,y5)=>
 bif (decide (y1<(y3.length:Int)))then(bif inb y1 y3.length then
 let e6:=(rd1 Xx y3 y1);
 (Qax D e6.1).bind fun r7=>
 (vn D (y0,r7)).bind fun r8=>
 bif r8 then(bif inb y1 y3.length then
 let e9:=(rd1 Xx y3 y1);
 bif fits (y5.length+ [e9].length) 16 then
 Yz L (y0,(wR (y1+1)),y2,y3,y4,(y5++[e9]))else none else none)
 else(Yz L (y0,(wR (y1+1)),y2,y3,y4,y5))else none)
 else(some (y4,y5))
theorem QgM:OfL Yz QdC:=ofL 277 2
def Qmf:rF xG:=fun D L (a0,a1,a2)=>
 (YA L (a2,0,a0,a1,[],[])).bind fun z5=>
 (Yz L (z5.1,0,z5.2)).bind fun z10=>
 some z10
theorem QwW:OfF xG Qmf:=ofF 277
def Qi1:rF JS:=fun D L (a0,a1,a2)=>
 (ZI D a0).bind fun r1=>
 (QA D (a1,0,(wR ((a0.length:Int) - 1)))).bind fun r2=>
 bif r2 then(bif inb a1 a0.length then
 bif inb a1 r1.length then
 let l3:=List.set r1 (Int.toNat a1) (mxI (rd1 (0:Int) a0 a1) a2);
 some l3 else none else none)
 else(some r1)
theorem QtQ:OfF JS Qi1:=ofF 278
def Qfv:rL Yj:=fun D L (y0,y1,y2,y3,y4,y5,y6)=>
 bif (decide (y1<4))then(bif (!y0)then(bif fits (y6.length+ [y1].length) 8 then
 Yj L (y0,(wR (y1+1)),y2,y3,y4,y5,(y6++[y1]))else none)
 else(bif inb y1 y2.length then
 bif inb y1 y4.length then
 bif (!decide ((rd1 (0:Int) y2 y1)=(rd1 (0:Int) y4 y1)))then(bif fits (y6.length+ [y1].length) 8 then
 Yj L (y0,(wR (y1+1)),y2,y3,y4,y5,(y6++[y1]))else none)
 else(Yj L (y0,(wR (y1+1)),y2,y3,y4,y5,y6))else none else none))
 else(some y6)
theorem QiR:OfL Yj Qfv:=ofL 279 0
def QnM:rF Qap:=fun D L (a0,a1,a2,a3)=>
 bif (decide (a1=a3))then(some [])
 else(bif (decide ((a0.length:Int)=4))then((Yj L ((decide ((a2.length:Int)=4)),0,a0,a1,a2,a3,[])).bind fun z1=>
 some z1)
 else((Yj L (false,0,a0,a1,a2,a3,[])).bind fun z2=>
 some z2))
theorem QyM:OfF Qap QnM:=ofF 279
def Qix:rL Vr:=fun D L (y0,y1,y2,y3,y4,y5,y6,y7)=>
 bif (decide (y3<y2))then(bif inb y3 y1.length then
 let e2:=(rd1 Zc y1 y3);
 (QaG D e2.1).bind fun r3=>
 (Zv D (y0,r3)).bind fun r4=>
 bif r4 then(bif fits (y6.length+ [e2].length) 56 then
 Vr L (y0,y1,y2,(wR (y3+1)),y4,y5,(y6++[e2]),y7)else none)
 else(Vr L (y0,y1,y2,(wR (y3+1)),y4,y5,y6,y7))else none)
 else(some (y0,y4,y5,y6,y7))
theorem Qkd:OfL Vr Qix:=ofL 280 0
def Qir:rL Vo:=fun D L (y0,y1,y2,y3,y4,y5)=>
 bif (decide (y3<y2))then(bif inb y3 y1.length then
 let e6:=(rd1 Xx y1 y3);
 (QaG D e6.1).bind fun r7=>
 (Zv D (y0,r7)).bind fun r8=>
 bif r8 then(bif fits (y5.length+ [e6].length) 16 then
 Vo L (y0,y1,y2,(wR (y3+1)),y4,(y5++[e6]))else none)
 else(Vo L (y0,y1,y2,(wR (y3+1)),y4,y5))else none)
 else(some (y4,y5))
theorem QlE:OfL Vo Qir:=ofL 280 2
def Qpt:rF vx:=fun D L (a0,a1,a2)=>
 (XB D (a0,a1)).bind fun r1=>
 bif (!r1)then(some ([],[]))
 else((Vr L (a2,a0,(a0.length:Int),0,a0,a1,[],[])).bind fun z5=>
 (Vo L (z5.1,z5.2.2.1,(z5.2.2.1.length:Int),0,z5.2.2.2)).bind fun z9=>
 some z9)
theorem QAz:OfF vx Qpt:=ofF 280
def QnB:rF Qgr:=fun D L (a0,a1,a2,a3,a4,a5,a6)=>
 (Qd3 D (a1,a2,a3,a4,a5,a6)).bind fun r1=>
 bif (decide (r1<0))then(some (-1))
 else(some r1)
theorem QxX:OfF Qgr QnB:=ofF 281
def Qni:rF Qgq:=fun D L (a0,a1,a2,a3,a4,a5)=>
 (Qdv D (a1,a2,a3,a4,a5)).bind fun r1=>
 some (a0,r1)
theorem Qyx:OfF Qgq Qni:=ofF 282
def Qka:rF QcG:=fun D L (a0,a1)=>
 some (a0,a1)
theorem Qw5:OfF QcG Qka:=ofF 283
def QmA:rF Qf4:=fun D L (a0,a1,a2,a3,a4,a5,a6,a7,a8,a9,a10,a11)=>
 bif (!decide (a0=a6))then(some false)
 else((QcT D (a1,a2,a3,a4,a5,a7,a8,a9,a10,a11)).bind fun r1=>
 bif (!r1)then(some false)
 else(some true))
theorem Qyc:OfF Qf4 QmA:=ofF 284
def QlC:rF QdI:=fun D L (a0,a1,a2,a3)=>
 bif (!decide (a0=a2))then(some false)
 else(bif (!decide (a1=a3))then(some false)
 else(some true))
theorem QuJ:OfF QdI QlC:=ofF 285
def QoO:rF QeJ:=fun D L (a0,a1)=>
 bif (decide (a1<a0))then(some a0)
 else(some a1)
theorem QAs:OfF QeJ QoO:=ofF 286
def Qbb:rL Kj:=fun D L (y0,y1,y2,y3,y4,y5,y6,y7,y8,y9,y10,y11)=>
 bif (decide (y0<(y11.length:Int)))then(bif inb y0 y11.length then
 bif (!decide ((rd1 (0:Int) y11 y0)=0))then(bif inb y0 y11.length then
 some (Sum.inl (rd1 (0:Int) y11 y0))else none)
 else(Kj L ((wR (y0+1)),y1,y2,y3,y4,y5,y6,y7,y8,y9,y10,y11))else none)
 else(some (Sum.inr (y1,y2,y3,y4,y5,y6,y7,y8,y9,y10)))
theorem QeP:OfL Kj Qbb:=ofL 289 0
def QiQ:rF Vj:=fun D L (a0,a1,a2,a3,a4,a5,a6,a7,a8,a9)=>
 (zN D (a0,a5)).bind fun r1=>
 (zN D (a1,a6)).bind fun r2=>
 (zN D (a2,a7)).bind fun r3=>
 (zN D (a3,a8)).bind fun r4=>
 (Kj L (0,a0,a1,a2,a3,a4,a5,a6,a7,a8,a9,[r1,r2,r3,r4])).bind fun z5=>
 Qn z5 (fun u6=>
 some u6)
 (fun z7=>
 bif (Op.bytesLess (ByteArray.toList z7.2.2.2.2.1) (ByteArray.toList z7.2.2.2.2.2.2.2.2.2))then(some (-1))
 else((Qc9 D (!(Op.bytesLess (ByteArray.toList z7.2.2.2.2.1) (ByteArray.toList z7.2.2.2.2.2.2.2.2.2)||X0 z7.2.2.2.2.1 z7.2.2.2.2.2.2.2.2.2))).bind fun r8=>
 some r8))
theorem QtP:OfF Vj QiQ:=ofF 289
def QfK:rL Kk:=fun D L (y0,y1,y2,y3)=>
 bif (decide (y3<(y0.length:Int)))then(bif inb y3 y0.length then
 (QL D (y1,0,(wR (((List.length (rd1 ([]:List Int) y0 y3)):Int) - 1)))).bind fun r1=>
 bif (!r1)then(some (Sum.inl 0))
 else(bif (decide (y3=0))then(bif inb y3 y0.length then
 bif inb y1 (List.length (rd1 ([]:List Int) y0 y3))then
 Kk L (y0,y1,(rd1 (0:Int) (rd1 ([]:List Int) y0 y3) y1),(wR (y3+1)))else none else none)
 else(bif inb y3 y0.length then
 bif inb y1 (List.length (rd1 ([]:List Int) y0 y3))then
 bif (decide ((rd1 (0:Int) (rd1 ([]:List Int) y0 y3) y1)<y2))then(bif inb y3 y0.length then
 bif inb y1 (List.length (rd1 ([]:List Int) y0 y3))then
 Kk L (y0,y1,(rd1 (0:Int) (rd1 ([]:List Int) y0 y3) y1),(wR (y3+1)))else none else none)
 else(Kk L (y0,y1,y2,(wR (y3+1))))else none else none))else none)
 else(some (Sum.inr y2))
theorem Qja:OfL Kk QfK:=ofL 290 0
def Qm8:rF Qgp:=fun D L (a0,a1)=>
 bif (decide ((a0.length:Int)=0))then(some 0)
 else((Kk L (a0,a1,0,0)).bind fun z2=>
 Qn z2 (fun u3=>
 some u3)
 (fun z4=>
 some z4))
theorem QxZ:OfF Qgp Qm8:=ofF 290
def Qjb:rF QaW:=fun D L (a0,a1,a2,a3,a4,a5,a6,a7,a8,a9)=>
 (QaN D (a0,a1,a2,a3,a4,a5,a6,a7,a8,a9)).bind fun r1=>
 bif (decide (r1<0))then(some (a5,a6,a7,a8,a9))
 else(some (a0,a1,a2,a3,a4))
theorem Qt1:OfF QaW Qjb:=ofF 293
def Qfj:rL Ke:=fun D L (y0,y1,y2,y3,y4)=>
 bif (decide (y4<y3))then(bif inb y4 y2.length then
 (QA D (y0,0,(wR (((List.length (rd1 ([]:List Int) y2 y4)):Int) - 1)))).bind fun r1=>
 bif (!r1)then(some (Sum.inl 0))
 else(bif (decide (y4=0))then(bif inb y0 (List.length (rd1 ([]:List Int) y2 y4))then
 Ke L (y0,(rd1 (0:Int) (rd1 ([]:List Int) y2 y4) y0),y2,y3,(wR (y4+1)))else none)
 else(bif inb y0 (List.length (rd1 ([]:List Int) y2 y4))then
 bif (decide ((rd1 (0:Int) (rd1 ([]:List Int) y2 y4) y0)<y1))then(bif inb y0 (List.length (rd1 ([]:List Int) y2 y4))then
 Ke L (y0,(rd1 (0:Int) (rd1 ([]:List Int) y2 y4) y0),y2,y3,(wR (y4+1)))else none)
 else(Ke L (y0,y1,y2,y3,(wR (y4+1))))else none))else none)
 else(some (Sum.inr y1))
theorem Qji:OfL Ke Qfj:=ofL 294 0
def QmR:rF Qf1:=fun D L (a0,a1)=>
 (Ke L (a1,0,a0,(a0.length:Int),0)).bind fun z2=>
 Qn z2 (fun u3=>
 some u3)
 (fun z4=>
 some z4)
theorem Qy7:OfF Qf1 QmR:=ofF 294
def QnK:rF Qax:=fun D L a0=>
 (Kw D a0).bind fun r1=>
 bif (!r1)then(some (-1))
 else((Xs D a0).bind fun r2=>
 (Qa7 D r2).bind fun r3=>
 bif decide ((4:Int)≠0)then
 some (Int.tmod r3 4)else none)
theorem QxW:OfF Qax QnK:=ofF 295
def Qnx:rF QaG:=fun D L a0=>
 (Ko D a0).bind fun r1=>
 bif (!r1)then(some (-1))
 else((Q2 D a0).bind fun r2=>
 (Qbn D r2).bind fun r3=>
 bif decide ((4:Int)≠0)then
 some (Int.tmod r3 4)else none)
theorem QxD:OfF QaG Qnx:=ofF 296
def QkS:rF Qd3:=fun D L (a0,a1,a2,a3,a4,a5)=>
 bif (decide ((wR (a5 - ((ByteArray.size a4):Int)))<0))then(some (-1))
 else(some (wR (a5 - ((ByteArray.size a4):Int))))
theorem QvX:OfF Qd3 QkS:=ofF 297
def QkP:rF Qdv:=fun D L (a0,a1,a2,a3,a4)=>
 some (a0,a1,a2,a3,a4)
theorem Qv1:OfF Qdv QkP:=ofF 298
def Qk8:rF QcT:=fun D L (a0,a1,a2,a3,a4,a5,a6,a7,a8,a9)=>
 bif (!decide (a0=a5))then(some false)
 else(bif (!decide (a1=a6))then(some false)
 else(bif (!decide (a2=a7))then(some false)
 else(bif (!decide (a3=a8))then(some false)
 else(bif (!X0 a4 a9)then(some false)
 else(some true)))))
theorem Qxv:OfF QcT Qk8:=ofF 299
def Qov:rF zN:=fun D L (a0,a1)=>
 bif (decide (a0<a1))then(some (-1))
 else((Qc9 D (decide (a1<a0))).bind fun r1=>
 some r1)
theorem QAE:OfF zN Qov:=ofF 301
def Qx9:rF Qc9:=fun D L a0=>
 bif a0 then(some 1)
 else(some 0)
theorem QAm:OfF Qc9 Qx9:=ofF 302
def Qjk:rF QaN:=fun D L (a0,a1,a2,a3,a4,a5,a6,a7,a8,a9)=>
 (xn D (a0,a5)).bind fun r1=>
 (xn D (a1,a6)).bind fun r2=>
 (xn D (a2,a7)).bind fun r3=>
 (xn D (a3,a8)).bind fun r4=>
 (yV D (a4,a9)).bind fun r5=>
 (Qvv D [r1,r2,r3,r4,r5]).bind fun r6=>
 some r6
theorem QtX:OfF QaN Qjk:=ofF 303
def Qrx:rL Qhf:=fun D L (y0,y1,y2,y3)=>
 bif (decide (y3<y2))then(bif inb y3 y1.length then
 bif (!decide ((rd1 (0:Int) y1 y3)=y0))then(some (Sum.inl (rd1 (0:Int) y1 y3)))
 else(Qhf L (y0,y1,y2,(wR (y3+1))))else none)
 else(some (Sum.inr y0))
theorem Qq1:OfL Qhf Qrx:=ofL 304 0
def Qwa:rF Qvv:=fun D L a0=>
 (Qhf L (0,a0,(a0.length:Int),0)).bind fun z1=>
 Qn z1 (fun u2=>
 some u2)
 (fun z3=>
 some z3)
theorem QIp:OfF Qvv Qwa:=ofF 304
def Qm9:rF xn:=fun D L (a0,a1)=>
 (Qh0 D a0).bind fun r1=>
 (Qh0 D a1).bind fun r2=>
 bif r1 then(bif r2 then(some 0)
 else(some (-1)))
 else(bif r2 then(some 1)
 else(bif (decide (a0<a1))then(some (-1))
 else(bif (decide (a1<a0))then(some 1)
 else(some 0))))
theorem QyY:OfF xn Qm9:=ofF 305
def Qe2:rF yV:=fun D L (a0,a1)=>
 (Zz D (a0,a1)).bind fun r1=>
 some r1
theorem QrU:OfF yV Qe2:=ofF 306
def QqI:rF Qh0:=fun D L a0=>
 some (!decide (a0=a0))
theorem QBo:OfF Qh0 QqI:=ofF 307
def Qai:rF Zz:=fun _ _=>QJA
theorem QaH:OfF Zz Qai:=ofF 308
end
end Go.Proofs.YtiejfnbmficbmaaGreat.M
