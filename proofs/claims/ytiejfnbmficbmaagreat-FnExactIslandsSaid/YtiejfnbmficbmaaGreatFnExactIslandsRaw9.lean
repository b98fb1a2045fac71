/- Plain forms of the functions that FnExactIslands reaches, part 9. No conditions. -/
import Derived.Test.YtiejfnbmficbmaaGreatFnExactIslandsTab
set_option linter.all false
namespace Go.Proofs.YtiejfnbmficbmaaGreat.M
open Go Go.Eng Go.Proofs
set_option linter.unusedVariables false
noncomputable section
def Qk1:rF vo:=fun D L (a0,a1,a2)=>
 (Zw D (a0,a1)).bind fun r1=>
 bif (!r1)then(some 0)
 else((Kt D (a0,a1,a2)).bind fun r2=>
 bif (!r2.2.2.2.2.2)then((Ku D (a0,a1,a2)).bind fun r3=>
 some r3)
 else(bif (decide (r2.2.1=0))then(some (wR (r2.1 - 1)))
 else(some r2.1)))
theorem Qvi:OfF vo Qk1:=ofF 272
def Qlg:rF vx:=fun D L (a0,a1,a2)=>
 (XG D (a0,a1)).bind fun r1=>
 bif (!r1)then(some 0)
 else((xe D (a0,a1,a2)).bind fun r2=>
 bif (!r2.2.2.2.2.2)then((VP D (a0,a1,a2)).bind fun r3=>
 some r3)
 else(bif (decide (r2.2.1=1))then(some r2.1)
 else(some (wR (r2.1 - 1)))))
theorem QvY:OfF vx Qlg:=ofF 273
def QhQ:rF Jj:=fun D L (a0,a1,a2)=>
 bif fits (List.length ([]:List Int)+a0.length) 8 then
 (QE D (a1,0,(wR ((a0.length:Int) - 1)))).bind fun r1=>
 bif r1 then(bif inb a1 a0.length then
 bif (decide ((rd1 (0:Int) a0 a1)<a2))then(bif inb a1 (List.length (([]:List Int)++a0))then
 let l2:=List.set (([]:List Int)++a0) (Int.toNat a1) a2;
 some l2 else none)
 else(some (([]:List Int)++a0))else none)
 else(some (([]:List Int)++a0))else none
theorem Qr5:OfF Jj QhQ:=ofF 274
def Qnt:rF QbM:=fun D L (a0,a1)=>
 bif (decide (a0<a1))then(some a0)
 else(some a1)
theorem QxS:OfF QbM Qnt:=ofF 275
def QdQ:rL Z9:=fun D L (y0,y1,y2,y3,y4,y5)=>
 bif (decide (y0<4))then(bif (!decide ((y1.length:Int)=4))then(bif fits (y5.length+ [y0].length) 8 then
 Z9 L ((wR (y0+1)),y1,y2,y3,y4,(y5++[y0]))else none)
 else(bif (!decide ((y3.length:Int)=4))then(bif fits (y5.length+ [y0].length) 8 then
 Z9 L ((wR (y0+1)),y1,y2,y3,y4,(y5++[y0]))else none)
 else(bif inb y0 y1.length then
 bif inb y0 y3.length then
 bif (!decide ((rd1 (0:Int) y1 y0)=(rd1 (0:Int) y3 y0)))then(bif fits (y5.length+ [y0].length) 8 then
 Z9 L ((wR (y0+1)),y1,y2,y3,y4,(y5++[y0]))else none)
 else(Z9 L ((wR (y0+1)),y1,y2,y3,y4,y5))else none else none)))
 else(some y5)
theorem Qhd:OfL Z9 QdQ:=ofL 276 0
def QlB:rF vk:=fun D L (a0,a1,a2,a3)=>
 bif (decide (a1=a3))then(some [])
 else((Z9 L (0,a0,a1,a2,a3,[])).bind fun z1=>
 some z1)
theorem QvN:OfF vk QlB:=ofF 276
def Qc7:rL Yj:=fun D L (y0,y1,y2,y3,y4,y5)=>
 bif (decide (y1<(y2.length:Int)))then(bif inb y1 y2.length then
 let e1:=(rd1 XZ y2 y1);
 (vz D e1.1).bind fun r2=>
 (QcY D (y0,r2)).bind fun r3=>
 bif r3 then(bif inb y1 y2.length then
 let e4:=(rd1 XZ y2 y1);
 bif fits (y4.length+ [e4].length) 56 then
 Yj L (y0,(wR (y1+1)),y2,y3,(y4++[e4]),y5)else none else none)
 else(Yj L (y0,(wR (y1+1)),y2,y3,y4,y5))else none)
 else(some (y0,y2,y3,y4,y5))
theorem QfY:OfL Yj Qc7:=ofL 277 0
def Qbm:rL Yu:=fun D L (y0,y1,y2,y3,y4,y5)=>
 bif (decide (y1<(y3.length:Int)))then(bif inb y1 y3.length then
 let e6:=(rd1 XF y3 y1);
 (vz D e6.1).bind fun r7=>
 (QcY D (y0,r7)).bind fun r8=>
 bif r8 then(bif inb y1 y3.length then
 let e9:=(rd1 XF y3 y1);
 bif fits (y5.length+ [e9].length) 16 then
 Yu L (y0,(wR (y1+1)),y2,y3,y4,(y5++[e9]))else none else none)
 else(Yu L (y0,(wR (y1+1)),y2,y3,y4,y5))else none)
 else(some (y4,y5))
theorem QgB:OfL Yu Qbm:=ofL 277 2
def Qj0:rF qZ:=fun D L (a0,a1,a2)=>
 (Yj L (a2,0,a0,a1,[],[])).bind fun z5=>
 (Yu L (z5.1,0,z5.2)).bind fun z10=>
 some z10
theorem Qt3:OfF qZ Qj0:=ofF 277
def Qhz:rF Jc:=fun D L (a0,a1,a2)=>
 (Zx D a0).bind fun r1=>
 (QC D (a1,0,(wR ((a0.length:Int) - 1)))).bind fun r2=>
 bif r2 then(bif inb a1 a0.length then
 bif inb a1 r1.length then
 let l3:=List.set r1 (Int.toNat a1) (mxI (rd1 (0:Int) a0 a1) a2);
 some l3 else none else none)
 else(some r1)
theorem Qsg:OfF Jc Qhz:=ofF 278
def QdY:rL Ya:=fun D L (y0,y1,y2,y3,y4,y5,y6)=>
 bif (decide (y1<4))then(bif (!y0)then(bif fits (y6.length+ [y1].length) 8 then
 Ya L (y0,(wR (y1+1)),y2,y3,y4,y5,(y6++[y1]))else none)
 else(bif inb y1 y2.length then
 bif inb y1 y4.length then
 bif (!decide ((rd1 (0:Int) y2 y1)=(rd1 (0:Int) y4 y1)))then(bif fits (y6.length+ [y1].length) 8 then
 Ya L (y0,(wR (y1+1)),y2,y3,y4,y5,(y6++[y1]))else none)
 else(Ya L (y0,(wR (y1+1)),y2,y3,y4,y5,y6))else none else none))
 else(some y6)
theorem QhR:OfL Ya QdY:=ofL 279 0
def Qk5:rF vj:=fun D L (a0,a1,a2,a3)=>
 bif (decide (a1=a3))then(some [])
 else(bif (decide ((a0.length:Int)=4))then((Ya L ((decide ((a2.length:Int)=4)),0,a0,a1,a2,a3,[])).bind fun z1=>
 some z1)
 else((Ya L (false,0,a0,a1,a2,a3,[])).bind fun z2=>
 some z2))
theorem Qvr:OfF vj Qk5:=ofF 279
def QgS:rL KW:=fun D L (y0,y1,y2,y3,y4,y5,y6,y7)=>
 bif (decide (y3<y2))then(bif inb y3 y1.length then
 let e2:=(rd1 XZ y1 y3);
 (vA D e2.1).bind fun r3=>
 (ZV D (y0,r3)).bind fun r4=>
 bif r4 then(bif fits (y6.length+ [e2].length) 56 then
 KW L (y0,y1,y2,(wR (y3+1)),y4,y5,(y6++[e2]),y7)else none)
 else(KW L (y0,y1,y2,(wR (y3+1)),y4,y5,y6,y7))else none)
 else(some (y0,y4,y5,y6,y7))
theorem QiQ:OfL KW QgS:=ofL 280 0
def Qg4:rL K0:=fun D L (y0,y1,y2,y3,y4,y5)=>
 bif (decide (y3<y2))then(bif inb y3 y1.length then
 let e6:=(rd1 XF y1 y3);
 (vA D e6.1).bind fun r7=>
 (ZV D (y0,r7)).bind fun r8=>
 bif r8 then(bif fits (y5.length+ [e6].length) 16 then
 K0 L (y0,y1,y2,(wR (y3+1)),y4,(y5++[e6]))else none)
 else(K0 L (y0,y1,y2,(wR (y3+1)),y4,y5))else none)
 else(some (y4,y5))
theorem QjD:OfL K0 Qg4:=ofL 280 2
def QnO:rF yU:=fun D L (a0,a1,a2)=>
 (XG D (a0,a1)).bind fun r1=>
 bif (!r1)then(some ([],[]))
 else((KW L (a2,a0,(a0.length:Int),0,a0,a1,[],[])).bind fun z5=>
 (K0 L (z5.1,z5.2.2.1,(z5.2.2.1.length:Int),0,z5.2.2.2)).bind fun z9=>
 some z9)
theorem QxC:OfF yU QnO:=ofF 280
def QlX:rF Qes:=fun D L (a0,a1,a2,a3,a4,a5,a6)=>
 (QaU D (a1,a2,a3,a4,a5,a6)).bind fun r1=>
 bif (decide (r1<0))then(some (-1))
 else(some r1)
theorem Qv8:OfF Qes QlX:=ofF 281
def Qk9:rF QeJ:=fun D L (a0,a1,a2,a3,a4,a5)=>
 (QaW D (a1,a2,a3,a4,a5)).bind fun r1=>
 some (a0,r1)
theorem QvJ:OfF QeJ Qk9:=ofF 282
def QiX:rF QbA:=fun D L (a0,a1)=>
 some (a0,a1)
theorem Qto:OfF QbA QiX:=ofF 283
def Qly:rF QeE:=fun D L (a0,a1,a2,a3,a4,a5,a6,a7,a8,a9,a10,a11)=>
 bif (!decide (a0=a6))then(some false)
 else((QcP D (a1,a2,a3,a4,a5,a7,a8,a9,a10,a11)).bind fun r1=>
 bif (!r1)then(some false)
 else(some true))
theorem Qws:OfF QeE Qly:=ofF 284
def Qkn:rF QaP:=fun D L (a0,a1,a2,a3)=>
 bif (!decide (a0=a2))then(some false)
 else(bif (!decide (a1=a3))then(some false)
 else(some true))
theorem Qu9:OfF QaP Qkn:=ofF 285
def Qnr:rF Qa7:=fun D L (a0,a1)=>
 bif (decide (a1<a0))then(some a0)
 else(some a1)
theorem QxA:OfF Qa7 Qnr:=ofF 286
def v8:rL YX:=fun D L (y0,y1,y2,y3,y4,y5,y6,y7,y8,y9,y10,y11)=>
 bif (decide (y0<(y11.length:Int)))then(bif inb y0 y11.length then
 bif (!decide ((rd1 (0:Int) y11 y0)=0))then(bif inb y0 y11.length then
 some (Sum.inl (rd1 (0:Int) y11 y0))else none)
 else(YX L ((wR (y0+1)),y1,y2,y3,y4,y5,y6,y7,y8,y9,y10,y11))else none)
 else(some (Sum.inr (y1,y2,y3,y4,y5,y6,y7,y8,y9,y10)))
theorem Qdy:OfL YX v8:=ofL 289 0
def Qhj:rF KY:=fun D L (a0,a1,a2,a3,a4,a5,a6,a7,a8,a9)=>
 (xP D (a0,a5)).bind fun r1=>
 (xP D (a1,a6)).bind fun r2=>
 (xP D (a2,a7)).bind fun r3=>
 (xP D (a3,a8)).bind fun r4=>
 (YX L (0,a0,a1,a2,a3,a4,a5,a6,a7,a8,a9,[r1,r2,r3,r4])).bind fun z5=>
 Qp z5 (fun u6=>
 some u6)
 (fun z7=>
 bif (Op.bytesLess (ByteArray.toList z7.2.2.2.2.1) (ByteArray.toList z7.2.2.2.2.2.2.2.2.2))then(some (-1))
 else((Qc9 D (!(Op.bytesLess (ByteArray.toList z7.2.2.2.2.1) (ByteArray.toList z7.2.2.2.2.2.2.2.2.2)||V1 z7.2.2.2.2.1 z7.2.2.2.2.2.2.2.2.2))).bind fun r8=>
 some r8))
theorem QsI:OfF KY Qhj:=ofF 289
def Qd4:rL YY:=fun D L (y0,y1,y2,y3)=>
 bif (decide (y3<(y0.length:Int)))then(bif inb y3 y0.length then
 (QE D (y1,0,(wR (((List.length (rd1 ([]:List Int) y0 y3)):Int) - 1)))).bind fun r1=>
 bif (!r1)then(some (Sum.inl 0))
 else(bif (decide (y3=0))then(bif inb y3 y0.length then
 bif inb y1 (List.length (rd1 ([]:List Int) y0 y3))then
 YY L (y0,y1,(rd1 (0:Int) (rd1 ([]:List Int) y0 y3) y1),(wR (y3+1)))else none else none)
 else(bif inb y3 y0.length then
 bif inb y1 (List.length (rd1 ([]:List Int) y0 y3))then
 bif (decide ((rd1 (0:Int) (rd1 ([]:List Int) y0 y3) y1)<y2))then(bif inb y3 y0.length then
 bif inb y1 (List.length (rd1 ([]:List Int) y0 y3))then
 YY L (y0,y1,(rd1 (0:Int) (rd1 ([]:List Int) y0 y3) y1),(wR (y3+1)))else none else none)
 else(YY L (y0,y1,y2,(wR (y3+1))))else none else none))else none)
 else(some (Sum.inr y2))
theorem QhT:OfL YY Qd4:=ofL 290 0
def Qk2:rF Qe5:=fun D L (a0,a1)=>
 bif (decide ((a0.length:Int)=0))then(some 0)
 else((YY L (a0,a1,0,0)).bind fun z2=>
 Qp z2 (fun u3=>
 some u3)
 (fun z4=>
 some z4))
theorem QwM:OfF Qe5 Qk2:=ofF 290
def Qhp:rF vI:=fun D L (a0,a1,a2,a3,a4,a5,a6,a7,a8,a9)=>
 (vH D (a0,a1,a2,a3,a4,a5,a6,a7,a8,a9)).bind fun r1=>
 bif (decide (r1<0))then(some (a5,a6,a7,a8,a9))
 else(some (a0,a1,a2,a3,a4))
theorem Qsz:OfF vI Qhp:=ofF 293
def Qeg:rL Y3:=fun D L (y0,y1,y2,y3,y4)=>
 bif (decide (y4<y3))then(bif inb y4 y2.length then
 (QC D (y0,0,(wR (((List.length (rd1 ([]:List Int) y2 y4)):Int) - 1)))).bind fun r1=>
 bif (!r1)then(some (Sum.inl 0))
 else(bif (decide (y4=0))then(bif inb y0 (List.length (rd1 ([]:List Int) y2 y4))then
 Y3 L (y0,(rd1 (0:Int) (rd1 ([]:List Int) y2 y4) y0),y2,y3,(wR (y4+1)))else none)
 else(bif inb y0 (List.length (rd1 ([]:List Int) y2 y4))then
 bif (decide ((rd1 (0:Int) (rd1 ([]:List Int) y2 y4) y0)<y1))then(bif inb y0 (List.length (rd1 ([]:List Int) y2 y4))then
 Y3 L (y0,(rd1 (0:Int) (rd1 ([]:List Int) y2 y4) y0),y2,y3,(wR (y4+1)))else none)
 else(Y3 L (y0,y1,y2,y3,(wR (y4+1))))else none))else none)
 else(some (Sum.inr y1))
theorem Qhx:OfL Y3 Qeg:=ofL 294 0
def Ql4:rF Qez:=fun D L (a0,a1)=>
 (Y3 L (a1,0,a0,(a0.length:Int),0)).bind fun z2=>
 Qp z2 (fun u3=>
 some u3)
 (fun z4=>
 some z4)
theorem QvD:OfF Qez Ql4:=ofF 294
def Qln:rF vz:=fun D L a0=>
 (Kb D a0).bind fun r1=>
 bif (!r1)then(some (-1))
 else((ZK D a0).bind fun r2=>
 (QdX D r2).bind fun r3=>
 bif decide ((4:Int)≠0)then
 some (Int.tmod r3 4)else none)
theorem QvA:OfF vz Qln:=ofF 295
def Qk7:rF vA:=fun D L a0=>
 (Kf D a0).bind fun r1=>
 bif (!r1)then(some (-1))
 else((XN D a0).bind fun r2=>
 (Qee D r2).bind fun r3=>
 bif decide ((4:Int)≠0)then
 some (Int.tmod r3 4)else none)
theorem Qvw:OfF vA Qk7:=ofF 296
def Qi5:rF QaU:=fun D L (a0,a1,a2,a3,a4,a5)=>
 bif (decide ((wR (a5 - ((ByteArray.size a4):Int)))<0))then(some (-1))
 else(some (wR (a5 - ((ByteArray.size a4):Int))))
theorem QtY:OfF QaU Qi5:=ofF 297
def QkD:rF QaW:=fun D L (a0,a1,a2,a3,a4)=>
 some (a0,a1,a2,a3,a4)
theorem Qtq:OfF QaW QkD:=ofF 298
def Qir:rF QcP:=fun D L (a0,a1,a2,a3,a4,a5,a6,a7,a8,a9)=>
 bif (!decide (a0=a5))then(some false)
 else(bif (!decide (a1=a6))then(some false)
 else(bif (!decide (a2=a7))then(some false)
 else(bif (!decide (a3=a8))then(some false)
 else(bif (!V1 a4 a9)then(some false)
 else(some true)))))
theorem Qu7:OfF QcP Qir:=ofF 299
def Qnk:rF xP:=fun D L (a0,a1)=>
 bif (decide (a0<a1))then(some (-1))
 else((Qc9 D (decide (a1<a0))).bind fun r1=>
 some r1)
theorem QxW:OfF xP Qnk:=ofF 301
def Qv6:rF Qc9:=fun D L a0=>
 bif a0 then(some 1)
 else(some 0)
theorem QxI:OfF Qc9 Qv6:=ofF 302
def Qhw:rF vH:=fun D L (a0,a1,a2,a3,a4,a5,a6,a7,a8,a9)=>
 (ql D (a0,a5)).bind fun r1=>
 (ql D (a1,a6)).bind fun r2=>
 (ql D (a2,a7)).bind fun r3=>
 (ql D (a3,a8)).bind fun r4=>
 (zR D (a4,a9)).bind fun r5=>
 (Qub D [r1,r2,r3,r4,r5]).bind fun r6=>
 some r6
theorem Qsm:OfF vH Qhw:=ofF 303
def QpQ:rL Qgj:=fun D L (y0,y1,y2,y3)=>
 bif (decide (y3<y2))then(bif inb y3 y1.length then
 bif (!decide ((rd1 (0:Int) y1 y3)=y0))then(some (Sum.inl (rd1 (0:Int) y1 y3)))
 else(Qgj L (y0,y1,y2,(wR (y3+1))))else none)
 else(some (Sum.inr y0))
theorem Qp9:OfL Qgj QpQ:=ofL 304 0
def Qu1:rF Qub:=fun D L a0=>
 (Qgj L (0,a0,(a0.length:Int),0)).bind fun z1=>
 Qp z1 (fun u2=>
 some u2)
 (fun z3=>
 some z3)
theorem QFr:OfF Qub Qu1:=ofF 304
def Qmm:rF ql:=fun D L (a0,a1)=>
 (QfC D a0).bind fun r1=>
 (QfC D a1).bind fun r2=>
 bif r1 then(bif r2 then(some 0)
 else(some (-1)))
 else(bif r2 then(some 1)
 else(bif (decide (a0<a1))then(some (-1))
 else(bif (decide (a1<a0))then(some 1)
 else(some 0))))
theorem Qwz:OfF ql Qmm:=ofF 305
def Qdt:rF zR:=fun D L (a0,a1)=>
 (Zn D (a0,a1)).bind fun r1=>
 some r1
theorem QpH:OfF zR Qdt:=ofF 306
def Qpe:rF QfC:=fun D L a0=>
 some (!decide (a0=a0))
theorem Qy8:OfF QfC Qpe:=ofF 307
def jK:rF Zn:=fun _ _=>QGT
theorem vt:OfF Zn jK:=ofF 308
def xx:rL Yb:=fun D L (y0,y1,y2,y3,y4,y5)=>
 bif (decide (y1<y0))then((XS L (y1,y0,y1,(y2.length:Int),0,y2,y3,y4,y5)).bind fun z3=>
 Yb L (z3.1,(wR (z3.2.1+1)),z3.2.2))
 else(some (y2,y3,y4,y5))
theorem yE:OfL Yb xx:=ofL 2057 0
def xi:rL XS:=fun D L (y0,y1,y2,y3,y4,y5,y6,y7,y8)=>
 bif (decide (y4<y3))then(bif (!decide (y0=y4))then((jF D (y0,y4,y8)).bind fun r1=>
 bif r1 then((vS D (y5,y6,y7,y0,y4)).bind fun r2=>
 XS L (y0,y1,y2,y3,(wR (y4+1)),r2.1,r2.2.1,r2.2.2.1,y8))
 else(XS L (y0,y1,y2,y3,(wR (y4+1)),y5,y6,y7,y8)))
 else(XS L (y0,y1,y2,y3,(wR (y4+1)),y5,y6,y7,y8)))
 else(some (y1,y2,y5,y6,y7,y8))
theorem yK:OfL XS xi:=ofL 2057 2
def vi:rF Jo:=fun D L (a0,a1,a2,a3)=>
 (Yb L ((a0.length:Int),0,a0,a1,a2,a3)).bind fun z4=>
 some (z4.1,z4.2.1,z4.2.2.1)
theorem Qni:OfF Jo vi:=ofF 2057
end
end Go.Proofs.YtiejfnbmficbmaaGreat.M
