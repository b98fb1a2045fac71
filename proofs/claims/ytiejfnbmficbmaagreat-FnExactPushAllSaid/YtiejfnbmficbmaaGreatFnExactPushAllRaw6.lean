/- Plain forms of the functions that FnExactPushAll reaches, part 6. No conditions. -/
import Derived.Test.YtiejfnbmficbmaaGreatFnExactPushAllTab
set_option linter.all false
namespace Go.Proofs.YtiejfnbmficbmaaGreat.M
open Go Go.Eng Go.Proofs
set_option linter.unusedVariables false
noncomputable section
def yy:rL X1:=fun D L (y0,y1,y2,y3,y4,y5,y6)=>
 bif (decide (y0<5))then((J0 D (y1,y2,y0)).bind fun r1=>
 (J0 D (y3,y4,y0)).bind fun r2=>
 (yZ D (r1.1,r1.2.1,r1.2.2.1,r1.2.2.2.1,r1.2.2.2.2.1,r2.1,r2.2.1,r2.2.2.1,r2.2.2.2.1,r2.2.2.2.2.1)).bind fun r3=>
 (Ve D (y1,y2,y0)).bind fun r4=>
 (Ve D (y3,y4,y0)).bind fun r5=>
 bif (decide ((mxI r4 r5)<r3.1))then(bif fits (y5.length+ [(y0,r3)].length) 56 then
 bif (decide (0<(mxI r4 r5)))then(bif fits (y6.length+ [(y0,(mxI r4 r5))].length) 16 then
 X1 L ((wR (y0+1)),y1,y2,y3,y4,(y5++[(y0,r3)]),(y6++[(y0,(mxI r4 r5))]))else none)
 else(X1 L ((wR (y0+1)),y1,y2,y3,y4,(y5++[(y0,r3)]),y6))else none)
 else(bif (decide (0<(mxI r4 r5)))then(bif fits (y6.length+ [(y0,(mxI r4 r5))].length) 16 then
 X1 L ((wR (y0+1)),y1,y2,y3,y4,y5,(y6++[(y0,(mxI r4 r5))]))else none)
 else(X1 L ((wR (y0+1)),y1,y2,y3,y4,y5,y6))))
 else(some (y5,y6))
theorem vW:OfL X1 yy:=ofL 269 0
def QdU:rF JQ:=fun D L (a0,a1,a2,a3)=>
 (X1 L (0,a0,a1,a2,a3,[],[])).bind fun z6=>
 some z6
theorem QnI:OfF JQ QdU:=ofF 269
def QiV:rF QcJ:=fun D L (a0,a1,a2)=>
 (Zs D (a0,a1)).bind fun r1=>
 bif (!r1)then(some 0)
 else((YE D (a0,a1,a2)).bind fun r2=>
 bif (!r2.2.2.2.2.2)then((YF D (a0,a1,a2)).bind fun r3=>
 some r3)
 else(bif (decide (r2.2.1=0))then(some (wR (r2.1 - 1)))
 else(some r2.1)))
theorem Qsk:OfF QcJ QiV:=ofF 272
def QiD:rF QcQ:=fun D L (a0,a1,a2)=>
 (XT D (a0,a1)).bind fun r1=>
 bif (!r1)then(some 0)
 else((J0 D (a0,a1,a2)).bind fun r2=>
 bif (!r2.2.2.2.2.2)then((Ve D (a0,a1,a2)).bind fun r3=>
 some r3)
 else(bif (decide (r2.2.1=1))then(some r2.1)
 else(some (wR (r2.1 - 1)))))
theorem Qsz:OfF QcQ QiD:=ofF 273
def QbL:rL ZK:=fun D L (y0,y1,y2,y3,y4,y5)=>
 bif (decide (y1<(y2.length:Int)))then(bif inb y1 y2.length then
 let e1:=(rd1 XU y2 y1);
 (yH D e1.1).bind fun r2=>
 (QaG D (y0,r2)).bind fun r3=>
 bif r3 then(bif inb y1 y2.length then
 let e4:=(rd1 XU y2 y1);
 bif fits (y4.length+ [e4].length) 56 then
 ZK L (y0,(wR (y1+1)),y2,y3,(y4++[e4]),y5)else none else none)
 else(ZK L (y0,(wR (y1+1)),y2,y3,y4,y5))else none)
 else(some (y0,y2,y3,y4,y5))
theorem QeF:OfL ZK QbL:=ofL 277 0
def vR:rL ZN:=fun D L (y0,y1,y2,y3,y4,y5)=>
 bif (decide (y1<(y3.length:Int)))then(bif inb y1 y3.length then
 let e6:=(rd1 Xy y3 y1);
 (yH D e6.1).bind fun r7=>
 (QaG D (y0,r7)).bind fun r8=>
 bif r8 then(bif inb y1 y3.length then
 let e9:=(rd1 Xy y3 y1);
 bif fits (y5.length+ [e9].length) 16 then
 ZN L (y0,(wR (y1+1)),y2,y3,y4,(y5++[e9]))else none else none)
 else(ZN L (y0,(wR (y1+1)),y2,y3,y4,y5))else none)
 else(some (y4,y5))
theorem Qec:OfL ZN vR:=ofL 277 2
def Qhk:rF vJ:=fun D L (a0,a1,a2)=>
 (ZK L (a2,0,a0,a1,[],[])).bind fun z5=>
 (ZN L (z5.1,0,z5.2)).bind fun z10=>
 some z10
theorem Qq5:OfF vJ Qhk:=ofF 277
def Qe5:rL Kf:=fun D L (y0,y1,y2,y3,y4,y5,y6,y7)=>
 bif (decide (y3<y2))then(bif inb y3 y1.length then
 let e2:=(rd1 XU y1 y3);
 (yF D e2.1).bind fun r3=>
 (Zo D (y0,r3)).bind fun r4=>
 bif r4 then(bif fits (y6.length+ [e2].length) 56 then
 Kf L (y0,y1,y2,(wR (y3+1)),y4,y5,(y6++[e2]),y7)else none)
 else(Kf L (y0,y1,y2,(wR (y3+1)),y4,y5,y6,y7))else none)
 else(some (y0,y4,y5,y6,y7))
theorem Qhs:OfL Kf Qe5:=ofL 280 0
def Qfi:rL Kd:=fun D L (y0,y1,y2,y3,y4,y5)=>
 bif (decide (y3<y2))then(bif inb y3 y1.length then
 let e6:=(rd1 Xy y1 y3);
 (yF D e6.1).bind fun r7=>
 (Zo D (y0,r7)).bind fun r8=>
 bif r8 then(bif fits (y5.length+ [e6].length) 16 then
 Kd L (y0,y1,y2,(wR (y3+1)),y4,(y5++[e6]))else none)
 else(Kd L (y0,y1,y2,(wR (y3+1)),y4,y5))else none)
 else(some (y4,y5))
theorem Qg3:OfL Kd Qfi:=ofL 280 2
def Qk2:rF Qgd:=fun D L (a0,a1,a2)=>
 (XT D (a0,a1)).bind fun r1=>
 bif (!r1)then(some ([],[]))
 else((Kf L (a2,a0,(a0.length:Int),0,a0,a1,[],[])).bind fun z5=>
 (Kd L (z5.1,z5.2.2.1,(z5.2.2.1.length:Int),0,z5.2.2.2)).bind fun z9=>
 some z9)
theorem Quk:OfF Qgd Qk2:=ofF 280
def QiC:rF QcO:=fun D L (a0,a1,a2,a3,a4,a5,a6)=>
 (Qbf D (a1,a2,a3,a4,a5,a6)).bind fun r1=>
 bif (decide (r1<0))then(some (-1))
 else(some r1)
theorem QsD:OfF QcO QiC:=ofF 281
def Qjx:rF QcH:=fun D L (a0,a1,a2,a3,a4,a5)=>
 (Qbo D (a1,a2,a3,a4,a5)).bind fun r1=>
 some (a0,r1)
theorem Qsl:OfF QcH Qjx:=ofF 282
def QgV:rF vz:=fun D L (a0,a1)=>
 some (a0,a1)
theorem Qrm:OfF vz QgV:=ofF 283
def QiW:rF QcZ:=fun D L (a0,a1,a2,a3,a4,a5,a6,a7,a8,a9,a10,a11)=>
 bif (!decide (a0=a6))then(some false)
 else((vK D (a1,a2,a3,a4,a5,a7,a8,a9,a10,a11)).bind fun r1=>
 bif (!r1)then(some false)
 else(some true))
theorem Qsg:OfF QcZ QiW:=ofF 284
def Qg6:rF j7:=fun D L (a0,a1,a2,a3)=>
 bif (!decide (a0=a2))then(some false)
 else(bif (!decide (a1=a3))then(some false)
 else(some true))
theorem Qp3:OfF j7 Qg6:=ofF 285
def QkC:rF Qf6:=fun D L (a0,a1)=>
 bif (decide (a1<a0))then(some a0)
 else(some a1)
theorem QtX:OfF Qf6 QkC:=ofF 286
def jt:rL Yn:=fun D L (y0,y1,y2,y3,y4,y5,y6,y7,y8,y9,y10,y11)=>
 bif (decide (y0<(y11.length:Int)))then(bif inb y0 y11.length then
 bif (!decide ((rd1 (0:Int) y11 y0)=0))then(bif inb y0 y11.length then
 some (Sum.inl (rd1 (0:Int) y11 y0))else none)
 else(Yn L ((wR (y0+1)),y1,y2,y3,y4,y5,y6,y7,y8,y9,y10,y11))else none)
 else(some (Sum.inr (y1,y2,y3,y4,y5,y6,y7,y8,y9,y10)))
theorem Qb7:OfL Yn jt:=ofL 289 0
def QfU:rF Ke:=fun D L (a0,a1,a2,a3,a4,a5,a6,a7,a8,a9)=>
 (qw D (a0,a5)).bind fun r1=>
 (qw D (a1,a6)).bind fun r2=>
 (qw D (a2,a7)).bind fun r3=>
 (qw D (a3,a8)).bind fun r4=>
 (Yn L (0,a0,a1,a2,a3,a4,a5,a6,a7,a8,a9,[r1,r2,r3,r4])).bind fun z5=>
 Qq z5 (fun u6=>
 some u6)
 (fun z7=>
 bif (Op.bytesLess (ByteArray.toList z7.2.2.2.2.1) (ByteArray.toList z7.2.2.2.2.2.2.2.2.2))then(some (-1))
 else((Qbu D (!(Op.bytesLess (ByteArray.toList z7.2.2.2.2.1) (ByteArray.toList z7.2.2.2.2.2.2.2.2.2)||Vc z7.2.2.2.2.1 z7.2.2.2.2.2.2.2.2.2))).bind fun r8=>
 some r8))
theorem QoN:OfF Ke QfU:=ofF 289
def QfL:rF yZ:=fun D L (a0,a1,a2,a3,a4,a5,a6,a7,a8,a9)=>
 (yU D (a0,a1,a2,a3,a4,a5,a6,a7,a8,a9)).bind fun r1=>
 bif (decide (r1<0))then(some (a5,a6,a7,a8,a9))
 else(some (a0,a1,a2,a3,a4))
theorem QoW:OfF yZ QfL:=ofF 293
def Qi7:rF yH:=fun D L a0=>
 (Yw D a0).bind fun r1=>
 bif (!r1)then(some (-1))
 else((Xf D a0).bind fun r2=>
 (jl D r2).bind fun r3=>
 bif decide ((4:Int)≠0)then
 some (Int.tmod r3 4)else none)
theorem QsK:OfF yH Qi7:=ofF 295
def QiG:rF yF:=fun D L a0=>
 (Yy D a0).bind fun r1=>
 bif (!r1)then(some (-1))
 else((QU D a0).bind fun r2=>
 (ji D r2).bind fun r3=>
 bif decide ((4:Int)≠0)then
 some (Int.tmod r3 4)else none)
theorem Qr0:OfF yF QiG:=ofF 296
def Qgy:rF Qbf:=fun D L (a0,a1,a2,a3,a4,a5)=>
 bif (decide ((wR (a5 - ((ByteArray.size a4):Int)))<0))then(some (-1))
 else(some (wR (a5 - ((ByteArray.size a4):Int))))
theorem QqF:OfF Qbf Qgy:=ofF 297
def QgT:rF Qbo:=fun D L (a0,a1,a2,a3,a4)=>
 some (a0,a1,a2,a3,a4)
theorem Qp7:OfF Qbo QgT:=ofF 298
def Qhf:rF vK:=fun D L (a0,a1,a2,a3,a4,a5,a6,a7,a8,a9)=>
 bif (!decide (a0=a5))then(some false)
 else(bif (!decide (a1=a6))then(some false)
 else(bif (!decide (a2=a7))then(some false)
 else(bif (!decide (a3=a8))then(some false)
 else(bif (!Vc a4 a9)then(some false)
 else(some true)))))
theorem QqJ:OfF vK Qhf:=ofF 299
def QkA:rF qw:=fun D L (a0,a1)=>
 bif (decide (a0<a1))then(some (-1))
 else((Qbu D (decide (a1<a0))).bind fun r1=>
 some r1)
theorem Qt8:OfF qw QkA:=ofF 301
def QrL:rF Qbu:=fun D L a0=>
 bif a0 then(some 1)
 else(some 0)
theorem QtY:OfF Qbu QrL:=ofF 302
def QfJ:rF yU:=fun D L (a0,a1,a2,a3,a4,a5,a6,a7,a8,a9)=>
 (Jy D (a0,a5)).bind fun r1=>
 (Jy D (a1,a6)).bind fun r2=>
 (Jy D (a2,a7)).bind fun r3=>
 (Jy D (a3,a8)).bind fun r4=>
 (xD D (a4,a9)).bind fun r5=>
 (Qrn D [r1,r2,r3,r4,r5]).bind fun r6=>
 some r6
theorem QoJ:OfF yU QfJ:=ofF 303
def QmB:rL QdN:=fun D L (y0,y1,y2,y3)=>
 bif (decide (y3<y2))then(bif inb y3 y1.length then
 bif (!decide ((rd1 (0:Int) y1 y3)=y0))then(some (Sum.inl (rd1 (0:Int) y1 y3)))
 else(QdN L (y0,y1,y2,(wR (y3+1))))else none)
 else(some (Sum.inr y0))
theorem Qm6:OfL QdN QmB:=ofL 304 0
def Qpw:rF Qrn:=fun D L a0=>
 (QdN L (0,a0,(a0.length:Int),0)).bind fun z1=>
 Qq z1 (fun u2=>
 some u2)
 (fun z3=>
 some z3)
theorem QBy:OfF Qrn Qpw:=ofF 304
def Qi1:rF Jy:=fun D L (a0,a1)=>
 (Qd6 D a0).bind fun r1=>
 (Qd6 D a1).bind fun r2=>
 bif r1 then(bif r2 then(some 0)
 else(some (-1)))
 else(bif r2 then(some 1)
 else(bif (decide (a0<a1))then(some (-1))
 else(bif (decide (a1<a0))then(some 1)
 else(some 0))))
theorem QrK:OfF Jy Qi1:=ofF 305
def Qca:rF xD:=fun D L (a0,a1)=>
 (X6 D (a0,a1)).bind fun r1=>
 some r1
theorem QmD:OfF xD Qca:=ofF 306
def Ql8:rF Qd6:=fun D L a0=>
 some (!decide (a0=a0))
theorem Qu8:OfF Qd6 Ql8:=ofF 307
def yx:rF X6:=fun _ _=>QCN
theorem yL:OfF X6 yx:=ofF 308
end
end Go.Proofs.YtiejfnbmficbmaaGreat.M
