/- Plain forms of the functions that FnExactAuto reaches, part 10. No conditions. -/
import Derived.Test.YtiejfnbmficbmaaGreatFnExactAutoTab
set_option linter.all false
namespace Go.Proofs.YtiejfnbmficbmaaGreat.M
open Go Go.Eng Go.Proofs
set_option linter.unusedVariables false
noncomputable section
def Qg3:rL K8:=fun D L (y0,y1,y2,y3,y4,y5,y6,y7)=>
 bif (decide (y3<y2))then(bif inb y3 y1.length then
 let e2:=(rd1 XV y1 y3);
 (vx D e2.1).bind fun r3=>
 (Z1 D (y0,r3)).bind fun r4=>
 bif r4 then(bif fits (y6.length+ [e2].length) 56 then
 K8 L (y0,y1,y2,(wR (y3+1)),y4,y5,(y6++[e2]),y7)else none)
 else(K8 L (y0,y1,y2,(wR (y3+1)),y4,y5,y6,y7))else none)
 else(some (y0,y4,y5,y6,y7))
theorem Qj4:OfL K8 Qg3:=ofL 280 0
def QgW:rL Vc:=fun D L (y0,y1,y2,y3,y4,y5)=>
 bif (decide (y3<y2))then(bif inb y3 y1.length then
 let e6:=(rd1 XP y1 y3);
 (vx D e6.1).bind fun r7=>
 (Z1 D (y0,r7)).bind fun r8=>
 bif r8 then(bif fits (y5.length+ [e6].length) 16 then
 Vc L (y0,y1,y2,(wR (y3+1)),y4,(y5++[e6]))else none)
 else(Vc L (y0,y1,y2,(wR (y3+1)),y4,y5))else none)
 else(some (y4,y5))
theorem QkG:OfL Vc QgW:=ofL 280 2
def QnW:rF js:=fun D L (a0,a1,a2)=>
 (Xs D (a0,a1)).bind fun r1=>
 bif (!r1)then(some ([],[]))
 else((K8 L (a2,a0,(a0.length:Int),0,a0,a1,[],[])).bind fun z5=>
 (Vc L (z5.1,z5.2.2.1,(z5.2.2.1.length:Int),0,z5.2.2.2)).bind fun z9=>
 some z9)
theorem QyJ:OfF js QnW:=ofF 280
def Qmz:rF Qfe:=fun D L (a0,a1,a2,a3,a4,a5,a6)=>
 (Qdk D (a1,a2,a3,a4,a5,a6)).bind fun r1=>
 bif (decide (r1<0))then(some (-1))
 else(some r1)
theorem QwI:OfF Qfe Qmz:=ofF 281
def QmA:rF Qe2:=fun D L (a0,a1,a2,a3,a4,a5)=>
 (Qbr D (a1,a2,a3,a4,a5)).bind fun r1=>
 some (a0,r1)
theorem Qw1:OfF Qe2 QmA:=ofF 282
def QjG:rF QcK:=fun D L (a0,a1)=>
 some (a0,a1)
theorem QuR:OfF QcK QjG:=ofF 283
def QlX:rF QeF:=fun D L (a0,a1,a2,a3,a4,a5,a6,a7,a8,a9,a10,a11)=>
 bif (!decide (a0=a6))then(some false)
 else((QcI D (a1,a2,a3,a4,a5,a7,a8,a9,a10,a11)).bind fun r1=>
 bif (!r1)then(some false)
 else(some true))
theorem QwG:OfF QeF QlX:=ofF 284
def Qjz:rF QcS:=fun D L (a0,a1,a2,a3)=>
 bif (!decide (a0=a2))then(some false)
 else(bif (!decide (a1=a3))then(some false)
 else(some true))
theorem QtV:OfF QcS Qjz:=ofF 285
def Qn1:rF QcE:=fun D L (a0,a1)=>
 bif (decide (a1<a0))then(some a0)
 else(some a1)
theorem Qym:OfF QcE Qn1:=ofF 286
def QnM:rF Qh4:=fun D L (a0,a1,a2,a3,a4,a5)=>
 (QeG D (a0,a1,a2,a3,a4,a5)).bind fun r1=>
 some (r1.1,r1.2.1,0)
theorem Qyj:OfF Qh4 QnM:=ofF 287
def Qpi:rF Qle:=fun D L (a0,a1,a2)=>
 (XA D (a0,a1)).bind fun r1=>
 bif (!r1)then(some (0,0,0,0,ByteArray.empty,1))
 else((Yt D a2).bind fun r2=>
 bif (!r2)then(some (0,0,0,0,ByteArray.empty,1))
 else((vF D (a0,a1,a2)).bind fun r3=>
 bif (!r3.2.2.2.2.2)then(some (0,0,0,0,ByteArray.empty,3))
 else(some (r3.1,r3.2.1,r3.2.2.1,r3.2.2.2.1,r3.2.2.2.2.1,0))))
theorem QAy:OfF Qle Qpi:=ofF 288
def Qad:rL Kb:=fun D L (y0,y1,y2,y3,y4,y5,y6,y7,y8,y9,y10,y11)=>
 bif (decide (y0<(y11.length:Int)))then(bif inb y0 y11.length then
 bif (!decide ((rd1 (0:Int) y11 y0)=0))then(bif inb y0 y11.length then
 some (Sum.inl (rd1 (0:Int) y11 y0))else none)
 else(Kb L ((wR (y0+1)),y1,y2,y3,y4,y5,y6,y7,y8,y9,y10,y11))else none)
 else(some (Sum.inr (y1,y2,y3,y4,y5,y6,y7,y8,y9,y10)))
theorem Qdy:OfL Kb Qad:=ofL 289 0
def Qhq:rF Vb:=fun D L (a0,a1,a2,a3,a4,a5,a6,a7,a8,a9)=>
 (xW D (a0,a5)).bind fun r1=>
 (xW D (a1,a6)).bind fun r2=>
 (xW D (a2,a7)).bind fun r3=>
 (xW D (a3,a8)).bind fun r4=>
 (Kb L (0,a0,a1,a2,a3,a4,a5,a6,a7,a8,a9,[r1,r2,r3,r4])).bind fun z5=>
 Qp z5 (fun u6=>
 some u6)
 (fun z7=>
 bif (Op.bytesLess (ByteArray.toList z7.2.2.2.2.1) (ByteArray.toList z7.2.2.2.2.2.2.2.2.2))then(some (-1))
 else((Qc5 D (!(Op.bytesLess (ByteArray.toList z7.2.2.2.2.1) (ByteArray.toList z7.2.2.2.2.2.2.2.2.2)||Jb z7.2.2.2.2.1 z7.2.2.2.2.2.2.2.2.2))).bind fun r8=>
 some r8))
theorem Qsv:OfF Vb Qhq:=ofF 289
def Qeq:rL Kd:=fun D L (y0,y1,y2,y3)=>
 bif (decide (y3<(y0.length:Int)))then(bif inb y3 y0.length then
 (QF D (y1,0,(wR (((List.length (rd1 ([]:List Int) y0 y3)):Int) - 1)))).bind fun r1=>
 bif (!r1)then(some (Sum.inl 0))
 else(bif (decide (y3=0))then(bif inb y3 y0.length then
 bif inb y1 (List.length (rd1 ([]:List Int) y0 y3))then
 Kd L (y0,y1,(rd1 (0:Int) (rd1 ([]:List Int) y0 y3) y1),(wR (y3+1)))else none else none)
 else(bif inb y3 y0.length then
 bif inb y1 (List.length (rd1 ([]:List Int) y0 y3))then
 bif (decide ((rd1 (0:Int) (rd1 ([]:List Int) y0 y3) y1)<y2))then(bif inb y3 y0.length then
 bif inb y1 (List.length (rd1 ([]:List Int) y0 y3))then
 Kd L (y0,y1,(rd1 (0:Int) (rd1 ([]:List Int) y0 y3) y1),(wR (y3+1)))else none else none)
 else(Kd L (y0,y1,y2,(wR (y3+1))))else none else none))else none)
 else(some (Sum.inr y2))
theorem QhU:OfL Kd Qeq:=ofL 290 0
def Qla:rF QeY:=fun D L (a0,a1)=>
 bif (decide ((a0.length:Int)=0))then(some 0)
 else((Kd L (a0,a1,0,0)).bind fun z2=>
 Qp z2 (fun u3=>
 some u3)
 (fun z4=>
 some z4))
theorem Qxb:OfF QeY Qla:=ofF 290
def QkH:rF Qc8:=fun D L (a0,a1,a2)=>
 (Xs D (a0,a1)).bind fun r1=>
 bif (!r1)then(some (0,0,0,0,ByteArray.empty,1))
 else((Yu D a2).bind fun r2=>
 bif (!r2)then(some (0,0,0,0,ByteArray.empty,1))
 else((vG D (a0,a1,a2)).bind fun r3=>
 bif (!r3.2.2.2.2.2)then(some (0,0,0,0,ByteArray.empty,3))
 else(some (r3.1,r3.2.1,r3.2.2.1,r3.2.2.2.1,r3.2.2.2.2.1,0))))
theorem QuT:OfF Qc8 QkH:=ofF 291
def Qvg:rF Qfl:=fun D L (a0,a1,a2,a3,a4,a5)=>
 some ([(a0,a1,a2,a3,a4,a5)],[],0)
theorem Qwn:OfF Qfl Qvg:=ofF 292
def QhW:rF vW:=fun D L (a0,a1,a2,a3,a4,a5,a6,a7,a8,a9)=>
 (vK D (a0,a1,a2,a3,a4,a5,a6,a7,a8,a9)).bind fun r1=>
 bif (decide (r1<0))then(some (a5,a6,a7,a8,a9))
 else(some (a0,a1,a2,a3,a4))
theorem QsY:OfF vW QhW:=ofF 293
def Qen:rL Kk:=fun D L (y0,y1,y2,y3,y4)=>
 bif (decide (y4<y3))then(bif inb y4 y2.length then
 (QA D (y0,0,(wR (((List.length (rd1 ([]:List Int) y2 y4)):Int) - 1)))).bind fun r1=>
 bif (!r1)then(some (Sum.inl 0))
 else(bif (decide (y4=0))then(bif inb y0 (List.length (rd1 ([]:List Int) y2 y4))then
 Kk L (y0,(rd1 (0:Int) (rd1 ([]:List Int) y2 y4) y0),y2,y3,(wR (y4+1)))else none)
 else(bif inb y0 (List.length (rd1 ([]:List Int) y2 y4))then
 bif (decide ((rd1 (0:Int) (rd1 ([]:List Int) y2 y4) y0)<y1))then(bif inb y0 (List.length (rd1 ([]:List Int) y2 y4))then
 Kk L (y0,(rd1 (0:Int) (rd1 ([]:List Int) y2 y4) y0),y2,y3,(wR (y4+1)))else none)
 else(Kk L (y0,y1,y2,y3,(wR (y4+1))))else none))else none)
 else(some (Sum.inr y1))
theorem Qhs:OfL Kk Qen:=ofL 294 0
def QlV:rF QeU:=fun D L (a0,a1)=>
 (Kk L (a1,0,a0,(a0.length:Int),0)).bind fun z2=>
 Qp z2 (fun u3=>
 some u3)
 (fun z4=>
 some z4)
theorem QwU:OfF QeU QlV:=ofF 294
def Qk6:rF vt:=fun D L a0=>
 (Yt D a0).bind fun r1=>
 bif (!r1)then(some (-1))
 else((Z6 D a0).bind fun r2=>
 (Qem D r2).bind fun r3=>
 bif decide ((4:Int)≠0)then
 some (Int.tmod r3 4)else none)
theorem QvY:OfF vt Qk6:=ofF 295
def QlA:rF vx:=fun D L a0=>
 (Yu D a0).bind fun r1=>
 bif (!r1)then(some (-1))
 else((XW D a0).bind fun r2=>
 (Qeb D r2).bind fun r3=>
 bif decide ((4:Int)≠0)then
 some (Int.tmod r3 4)else none)
theorem QwW:OfF vx QlA:=ofF 296
def Qka:rF Qdk:=fun D L (a0,a1,a2,a3,a4,a5)=>
 bif (decide ((wR (a5 - ((ByteArray.size a4):Int)))<0))then(some (-1))
 else(some (wR (a5 - ((ByteArray.size a4):Int))))
theorem Qtu:OfF Qdk Qka:=ofF 297
def Qi2:rF Qbr:=fun D L (a0,a1,a2,a3,a4)=>
 some (a0,a1,a2,a3,a4)
theorem Qu0:OfF Qbr Qi2:=ofF 298
def QiQ:rF QcI:=fun D L (a0,a1,a2,a3,a4,a5,a6,a7,a8,a9)=>
 bif (!decide (a0=a5))then(some false)
 else(bif (!decide (a1=a6))then(some false)
 else(bif (!decide (a2=a7))then(some false)
 else(bif (!decide (a3=a8))then(some false)
 else(bif (!Jb a4 a9)then(some false)
 else(some true)))))
theorem Qvx:OfF QcI QiQ:=ofF 299
def Qmm:rF QeG:=fun D L (a0,a1,a2,a3,a4,a5)=>
 (XA D ([(a0,a1,a2,a3,a4,a5)],[])).bind fun r1=>
 bif (!r1)then(some ([],[],false))
 else(some ([(a0,a1,a2,a3,a4,a5)],[],true))
theorem Qv8:OfF QeG Qmm:=ofF 300
def QnE:rF xW:=fun D L (a0,a1)=>
 bif (decide (a0<a1))then(some (-1))
 else((Qc5 D (decide (a1<a0))).bind fun r1=>
 some r1)
theorem QyF:OfF xW QnE:=ofF 301
def Qwj:rF Qc5:=fun D L a0=>
 bif a0 then(some 1)
 else(some 0)
theorem QyE:OfF Qc5 Qwj:=ofF 302
def Qhi:rF vK:=fun D L (a0,a1,a2,a3,a4,a5,a6,a7,a8,a9)=>
 (qH D (a0,a5)).bind fun r1=>
 (qH D (a1,a6)).bind fun r2=>
 (qH D (a2,a7)).bind fun r3=>
 (qH D (a3,a8)).bind fun r4=>
 (yn D (a4,a9)).bind fun r5=>
 (Qt3 D [r1,r2,r3,r4,r5]).bind fun r6=>
 some r6
theorem Qsl:OfF vK Qhi:=ofF 303
def QqK:rL QfE:=fun D L (y0,y1,y2,y3)=>
 bif (decide (y3<y2))then(bif inb y3 y1.length then
 bif (!decide ((rd1 (0:Int) y1 y3)=y0))then(some (Sum.inl (rd1 (0:Int) y1 y3)))
 else(QfE L (y0,y1,y2,(wR (y3+1))))else none)
 else(some (Sum.inr y0))
theorem QqQ:OfL QfE QqK:=ofL 304 0
def QtD:rF Qt3:=fun D L a0=>
 (QfE L (0,a0,(a0.length:Int),0)).bind fun z1=>
 Qp z1 (fun u2=>
 some u2)
 (fun z3=>
 some z3)
theorem QFb:OfF Qt3 QtD:=ofF 304
def QlU:rF qH:=fun D L (a0,a1)=>
 (Qgr D a0).bind fun r1=>
 (Qgr D a1).bind fun r2=>
 bif r1 then(bif r2 then(some 0)
 else(some (-1)))
 else(bif r2 then(some 1)
 else(bif (decide (a0<a1))then(some (-1))
 else(bif (decide (a1<a0))then(some 1)
 else(some 0))))
theorem QwO:OfF qH QlU:=ofF 305
def QdC:rF yn:=fun D L (a0,a1)=>
 (Zy D (a0,a1)).bind fun r1=>
 some r1
theorem Qp1:OfF yn QdC:=ofF 306
def Qpl:rF Qgr:=fun D L a0=>
 some (!decide (a0=a0))
theorem QAJ:OfF Qgr Qpl:=ofF 307
def j0:rF Zy:=fun _ _=>QGQ
theorem vE:OfF Zy j0:=ofF 308
end
end Go.Proofs.YtiejfnbmficbmaaGreat.M
