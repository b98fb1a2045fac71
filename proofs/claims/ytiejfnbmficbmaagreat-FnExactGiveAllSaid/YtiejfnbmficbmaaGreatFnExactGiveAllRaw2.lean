/- Plain forms of the functions that FnExactGiveAll reaches, part 2. No conditions. -/
import Derived.Test.YtiejfnbmficbmaaGreatFnExactGiveAllTab
set_option linter.all false
namespace Go.Proofs.YtiejfnbmficbmaaGreat.M
open Go Go.Eng Go.Proofs
set_option linter.unusedVariables false
noncomputable section
def yH:rL Ka:=fun D L (y0,y1,y2)=>
 bif (decide (y2<y1))then((Zv D (y0,y2)).bind fun r1=>
 bif (!r1)then(some (Sum.inl false))
 else(Ka L (y0,y1,(wR (y2+1)))))
 else(some (Sum.inr ()))
theorem Qaw:OfL Ka yH:=ofL 62 0
def zo:rF zH:=fun D L (a0,a1)=>
 bif (!decide ((a0.length:Int)=a1))then(some false)
 else((Ka L (a0,a1,0)).bind fun z2=>
 Qn z2 (fun u3=>
 some u3)
 (fun z4=>
 some true))
theorem QqO:OfF zH zo:=ofF 62
def zu:rL ZK:=fun D L (y0,y1,y2,y3,y4,y5,y6,y7,y8,y9,y10,y11,y12,y13,y14,y15,y16,y17,y18,y19,y20,y21,y22,y23)=>
 bif (decide (y2<y1))then(bif inb y2 y22.length then
 let e4:=(rd1 Qfa y22 y2);
 (Vt D (e4.1,e4.2.1,e4.2.2.1,e4.2.2.2.1,e4.2.2.2.2.1,(rd1 Qfa y22 y2).2.2.2.2.2.1,e4.2.2.2.2.2.2.1,(rd1 Qfa y22 y2).2.2.2.2.2.2.2)).bind fun r5=>
 bif fits (y23.length+List.length ([r5]:List (List Int))) 24 then
 ZK L (y0,y1,(wR (y2+1)),y3,y4,y5,y6,y7,y8,y9,y10,y11,y12,y13,y14,y15,y16,y17,y18,y19,y20,y21,y22,(y23++([r5]:List (List Int))))else none else none)
 else(some (y0,y3,y4,y5,y6,y7,y8,y9,y10,y11,y12,y13,y14,y15,y16,y17,y18,y19,y20,y21,y23))
theorem vE:OfL ZK zu:=ofL 63 0
def QbQ:rF xx:=fun D L (a0,a1,a2,a3,a4,a5,a6,a7,a8,a9,a10,a11,a12,a13,a14,a15,a16,a17,a18,a19)=>
 (QjI D a19).bind fun r1=>
 bif (!r1.2.2.2.2.2.2.2.2.2.2.2.2)then((Y3 D (a0,a1,a2,a3,a4,a5,a6,a7,a8,a9,a10,a11,a12,a13,a14,a15,a16,a17,a18)).bind fun r2=>
 some (n11T r2 ([],1)))
 else((Qdm D (a0,a1,a2,a3,a4,a5,a6,a7,a8,a9,a10,a11,a12,a13,a14,a15,a16,a17,a18,r1.1,r1.2.1,r1.2.2.1,r1.2.2.2.1,r1.2.2.2.2.1,r1.2.2.2.2.2.1,r1.2.2.2.2.2.2.1,r1.2.2.2.2.2.2.2.1,r1.2.2.2.2.2.2.2.2.1,r1.2.2.2.2.2.2.2.2.2.1,r1.2.2.2.2.2.2.2.2.2.2.1,r1.2.2.2.2.2.2.2.2.2.2.2.1)).bind fun r3=>
 (ZK L (r3.2.2.2.2.2.2.2.2.2.2.2.2.2.2.2.2.2.2.2.2,(r3.2.2.2.2.2.2.2.2.2.2.2.2.2.2.2.2.2.2.2.1.length:Int),0,r3.1,r3.2.1,r3.2.2.1,r3.2.2.2.1,r3.2.2.2.2.1,r3.2.2.2.2.2.1,r3.2.2.2.2.2.2.1,r3.2.2.2.2.2.2.2.1,r3.2.2.2.2.2.2.2.2.1,r3.2.2.2.2.2.2.2.2.2.1,r3.2.2.2.2.2.2.2.2.2.2.1,r3.2.2.2.2.2.2.2.2.2.2.2.1,r3.2.2.2.2.2.2.2.2.2.2.2.2.1,r3.2.2.2.2.2.2.2.2.2.2.2.2.2.1,r3.2.2.2.2.2.2.2.2.2.2.2.2.2.2.1,r3.2.2.2.2.2.2.2.2.2.2.2.2.2.2.2.1,r3.2.2.2.2.2.2.2.2.2.2.2.2.2.2.2.2.1,r3.2.2.2.2.2.2.2.2.2.2.2.2.2.2.2.2.2.1,r3.2.2.2.2.2.2.2.2.2.2.2.2.2.2.2.2.2.2.1,r3.2.2.2.2.2.2.2.2.2.2.2.2.2.2.2.2.2.2.2.1,[])).bind fun z6=>
 some (z6.2.1,z6.2.2.1,z6.2.2.2.1,z6.2.2.2.2.1,z6.2.2.2.2.2.1,z6.2.2.2.2.2.2.1,z6.2.2.2.2.2.2.2.1,z6.2.2.2.2.2.2.2.2.1,z6.2.2.2.2.2.2.2.2.2.1,z6.2.2.2.2.2.2.2.2.2.2.1,z6.2.2.2.2.2.2.2.2.2.2.2.1,z6.2.2.2.2.2.2.2.2.2.2.2.2.1,z6.2.2.2.2.2.2.2.2.2.2.2.2.2.1,z6.2.2.2.2.2.2.2.2.2.2.2.2.2.2.1,z6.2.2.2.2.2.2.2.2.2.2.2.2.2.2.2.1,z6.2.2.2.2.2.2.2.2.2.2.2.2.2.2.2.2.1,z6.2.2.2.2.2.2.2.2.2.2.2.2.2.2.2.2.2.1,z6.2.2.2.2.2.2.2.2.2.2.2.2.2.2.2.2.2.2.1,z6.2.2.2.2.2.2.2.2.2.2.2.2.2.2.2.2.2.2.2.1,z6.2.2.2.2.2.2.2.2.2.2.2.2.2.2.2.2.2.2.2.2,z6.1))
theorem QpY:OfF xx QbQ:=ofF 63
def QmP:rF Qgj:=fun D L (a0,a1,a2,a3,a4,a5,a6,a7,a8,a9,a10,a11,a12,a13,a14,a15,a16,a17,a18,a19)=>
 (zd D (a2,a3,a19)).bind fun r1=>
 bif (decide (r1<0))then(some (-1))
 else((QfY D (a4,a5,r1)).bind fun r2=>
 bif (decide (r2<0))then(some (-1))
 else((QjN D (a6,a7,a8,r2)).bind fun r3=>
 bif (decide (r3<0))then(some (-1))
 else((qX D (a9,r3)).bind fun r4=>
 bif (decide (r4<0))then(some (-1))
 else((qX D (a10,r4)).bind fun r5=>
 bif (decide (r5<0))then(some (-1))
 else((Qc8 D (a11,r5)).bind fun r6=>
 bif (decide (r6<0))then(some (-1))
 else((QcL D (a14,r6)).bind fun r7=>
 bif (decide (r7<0))then(some (-1))
 else((QcK D (a18,r7)).bind fun r8=>
 bif (decide (r8<0))then(some (-1))
 else(some r8))))))))
theorem QxG:OfF Qgj QmP:=ofF 64
def QnN:rF Qf8:=fun D L (a0,a1,a2,a3)=>
 (Qdl D (a1,a3)).bind fun r1=>
 bif (decide (r1<0))then(some (-1))
 else(some r1)
theorem QyN:OfF Qf8 QnN:=ofF 65
def QmQ:rF Qf5:=fun D L (a0,a1,a2,a3)=>
 (zd D (a1,a2,a3)).bind fun r1=>
 bif (decide (r1<0))then(some (-1))
 else(some r1)
theorem Qx0:OfF Qf5 QmQ:=ofF 66
def QqF:rF QL:=fun D L (a0,a1,a2)=>
 bif (decide (a1<=a0))then(some (decide (a0<=a2)))
 else(some false)
theorem QBy:OfF QL QqF:=ofF 67
def Qfq:rL xI:=fun D L (y0,y1,y2,y3,y4,y5,y6,y7,y8,y9,y10,y11,y12,y13,y14,y15,y16,y17,y18,y19)=>
 bif (decide (y0<y2))then(bif inb y0 y11.length then
 (xe D (y7,y8,y9)).bind fun r11=>
 bif (decide (r11<(rd1 (0:Int) y11 y0)))then(some (Sum.inl false))
 else(xI L ((wR (y0+1)),y1,y2,y3,y4,y5,y6,y7,y8,y9,y10,y11,y12,y13,y14,y15,y16,y17,y18,y19))else none)
 else(some (Sum.inr (y1,y2,y3,y4,y5,y6,y7,y8,y9,y10,y11,y12,y13,y14,y15,y16,y17,y18,y19)))
theorem Qjl:OfL xI Qfq:=ofL 68 0
def Qfd:rL zj:=fun D L (y0,y1,y2,y3,y4,y5,y6,y7,y8,y9,y10,y11,y12,y13,y14,y15,y16,y17,y18,y19)=>
 bif (decide (y0<5))then(bif inb y0 y19.length then
 let e20:=(rd1 Zq y19 y0);
 (QL D (e20.1,0,1000)).bind fun r21=>
 bif (!r21)then(some (Sum.inl false))
 else((QL D (e20.2.1,0,100000)).bind fun r22=>
 bif (!r22)then(some (Sum.inl false))
 else((QL D (e20.2.2,0,y18)).bind fun r23=>
 bif (!r23)then(some (Sum.inl false))
 else(zj L ((wR (y0+1)),y1,y2,y3,y4,y5,y6,y7,y8,y9,y10,y11,y12,y13,y14,y15,y16,y17,y18,y19))))else none)
 else(some (Sum.inr (y1,y2,y3,y4,y5,y6,y7,y8,y9,y10,y11,y12,y13,y14,y15,y16,y17,y18,y19)))
theorem Qjd:OfL zj Qfd:=ofL 68 2
def QmJ:rF qV:=fun D L (a0,a1,a2,a3,a4,a5,a6,a7,a8,a9,a10,a11,a12,a13,a14,a15,a16,a17,a18)=>
 (QL D (a1,1,5)).bind fun r1=>
 bif (!r1)then(some false)
 else((QL D (a0,0,(wR (a1 - 1)))).bind fun r2=>
 bif (!r2)then(some false)
 else((Zo D (a2,a3)).bind fun r3=>
 bif (!r3)then(some false)
 else((yu D (a2,a3)).bind fun r4=>
 (Qcq D (a4,a5,r4)).bind fun r5=>
 bif (!r5)then(some false)
 else((zK D (a6,a7,a8)).bind fun r6=>
 bif (!r6)then(some false)
 else((Qcs D (a9,a1)).bind fun r7=>
 bif (!r7)then(some false)
 else((Qcs D (a10,a1)).bind fun r8=>
 bif (!r8)then(some false)
 else(bif inb a0 a9.length then
 (xe D (a6,a7,a8)).bind fun r9=>
 bif (!decide ((rd1 (0:Int) a9 a0)=r9))then(some false)
 else((Qb6 D (a11,a1)).bind fun r10=>
 bif (!r10)then(some false)
 else((xI L (0,a0,a1,a2,a3,a4,a5,a6,a7,a8,a9,a10,a11,a12,a13,a14,a15,a16,a17,a18)).bind fun z12=>
 Qn z12 (fun u13=>
 some u13)
 (fun z14=>
 (QL D (z14.2.2.2.2.2.2.2.2.2.2.2.2.1,0,100000)).bind fun r15=>
 bif (!r15)then(some false)
 else((QL D (z14.2.2.2.2.2.2.2.2.2.2.2.2.2.2.2.2.2.1,0,100000)).bind fun r16=>
 bif (!r16)then(some false)
 else((QL D (z14.2.2.2.2.2.2.2.2.2.2.2.2.2.1,1,4)).bind fun r17=>
 bif (!r17)then(some false)
 else((QL D (z14.2.2.2.2.2.2.2.2.2.2.2.2.2.2.2.1,1,20)).bind fun r18=>
 bif (!r18)then(some false)
 else((QL D (z14.2.2.2.2.2.2.2.2.2.2.2.2.2.2.2.2.1,1,50)).bind fun r19=>
 bif (!r19)then(some false)
 else(bif (!decide ((z14.2.2.2.2.2.2.2.2.2.2.2.2.2.2.2.2.2.2.length:Int)=5))then(some false)
 else((zj L (0,z14)).bind fun z24=>
 Qn z24 (fun u25=>
 some u25)
 (fun z26=>
 (Qec D z26).bind fun r27=>
 some r27))))))))))else none)))))))
theorem QyD:OfF qV QmJ:=ofF 68
def Qdg:rL K4:=fun D L (y0,y1,y2)=>
 bif (decide (y0<(y1.length:Int)))then(bif inb y0 y1.length then
 let e1:=(rd1 Zc y1 y0);
 (Kw D e1.1).bind fun r2=>
 bif (!r2)then(some (Sum.inl false))
 else(bif (decide (0<y0))then(bif inb (wR (y0 - 1)) y1.length then
 let e3:=(rd1 Zc y1 (wR (y0 - 1)));
 bif (decide (e1.1<=e3.1))then(some (Sum.inl false))
 else((xX D e1.2).bind fun r4=>
 bif (!r4)then(some (Sum.inl false))
 else((KI D (y1,y2,e1.1)).bind fun r5=>
 bif (decide (e1.2.1<=r5))then(some (Sum.inl false))
 else(K4 L ((wR (y0+1)),y1,y2))))else none)
 else((xX D e1.2).bind fun r6=>
 bif (!r6)then(some (Sum.inl false))
 else((KI D (y1,y2,e1.1)).bind fun r7=>
 bif (decide (e1.2.1<=r7))then(some (Sum.inl false))
 else(K4 L ((wR (y0+1)),y1,y2)))))else none)
 else(some (Sum.inr (y1,y2)))
theorem Qg3:OfL K4 Qdg:=ofL 69 0
def Qck:rL KM:=fun D L (y0,y1,y2)=>
 bif (decide (y0<(y2.length:Int)))then(bif inb y0 y2.length then
 let e11:=(rd1 Xx y2 y0);
 (Kw D e11.1).bind fun r12=>
 bif (!r12)then(some (Sum.inl false))
 else(bif (decide (0<y0))then(bif inb (wR (y0 - 1)) y2.length then
 let e13:=(rd1 Xx y2 (wR (y0 - 1)));
 bif (decide (e11.1<=e13.1))then(some (Sum.inl false))
 else((QL D (e11.2,1,1000)).bind fun r14=>
 bif (!r14)then(some (Sum.inl false))
 else(KM L ((wR (y0+1)),y1,y2)))else none)
 else((QL D (e11.2,1,1000)).bind fun r15=>
 bif (!r15)then(some (Sum.inl false))
 else(KM L ((wR (y0+1)),y1,y2))))else none)
 else(some (Sum.inr ()))
theorem QhI:OfL KM Qck:=ofL 69 2
def QlV:rF Zo:=fun D L (a0,a1)=>
 (K4 L (0,a0,a1)).bind fun z8=>
 Qn z8 (fun u9=>
 some u9)
 (fun z10=>
 (KM L (0,z10)).bind fun z16=>
 Qn z16 (fun u17=>
 some u17)
 (fun z18=>
 some true))
theorem QuG:OfF Zo QlV:=ofF 69
def Qna:rF QaF:=fun D L a0=>
 (Qa7 D a0).bind fun r1=>
 bif decide ((16777216:Int)≠0)then
 bif decide ((65536:Int)≠0)then
 bif decide ((256:Int)≠0)then
 bif decide ((256:Int)≠0)then
 bif decide ((256:Int)≠0)then
 bif decide ((256:Int)≠0)then
 some [(IntKind.wrap .u8 (wR (Int.tdiv r1 16777216))),(IntKind.wrap .u8 (Int.tmod (wR (Int.tdiv r1 65536)) 256)),(IntKind.wrap .u8 (Int.tmod (wR (Int.tdiv r1 256)) 256)),(IntKind.wrap .u8 (Int.tmod r1 256))]else none else none else none else none else none else none
theorem QxN:OfF QaF Qna:=ofF 70
def QnP:rF Q6:=fun D L (a0,a1,a2)=>
 (QaI D (a0,a1)).bind fun r1=>
 bif a2 then(some (0,a1,true))
 else(bif (!r1.2.2)then(some (0,a1,true))
 else(some (r1.1,r1.2.1,a2)))
theorem Qyl:OfF Q6 QnP:=ofF 71
def jb:rL KU:=fun D L (y0,y1,y2,y3,y4,y5,y6)=>
 bif (decide (y2<(wR (y1*y0))))then(bif (!y5)then(bif (decide (y1<=100))then((Q6 D (y3,y4,y5)).bind fun r2=>
 bif fits (y6.length+ [r2.1].length) 8 then
 KU L (y0,y1,(wR (y2+1)),y3,r2.2.1,r2.2.2,(y6++[r2.1]))else none)
 else(some (y1,y3,y4,y5,y6)))
 else(some (y1,y3,y4,y5,y6)))
 else(some (y1,y3,y4,y5,y6))
theorem jy:OfL KU jb:=ofL 72 0
def QkX:rF Za:=fun D L (a0,a1,a2,a3)=>
 (Q6 D (a0,a1,a2)).bind fun r1=>
 (KU L (a3,r1.1,0,a0,r1.2.1,r1.2.2,[])).bind fun z3=>
 bif z3.2.2.2.1 then(some (z3.2.2.2.2,z3.2.2.1,true))
 else(some (z3.2.2.2.2,z3.2.2.1,(decide (100<z3.1))))
theorem Qwj:OfF Za QkX:=ofF 72
def yX:rL YH:=fun D L (y0,y1,y2,y3,y4,y5,y6,y7)=>
 bif (decide (y2<y1))then(bif (!y7)then(bif (decide (y1<=100))then((Q6 D (y5,y6,y7)).bind fun r2=>
 (Q6 D (y5,r2.2)).bind fun r3=>
 (Q6 D (y5,r3.2)).bind fun r4=>
 (Q6 D (y5,r4.2)).bind fun r5=>
 (Q6 D (y5,r5.2)).bind fun r6=>
 (QeG D (y0,r6.2.1)).bind fun r7=>
 bif r6.2.2 then(some (Sum.inl (false,[],[])))
 else(bif (!r7.2.2)then(some (Sum.inl (false,[],[])))
 else(bif fits (y3.length+ [(r2.1,r3.1,r4.1,r5.1,r6.1,r7.1)].length) 56 then
 YH L (y0,y1,(wR (y2+1)),(y3++[(r2.1,r3.1,r4.1,r5.1,r6.1,r7.1)]),y4,y5,r7.2.1,r6.2.2)else none)))
 else(some (Sum.inr (y0,y1,y3,y4,y5,y6,y7))))
 else(some (Sum.inr (y0,y1,y3,y4,y5,y6,y7))))
 else(some (Sum.inr (y0,y1,y3,y4,y5,y6,y7)))
theorem jE:OfL YH yX:=ofL 73 0
def yL:rL qm:=fun D L (y0,y1,y2,y3,y4,y5,y6,y7,y8)=>
 bif (decide ((wR (y2+1))<(y5.length:Int)))then(bif inb y2 y5.length then
 bif inb (wR (y2+1)) y5.length then
 bif fits (y4.length+ [((rd1 (0:Int) y5 y2),(rd1 (0:Int) y5 (wR (y2+1))))].length) 16 then
 qm L (y0,y1,(wR (y2+2)),y3,(y4++[((rd1 (0:Int) y5 y2),(rd1 (0:Int) y5 (wR (y2+1))))]),y5,y6,y7,y8)else none else none else none)
 else(some (y0,y1,y3,y4,y6,y7,y8))
theorem jI:OfL qm yL:=ofL 73 2
def QkA:rF Qb5:=fun D L a0=>
 (Q6 D (a0,0,false)).bind fun r1=>
 (YH L (a0,r1.1,0,[],[],a0,r1.2)).bind fun z8=>
 Qn z8 (fun u9=>
 some (u9.2.1,u9.2.2,u9.1))
 (fun z10=>
 (Za D (z10.2.2.2.2.1,z10.2.2.2.2.2.1,z10.2.2.2.2.2.2,2)).bind fun r11=>
 (qm L (z10.1,z10.2.1,0,z10.2.2.1,z10.2.2.2.1,r11.1,z10.2.2.2.2.1,r11.2)).bind fun z12=>
 bif z12.2.2.2.2.2.2 then(some ([],[],false))
 else(bif (decide (100<z12.2.1))then(some ([],[],false))
 else((Zo D (z12.2.2.1,z12.2.2.2.1)).bind fun r13=>
 bif (!r13)then(some ([],[],false))
 else((xD D (z12.2.2.1,z12.2.2.2.1)).bind fun r14=>
 bif (!X0 (QM r14) (QM z12.1))then(some ([],[],false))
 else(some (z12.2.2.1,z12.2.2.2.1,true))))))
theorem Qu4:OfF Qb5 QkA:=ofF 73
def QaS:rL JT:=fun D L (y0,y1,y2,y3,y4,y5,y6,y7,y8,y9,y10,y11,y12)=>
 bif (decide (y0<(y9.length:Int)))then(bif inb y0 y9.length then
 bif inb (wR (y0 - 1)) y9.length then
 bif (decide ((rd1 (0:Int) y9 y0)<=(rd1 (0:Int) y9 (wR (y0 - 1)))))then(some (Sum.inl false))
 else(JT L ((wR (y0+1)),y1,y2,y3,y4,y5,y6,y7,y8,y9,y10,y11,y12))else none else none)
 else(some (Sum.inr ()))
theorem Qa4:OfL JT QaS:=ofL 74 0
def QoE:rF zr:=fun D L (a0,a1,a2,a3,a4,a5,a6,a7,a8,a9,a10,a11)=>
 (QL D (a0,0,5)).bind fun r1=>
 bif (!r1)then(some false)
 else((Kw D a1).bind fun r2=>
 bif (!r2)then(some false)
 else((Kw D a2).bind fun r3=>
 bif (!r3)then(some false)
 else(bif (decide (a1=a2))then(some false)
 else((QL D (a3,0,100000)).bind fun r4=>
 bif (!r4)then(some false)
 else((QL D (a4,0,100000)).bind fun r5=>
 bif (!r5)then(some false)
 else((Qek D (a5,a6)).bind fun r6=>
 bif (!r6)then(some false)
 else((zb D (a7,5,100000)).bind fun r7=>
 bif (!r7)then(some false)
 else((zb D (a8,4,3)).bind fun r8=>
 bif (!r8)then(some false)
 else((Zo D (a9,a10)).bind fun r9=>
 bif (!r9)then(some false)
 else((jW D a11).bind fun r10=>
 bif (!r10)then(some false)
 else((JT L (1,a0,a1,a2,a3,a4,a5,a6,a7,a8,a9,a10,a11)).bind fun z11=>
 Qn z11 (fun u12=>
 some u12)
 (fun z13=>
 some true))))))))))))
theorem QAD:OfF zr QoE:=ofF 74
def QmO:rF QfO:=fun D L (a0,a1,a2,a3,a4,a5,a6,a7,a8,a9,a10,a11,a12,a13,a14,a15,a16,a17,a18)=>
 (xS D (a2,a3)).bind fun r1=>
 (Qgn D (a4,a5)).bind fun r2=>
 (QjL D (a6,a7,a8)).bind fun r3=>
 (Z3 D a9).bind fun r4=>
 (Z3 D a10).bind fun r5=>
 (QcY D a11).bind fun r6=>
 (QcW D a14).bind fun r7=>
 (Qb4 D a18).bind fun r8=>
 some (a0,a1,r1.1,r1.2,r2.1,r2.2,r3.1,r3.2.1,r3.2.2,r4,r5,r6,a12,a13,r7,a15,a16,a17,r8)
theorem Qy3:OfF QfO QmO:=ofF 75
def QmG:rF QfW:=fun D L (a0,a1,a2)=>
 (Qce D a1).bind fun r1=>
 some (a0,r1,a2)
theorem Qyw:OfF QfW QmG:=ofF 76
def Qnt:rF QfZ:=fun D L (a0,a1,a2)=>
 (xS D (a1,a2)).bind fun r1=>
 some (a0,r1)
theorem Qy8:OfF QfZ Qnt:=ofF 77
def Qe9:rF QE:=fun D L (a0,a1,a2)=>
 (QaB D (a0,a1)).bind fun r1=>
 bif a2 then(some (0,a1,true))
 else(bif (!r1.2.2)then(some (0,a1,true))
 else(some (r1.1,r1.2.1,a2)))
theorem QrP:OfF QE Qe9:=ofF 78
def yG:rL Kb:=fun D L (y0,y1,y2,y3,y4,y5)=>
 bif (decide (y1<y0))then((QE D (y2,y3,y4)).bind fun r2=>
 bif fits (y5.length+ [r2.1].length) 8 then
 Kb L (y0,(wR (y1+1)),y2,r2.2.1,r2.2.2,(y5++[r2.1]))else none)
 else(some (y2,y3,y4,y5))
theorem Qat:OfL Kb yG:=ofL 79 0
def QbZ:rF Zj:=fun D L (a0,a1,a2,a3)=>
 (ZU D (a0,a1,a2,a3)).bind fun r1=>
 (Kb L (r1.1,0,a0,r1.2.1,r1.2.2,[])).bind fun z3=>
 some (z3.2.2.2,z3.2.1,z3.2.2.1)
theorem QqQ:OfF Zj QbZ:=ofF 79
def Qef:rL KR:=fun D L (y0,y1,y2,y3,y4,y5,y6,y7)=>
 bif (decide (y2<y1))then((QE D (y5,y6,y7)).bind fun r2=>
 (QE D (y5,r2.2)).bind fun r3=>
 (QE D (y5,r3.2)).bind fun r4=>
 (QE D (y5,r4.2)).bind fun r5=>
 (QE D (y5,r5.2)).bind fun r6=>
 (Jo D (y5,r6.2)).bind fun r7=>
 bif fits (y3.length+ [(r2.1,r3.1,r4.1,r5.1,r6.1,r7.1)].length) 56 then
 KR L (y0,y1,(wR (y2+1)),(y3++[(r2.1,r3.1,r4.1,r5.1,r6.1,r7.1)]),y4,y5,r7.2)else none)
 else(some (y0,y3,y4,y5,y6,y7))
theorem QhY:OfL KR Qef:=ofL 80 0
def Qcy:rL K0:=fun D L (y0,y1,y2,y3,y4,y5,y6,y7)=>
 bif (decide (y2<y1))then((QE D (y5,y6,y7)).bind fun r10=>
 (QE D (y5,r10.2)).bind fun r11=>
 bif fits (y4.length+ [(r10.1,r11.1)].length) 16 then
 K0 L (y0,y1,(wR (y2+1)),y3,(y4++[(r10.1,r11.1)]),y5,r11.2)else none)
 else(some (y0,y3,y4,y5,y6,y7))
theorem QgU:OfL K0 Qcy:=ofL 80 2
def Ql3:rF QdU:=fun D L a0=>
 (ZU D (a0,0,false,5)).bind fun r1=>
 (KR L (a0,r1.1,0,[],[],a0,r1.2)).bind fun z8=>
 (ZU D (z8.2.2.2.1,z8.2.2.2.2.1,z8.2.2.2.2.2,5)).bind fun r9=>
 (K0 L (z8.1,r9.1,0,z8.2.1,z8.2.2.1,z8.2.2.2.1,r9.2)).bind fun z12=>
 bif z12.2.2.2.2.2 then(some ([],[],false))
 else((XB D (z12.2.1,z12.2.2.1)).bind fun r13=>
 bif (!r13)then(some ([],[],false))
 else((Vd D (z12.2.1,z12.2.2.1)).bind fun r14=>
 (Qas D (r14,z12.1)).bind fun r15=>
 bif (!r15)then(some ([],[],false))
 else(some (z12.2.1,z12.2.2.1,true))))
theorem Qwm:OfF QdU Ql3:=ofF 80
def Qbz:rF ZU:=fun D L (a0,a1,a2,a3)=>
 (QE D (a0,a1,a2)).bind fun r1=>
 bif (decide (a3<r1.1))then(some (0,r1.2.1,true))
 else(some r1)
theorem Qqy:OfF ZU Qbz:=ofF 81
def Qis:rL JN:=fun D L (y0,y1,y2,y3,y4,y5,y6,y7,y8,y9,y10,y11,y12,y13,y14)=>
 bif (decide (y2<y1))then(bif inb y2 y0.length then
 (QA D ((rd1 (0:Int) y0 y2),0,3)).bind fun r4=>
 bif (!r4)then(some (Sum.inl false))
 else(bif (decide (0<y2))then(bif inb (wR (y2 - 1)) y11.length then
 bif (decide ((rd1 (0:Int) y0 y2)<=(rd1 (0:Int) y11 (wR (y2 - 1)))))then(some (Sum.inl false))
 else(JN L (y0,y1,(wR (y2+1)),y3,y4,y5,y6,y7,y8,y9,y10,y11,y12,y13,y14))else none)
 else(JN L (y0,y1,(wR (y2+1)),y3,y4,y5,y6,y7,y8,y9,y10,y11,y12,y13,y14)))else none)
 else(some (Sum.inr (y3,y4,y5,y6,y7,y8,y9,y10,y11,y12,y13,y14)))
theorem QkZ:OfL JN Qis:=ofL 82 0
def Qiq:rL zS:=fun D L (y0,y1,y2,y3,y4,y5,y6,y7,y8,y9,y10,y11,y12,y13,y14)=>
 bif (decide (y2<y1))then(bif inb y2 y0.length then
 (QA D ((rd1 (0:Int) y0 y2),0,100000)).bind fun r8=>
 bif (!r8)then(some (Sum.inl false))
 else(zS L (y0,y1,(wR (y2+1)),y3,y4,y5,y6,y7,y8,y9,y10,y11,y12,y13,y14))else none)
 else(some (Sum.inr (y3,y4,y5,y6,y7,y8,y9,y10,y11,y12,y13,y14)))
theorem Qk2:OfL zS Qiq:=ofL 82 2
def Qox:rF zQ:=fun D L (a0,a1,a2,a3,a4,a5,a6,a7,a8,a9,a10,a11)=>
 (QA D (a0,0,5)).bind fun r1=>
 bif (!r1)then(some false)
 else((Ko D a1).bind fun r2=>
 bif (!r2)then(some false)
 else((Ko D a2).bind fun r3=>
 bif (!r3)then(some false)
 else(bif (decide (a1=a2))then(some false)
 else((JN L (a8,(a8.length:Int),0,a0,a1,a2,a3,a4,a5,a6,a7,a8,a9,a10,a11)).bind fun z5=>
 Qn z5 (fun u6=>
 some u6)
 (fun z7=>
 (zS L (z7.2.2.2.2.2.2.2.1,(z7.2.2.2.2.2.2.2.1.length:Int),0,z7)).bind fun z9=>
 Qn z9 (fun u10=>
 some u10)
 (fun z11=>
 (QA D (z11.2.2.2.1,0,100000)).bind fun r12=>
 bif r12 then((QA D (z11.2.2.2.2.1,0,100000)).bind fun r13=>
 bif r13 then((Qf9 D (z11.2.2.2.2.2.1,z11.2.2.2.2.2.2.1)).bind fun r14=>
 bif r14 then(bif (decide ((z11.2.2.2.2.2.2.2.1.length:Int)<=5))then((XB D (z11.2.2.2.2.2.2.2.2.2.1,z11.2.2.2.2.2.2.2.2.2.2.1)).bind fun r15=>
 bif r15 then((jg D z11.2.2.2.2.2.2.2.2.2.2.2).bind fun r16=>
 some r16)
 else(some false))
 else(some false))
 else(some false))
 else(some false))
 else(some false)))))))
theorem QAt:OfF zQ Qox:=ofF 82
def QwU:rF Qas:=fun D L (a0,a1)=>
 some (X0 (QM a0) (QM a1))
theorem Qy9:OfF Qas QwU:=ofF 83
def Qa1:rL Yc:=fun D L (y0,y1,y2,y3)=>
 bif (decide (y2<y1))then(bif inb y2 y0.length then
 let e15:=(rd1 Xx y0 y2);
 (Q2 D e15.1).bind fun r16=>
 (Q2 D e15.2).bind fun r17=>
 (Zu D [y3,r16,r17]).bind fun r18=>
 Yc L (y0,y1,(wR (y2+1)),r18)else none)
 else(some y3)
theorem QeY:OfL Yc Qa1:=ofL 84 0
def QiM:rF Vt:=fun D L (a0,a1,a2,a3,a4,a5,a6,a7,a8,a9,a10,a11)=>
 (zQ D (a0,a1,a2,a3,a4,a5,a6,a7,a8,a9,a10,a11)).bind fun r1=>
 bif (!r1)then(some [])
 else((Vd D (a9,a10)).bind fun r2=>
 (Q2 D a0).bind fun r3=>
 (Q2 D a1).bind fun r4=>
 (Q2 D a2).bind fun r5=>
 (Q2 D a3).bind fun r6=>
 (Q2 D a4).bind fun r7=>
 (x7 D a5).bind fun r8=>
 (Q2 D a6).bind fun r9=>
 (x7 D a7).bind fun r10=>
 (x7 D a8).bind fun r11=>
 (Q2 D (r2.length:Int)).bind fun r12=>
 (Q2 D (a11.length:Int)).bind fun r13=>
 (Zu D [[82,75],r3,r4,r5,r6,r7,r8,r9,r10,r11,r12,r2,r13]).bind fun r14=>
 (Yc L (a11,(a11.length:Int),0,r14)).bind fun z19=>
 (QaM D z19).bind fun r20=>
 (Zu D [z19,r20]).bind fun r21=>
 some r21)
theorem Qug:OfF Vt QiM:=ofF 84
end
end Go.Proofs.YtiejfnbmficbmaaGreat.M
