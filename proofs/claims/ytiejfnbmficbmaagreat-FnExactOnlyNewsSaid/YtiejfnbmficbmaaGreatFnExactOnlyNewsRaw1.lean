/- Plain forms of the functions that FnExactOnlyNews reaches, part 1. No conditions. -/
import Derived.Test.YtiejfnbmficbmaaGreatFnExactOnlyNewsTab
set_option linter.all false
namespace Go.Proofs.YtiejfnbmficbmaaGreat.M
open Go Go.Eng Go.Proofs
set_option linter.unusedVariables false
noncomputable section
def vj:rL KG:=fun D L (y0,y1,y2)=>
 bif (decide (y2<(y0.length:Int)))then(bif inb y2 y0.length then
 let e1:=(rd1 QcW y0 y2);
 bif inb y2 y1.length then
 let e2:=(rd1 QcW y1 y2);
 (Qat D (e1.1,e1.2.1,e1.2.2,e2)).bind fun r3=>
 bif (!r3)then(some (Sum.inl false))
 else(KG L (y0,y1,(wR (y2+1))))else none else none)
 else(some (Sum.inr ()))
theorem Qbe:OfL KG vj:=ofL 37 0
def Qez:rF zO:=fun D L (a0,a1)=>
 bif (!decide ((a0.length:Int)=(a1.length:Int)))then(some false)
 else((KG L (a0,a1,0)).bind fun z4=>
 Qp z4 (fun u5=>
 some u5)
 (fun z6=>
 some true))
theorem Qms:OfF zO Qez:=ofF 37
def jI:rL Kv:=fun D L (y0,y1,y2)=>
 bif (decide (y2<(y0.length:Int)))then(bif inb y2 y0.length then
 let e1:=(rd1 Qhu y0 y2);
 bif inb y2 y1.length then
 let e2:=(rd1 Qhu y1 y2);
 (QaE D (e1.1,e1.2.1,e1.2.2,e2)).bind fun r3=>
 bif (!r3)then(some (Sum.inl false))
 else(Kv L (y0,y1,(wR (y2+1))))else none else none)
 else(some (Sum.inr ()))
theorem Qbf:OfL Kv jI:=ofL 38 0
def QdG:rF yU:=fun D L (a0,a1)=>
 bif (!decide ((a0.length:Int)=(a1.length:Int)))then(some false)
 else((Kv L (a0,a1,0)).bind fun z4=>
 Qp z4 (fun u5=>
 some u5)
 (fun z6=>
 some true))
theorem Qmb:OfF yU QdG:=ofF 38
def Qcw:rF xF:=fun D L (a0,a1,a2,a3,a4,a5,a6,a7,a8,a9,a10,a11)=>
 (ya D (a0,a1,a2,a3,a4,a5,a6,a7,a8,a9,a10,a11)).bind fun r1=>
 bif (!r1)then(some [])
 else((zS D (a0,a1,a2,a3,a4,a5,a6,a7,a8,a9,a10,a11)).bind fun r2=>
 (qY D r2).bind fun r3=>
 bif fits (r2.length+r3.length) 1 then
 some (r2++r3)else none)
theorem QkI:OfF xF Qcw:=ofF 50
def Qff:rF v8:=fun D L (a0,a1,a2,a3,a4,a5,a6,a7,a8,a9,a10,a11,a12,a13,a14,a15,a16,a17,a18,a19)=>
 (Vq D (a2,a3,a19)).bind fun r1=>
 bif (decide (r1<0))then(some (-1))
 else((QaC D (a4,a5,r1)).bind fun r2=>
 bif (decide (r2<0))then(some (-1))
 else((QcH D (a6,a7,a8,r2)).bind fun r3=>
 bif (decide (r3<0))then(some (-1))
 else((K7 D (a9,r3)).bind fun r4=>
 bif (decide (r4<0))then(some (-1))
 else((K7 D (a10,r4)).bind fun r5=>
 bif (decide (r5<0))then(some (-1))
 else((jE D (a11,r5)).bind fun r6=>
 bif (decide (r6<0))then(some (-1))
 else((yJ D (a14,r6)).bind fun r7=>
 bif (decide (r7<0))then(some (-1))
 else((js D (a18,r7)).bind fun r8=>
 bif (decide (r8<0))then(some (-1))
 else(some r8))))))))
theorem QoF:OfF v8 Qff:=ofF 64
def Qfq:rF Qaw:=fun D L (a0,a1,a2,a3)=>
 (zA D (a1,a3)).bind fun r1=>
 bif (decide (r1<0))then(some (-1))
 else(some r1)
theorem QnG:OfF Qaw Qfq:=ofF 65
def QfN:rF Qax:=fun D L (a0,a1,a2,a3)=>
 (Vq D (a1,a2,a3)).bind fun r1=>
 bif (decide (r1<0))then(some (-1))
 else(some r1)
theorem QnI:OfF Qax QfN:=ofF 66
def Qit:rF QA:=fun D L (a0,a1,a2)=>
 bif (decide (a1<=a0))then(some (decide (a0<=a2)))
 else(some false)
theorem Qrt:OfF QA Qit:=ofF 67
def vO:rL Vm:=fun D L (y0,y1,y2,y3,y4,y5,y6,y7,y8,y9,y10,y11,y12,y13,y14,y15,y16,y17,y18,y19)=>
 bif (decide (y0<y2))then(bif inb y0 y11.length then
 (qV D (y7,y8,y9)).bind fun r11=>
 bif (decide (r11<(rd1 (0:Int) y11 y0)))then(some (Sum.inl false))
 else(Vm L ((wR (y0+1)),y1,y2,y3,y4,y5,y6,y7,y8,y9,y10,y11,y12,y13,y14,y15,y16,y17,y18,y19))else none)
 else(some (Sum.inr (y1,y2,y3,y4,y5,y6,y7,y8,y9,y10,y11,y12,y13,y14,y15,y16,y17,y18,y19)))
theorem Qcv:OfL Vm vO:=ofL 68 0
def vV:rL Vj:=fun D L (y0,y1,y2,y3,y4,y5,y6,y7,y8,y9,y10,y11,y12,y13,y14,y15,y16,y17,y18,y19)=>
 bif (decide (y0<5))then(bif inb y0 y19.length then
 let e20:=(rd1 JO y19 y0);
 (QA D (e20.1,0,1000)).bind fun r21=>
 bif (!r21)then(some (Sum.inl false))
 else((QA D (e20.2.1,0,100000)).bind fun r22=>
 bif (!r22)then(some (Sum.inl false))
 else((QA D (e20.2.2,0,y18)).bind fun r23=>
 bif (!r23)then(some (Sum.inl false))
 else(Vj L ((wR (y0+1)),y1,y2,y3,y4,y5,y6,y7,y8,y9,y10,y11,y12,y13,y14,y15,y16,y17,y18,y19))))else none)
 else(some (Sum.inr (y1,y2,y3,y4,y5,y6,y7,y8,y9,y10,y11,y12,y13,y14,y15,y16,y17,y18,y19)))
theorem Qcu:OfL Vj vV:=ofL 68 2
def Qfz:rF xl:=fun D L (a0,a1,a2,a3,a4,a5,a6,a7,a8,a9,a10,a11,a12,a13,a14,a15,a16,a17,a18)=>
 (QA D (a1,1,5)).bind fun r1=>
 bif (!r1)then(some false)
 else((QA D (a0,0,(wR (a1 - 1)))).bind fun r2=>
 bif (!r2)then(some false)
 else((X8 D (a2,a3)).bind fun r3=>
 bif (!r3)then(some false)
 else((QaN D (a2,a3)).bind fun r4=>
 (yI D (a4,a5,r4)).bind fun r5=>
 bif (!r5)then(some false)
 else((zZ D (a6,a7,a8)).bind fun r6=>
 bif (!r6)then(some false)
 else((yr D (a9,a1)).bind fun r7=>
 bif (!r7)then(some false)
 else((yr D (a10,a1)).bind fun r8=>
 bif (!r8)then(some false)
 else(bif inb a0 a9.length then
 (qV D (a6,a7,a8)).bind fun r9=>
 bif (!decide ((rd1 (0:Int) a9 a0)=r9))then(some false)
 else((jF D (a11,a1)).bind fun r10=>
 bif (!r10)then(some false)
 else((Vm L (0,a0,a1,a2,a3,a4,a5,a6,a7,a8,a9,a10,a11,a12,a13,a14,a15,a16,a17,a18)).bind fun z12=>
 Qp z12 (fun u13=>
 some u13)
 (fun z14=>
 (QA D (z14.2.2.2.2.2.2.2.2.2.2.2.2.1,0,100000)).bind fun r15=>
 bif (!r15)then(some false)
 else((QA D (z14.2.2.2.2.2.2.2.2.2.2.2.2.2.2.2.2.2.1,0,100000)).bind fun r16=>
 bif (!r16)then(some false)
 else((QA D (z14.2.2.2.2.2.2.2.2.2.2.2.2.2.1,1,4)).bind fun r17=>
 bif (!r17)then(some false)
 else((QA D (z14.2.2.2.2.2.2.2.2.2.2.2.2.2.2.2.1,1,20)).bind fun r18=>
 bif (!r18)then(some false)
 else((QA D (z14.2.2.2.2.2.2.2.2.2.2.2.2.2.2.2.2.1,1,50)).bind fun r19=>
 bif (!r19)then(some false)
 else(bif (!decide ((z14.2.2.2.2.2.2.2.2.2.2.2.2.2.2.2.2.2.2.length:Int)=5))then(some false)
 else((Vj L (0,z14)).bind fun z24=>
 Qp z24 (fun u25=>
 some u25)
 (fun z26=>
 (jv D z26).bind fun r27=>
 some r27))))))))))else none)))))))
theorem QoU:OfF xl Qfz:=ofF 68
def yH:rL Z3:=fun D L (y0,y1,y2)=>
 bif (decide (y0<(y1.length:Int)))then(bif inb y0 y1.length then
 let e1:=(rd1 VY y1 y0);
 (ZL D e1.1).bind fun r2=>
 bif (!r2)then(some (Sum.inl false))
 else(bif (decide (0<y0))then(bif inb (wR (y0 - 1)) y1.length then
 let e3:=(rd1 VY y1 (wR (y0 - 1)));
 bif (decide (e1.1<=e3.1))then(some (Sum.inl false))
 else((Vz D e1.2).bind fun r4=>
 bif (!r4)then(some (Sum.inl false))
 else((qe D (y1,y2,e1.1)).bind fun r5=>
 bif (decide (e1.2.1<=r5))then(some (Sum.inl false))
 else(Z3 L ((wR (y0+1)),y1,y2))))else none)
 else((Vz D e1.2).bind fun r6=>
 bif (!r6)then(some (Sum.inl false))
 else((qe D (y1,y2,e1.1)).bind fun r7=>
 bif (decide (e1.2.1<=r7))then(some (Sum.inl false))
 else(Z3 L ((wR (y0+1)),y1,y2)))))else none)
 else(some (Sum.inr (y1,y2)))
theorem Qa1:OfL Z3 yH:=ofL 69 0
def yl:rL Ye:=fun D L (y0,y1,y2)=>
 bif (decide (y0<(y2.length:Int)))then(bif inb y0 y2.length then
 let e11:=(rd1 XB y2 y0);
 (ZL D e11.1).bind fun r12=>
 bif (!r12)then(some (Sum.inl false))
 else(bif (decide (0<y0))then(bif inb (wR (y0 - 1)) y2.length then
 let e13:=(rd1 XB y2 (wR (y0 - 1)));
 bif (decide (e11.1<=e13.1))then(some (Sum.inl false))
 else((QA D (e11.2,1,1000)).bind fun r14=>
 bif (!r14)then(some (Sum.inl false))
 else(Ye L ((wR (y0+1)),y1,y2)))else none)
 else((QA D (e11.2,1,1000)).bind fun r15=>
 bif (!r15)then(some (Sum.inl false))
 else(Ye L ((wR (y0+1)),y1,y2))))else none)
 else(some (Sum.inr ()))
theorem Qbn:OfL Ye yl:=ofL 69 2
def QeM:rF X8:=fun D L (a0,a1)=>
 (Z3 L (0,a0,a1)).bind fun z8=>
 Qp z8 (fun u9=>
 some u9)
 (fun z10=>
 (Ye L (0,z10)).bind fun z16=>
 Qp z16 (fun u17=>
 some u17)
 (fun z18=>
 some true))
theorem Qmm:OfF X8 QeM:=ofF 69
def Qfx:rF qY:=fun D L a0=>
 (xQ D a0).bind fun r1=>
 bif decide ((16777216:Int)≠0)then
 bif decide ((65536:Int)≠0)then
 bif decide ((256:Int)≠0)then
 bif decide ((256:Int)≠0)then
 bif decide ((256:Int)≠0)then
 bif decide ((256:Int)≠0)then
 some [(IntKind.wrap .u8 (wR (Int.tdiv r1 16777216))),(IntKind.wrap .u8 (Int.tmod (wR (Int.tdiv r1 65536)) 256)),(IntKind.wrap .u8 (Int.tmod (wR (Int.tdiv r1 256)) 256)),(IntKind.wrap .u8 (Int.tmod r1 256))]else none else none else none else none else none else none
theorem Qn6:OfF qY Qfx:=ofF 70
def Qfp:rF QO:=fun D L (a0,a1,a2)=>
 (xi D (a0,a1)).bind fun r1=>
 bif a2 then(some (0,a1,true))
 else(bif (!r1.2.2)then(some (0,a1,true))
 else(some (r1.1,r1.2.1,a2)))
theorem Qof:OfF QO Qfp:=ofF 71
def JP:rL ZZ:=fun D L (y0,y1,y2,y3,y4,y5,y6)=>
 bif (decide (y2<(wR (y1*y0))))then(bif (!y5)then(bif (decide (y1<=100))then((QO D (y3,y4,y5)).bind fun r2=>
 bif fits (y6.length+ [r2.1].length) 8 then
 ZZ L (y0,y1,(wR (y2+1)),y3,r2.2.1,r2.2.2,(y6++[r2.1]))else none)
 else(some (y1,y3,y4,y5,y6)))
 else(some (y1,y3,y4,y5,y6)))
 else(some (y1,y3,y4,y5,y6))
theorem qq:OfL ZZ JP:=ofL 72 0
def QeA:rF Xx:=fun D L (a0,a1,a2,a3)=>
 (QO D (a0,a1,a2)).bind fun r1=>
 (ZZ L (a3,r1.1,0,a0,r1.2.1,r1.2.2,[])).bind fun z3=>
 bif z3.2.2.2.1 then(some (z3.2.2.2.2,z3.2.2.1,true))
 else(some (z3.2.2.2.2,z3.2.2.1,(decide (100<z3.1))))
theorem Qmg:OfF Xx QeA:=ofF 72
def JX:rL Zs:=fun D L (y0,y1,y2,y3,y4,y5,y6,y7)=>
 bif (decide (y2<y1))then(bif (!y7)then(bif (decide (y1<=100))then((QO D (y5,y6,y7)).bind fun r2=>
 (QO D (y5,r2.2)).bind fun r3=>
 (QO D (y5,r3.2)).bind fun r4=>
 (QO D (y5,r4.2)).bind fun r5=>
 (QO D (y5,r5.2)).bind fun r6=>
 (jq D (y0,r6.2.1)).bind fun r7=>
 bif r6.2.2 then(some (Sum.inl (false,[],[])))
 else(bif (!r7.2.2)then(some (Sum.inl (false,[],[])))
 else(bif fits (y3.length+ [(r2.1,r3.1,r4.1,r5.1,r6.1,r7.1)].length) 56 then
 Zs L (y0,y1,(wR (y2+1)),(y3++[(r2.1,r3.1,r4.1,r5.1,r6.1,r7.1)]),y4,y5,r7.2.1,r6.2.2)else none)))
 else(some (Sum.inr (y0,y1,y3,y4,y5,y6,y7))))
 else(some (Sum.inr (y0,y1,y3,y4,y5,y6,y7))))
 else(some (Sum.inr (y0,y1,y3,y4,y5,y6,y7)))
theorem J8:OfL Zs JX:=ofL 73 0
def JJ:rL Ko:=fun D L (y0,y1,y2,y3,y4,y5,y6,y7,y8)=>
 bif (decide ((wR (y2+1))<(y5.length:Int)))then(bif inb y2 y5.length then
 bif inb (wR (y2+1)) y5.length then
 bif fits (y4.length+ [((rd1 (0:Int) y5 y2),(rd1 (0:Int) y5 (wR (y2+1))))].length) 16 then
 Ko L (y0,y1,(wR (y2+2)),y3,(y4++[((rd1 (0:Int) y5 y2),(rd1 (0:Int) y5 (wR (y2+1))))]),y5,y6,y7,y8)else none else none else none)
 else(some (y0,y1,y3,y4,y6,y7,y8))
theorem qb:OfL Ko JJ:=ofL 73 2
def QeT:rF zK:=fun D L a0=>
 (QO D (a0,0,false)).bind fun r1=>
 (Zs L (a0,r1.1,0,[],[],a0,r1.2)).bind fun z8=>
 Qp z8 (fun u9=>
 some (u9.2.1,u9.2.2,u9.1))
 (fun z10=>
 (Xx D (z10.2.2.2.2.1,z10.2.2.2.2.2.1,z10.2.2.2.2.2.2,2)).bind fun r11=>
 (Ko L (z10.1,z10.2.1,0,z10.2.2.1,z10.2.2.2.1,r11.1,z10.2.2.2.2.1,r11.2)).bind fun z12=>
 bif z12.2.2.2.2.2.2 then(some ([],[],false))
 else(bif (decide (100<z12.2.1))then(some ([],[],false))
 else((X8 D (z12.2.2.1,z12.2.2.2.1)).bind fun r13=>
 bif (!r13)then(some ([],[],false))
 else((VF D (z12.2.2.1,z12.2.2.2.1)).bind fun r14=>
 bif (!XI (QG r14) (QG z12.1))then(some ([],[],false))
 else(some (z12.2.2.1,z12.2.2.2.1,true))))))
theorem Qnd:OfF zK QeT:=ofF 73
def xq:rL Y2:=fun D L (y0,y1,y2,y3,y4,y5,y6,y7,y8,y9,y10,y11,y12)=>
 bif (decide (y0<(y9.length:Int)))then(bif inb y0 y9.length then
 bif inb (wR (y0 - 1)) y9.length then
 bif (decide ((rd1 (0:Int) y9 y0)<=(rd1 (0:Int) y9 (wR (y0 - 1)))))then(some (Sum.inl false))
 else(Y2 L ((wR (y0+1)),y1,y2,y3,y4,y5,y6,y7,y8,y9,y10,y11,y12))else none else none)
 else(some (Sum.inr ()))
theorem xP:OfL Y2 xq:=ofL 74 0
def QgQ:rF ya:=fun D L (a0,a1,a2,a3,a4,a5,a6,a7,a8,a9,a10,a11)=>
 (QA D (a0,0,5)).bind fun r1=>
 bif (!r1)then(some false)
 else((ZL D a1).bind fun r2=>
 bif (!r2)then(some false)
 else((ZL D a2).bind fun r3=>
 bif (!r3)then(some false)
 else(bif (decide (a1=a2))then(some false)
 else((QA D (a3,0,100000)).bind fun r4=>
 bif (!r4)then(some false)
 else((QA D (a4,0,100000)).bind fun r5=>
 bif (!r5)then(some false)
 else((vf D (a5,a6)).bind fun r6=>
 bif (!r6)then(some false)
 else((VD D (a7,5,100000)).bind fun r7=>
 bif (!r7)then(some false)
 else((VD D (a8,4,3)).bind fun r8=>
 bif (!r8)then(some false)
 else((X8 D (a9,a10)).bind fun r9=>
 bif (!r9)then(some false)
 else((yS D a11).bind fun r10=>
 bif (!r10)then(some false)
 else((Y2 L (1,a0,a1,a2,a3,a4,a5,a6,a7,a8,a9,a10,a11)).bind fun z11=>
 Qp z11 (fun u12=>
 some u12)
 (fun z13=>
 some true))))))))))))
theorem Qp0:OfF ya QgQ:=ofF 74
def Qfl:rF Qaf:=fun D L (a0,a1,a2,a3,a4,a5,a6,a7,a8,a9,a10,a11,a12,a13,a14,a15,a16,a17,a18)=>
 (VG D (a2,a3)).bind fun r1=>
 (Qaz D (a4,a5)).bind fun r2=>
 (QcS D (a6,a7,a8)).bind fun r3=>
 (K1 D a9).bind fun r4=>
 (K1 D a10).bind fun r5=>
 (yM D a11).bind fun r6=>
 (yC D a14).bind fun r7=>
 (jQ D a18).bind fun r8=>
 some (a0,a1,r1.1,r1.2,r2.1,r2.2,r3.1,r3.2.1,r3.2.2,r4,r5,r6,a12,a13,r7,a15,a16,a17,r8)
theorem Qoc:OfF Qaf Qfl:=ofF 75
def Qfc:rF Qau:=fun D L (a0,a1,a2)=>
 (yg D a1).bind fun r1=>
 some (a0,r1,a2)
theorem QnU:OfF Qau Qfc:=ofF 76
def QfH:rF QaA:=fun D L (a0,a1,a2)=>
 (VG D (a1,a2)).bind fun r1=>
 some (a0,r1)
theorem QoC:OfF QaA QfH:=ofF 77
def vz:rF Qs:=fun D L (a0,a1,a2)=>
 (xe D (a0,a1)).bind fun r1=>
 bif a2 then(some (0,a1,true))
 else(bif (!r1.2.2)then(some (0,a1,true))
 else(some (r1.1,r1.2.1,a2)))
theorem Qjf:OfF Qs vz:=ofF 78
def Jz:rL ZC:=fun D L (y0,y1,y2,y3,y4,y5)=>
 bif (decide (y1<y0))then((Qs D (y2,y3,y4)).bind fun r2=>
 bif fits (y5.length+ [r2.1].length) 8 then
 ZC L (y0,(wR (y1+1)),y2,r2.2.1,r2.2.2,(y5++[r2.1]))else none)
 else(some (y2,y3,y4,y5))
theorem xa:OfL ZC Jz:=ofL 79 0
def jN:rF XH:=fun D L (a0,a1,a2,a3)=>
 (XY D (a0,a1,a2,a3)).bind fun r1=>
 (ZC L (r1.1,0,a0,r1.2.1,r1.2.2,[])).bind fun z3=>
 some (z3.2.2.2,z3.2.1,z3.2.2.1)
theorem QiB:OfF XH jN:=ofF 79
def zz:rL Yc:=fun D L (y0,y1,y2,y3,y4,y5,y6,y7)=>
 bif (decide (y2<y1))then((Qs D (y5,y6,y7)).bind fun r2=>
 (Qs D (y5,r2.2)).bind fun r3=>
 (Qs D (y5,r3.2)).bind fun r4=>
 (Qs D (y5,r4.2)).bind fun r5=>
 (Qs D (y5,r5.2)).bind fun r6=>
 (YH D (y5,r6.2)).bind fun r7=>
 bif fits (y3.length+ [(r2.1,r3.1,r4.1,r5.1,r6.1,r7.1)].length) 56 then
 Yc L (y0,y1,(wR (y2+1)),(y3++[(r2.1,r3.1,r4.1,r5.1,r6.1,r7.1)]),y4,y5,r7.2)else none)
 else(some (y0,y3,y4,y5,y6,y7))
theorem QbL:OfL Yc zz:=ofL 80 0
def jf:rL Z7:=fun D L (y0,y1,y2,y3,y4,y5,y6,y7)=>
 bif (decide (y2<y1))then((Qs D (y5,y6,y7)).bind fun r10=>
 (Qs D (y5,r10.2)).bind fun r11=>
 bif fits (y4.length+ [(r10.1,r11.1)].length) 16 then
 Z7 L (y0,y1,(wR (y2+1)),y3,(y4++[(r10.1,r11.1)]),y5,r11.2)else none)
 else(some (y0,y3,y4,y5,y6,y7))
theorem Qbd:OfL Z7 jf:=ofL 80 2
def Qdz:rF yy:=fun D L a0=>
 (XY D (a0,0,false,5)).bind fun r1=>
 (Yc L (a0,r1.1,0,[],[],a0,r1.2)).bind fun z8=>
 (XY D (z8.2.2.2.1,z8.2.2.2.2.1,z8.2.2.2.2.2,5)).bind fun r9=>
 (Z7 L (z8.1,r9.1,0,z8.2.1,z8.2.2.1,z8.2.2.2.1,r9.2)).bind fun z12=>
 bif z12.2.2.2.2.2 then(some ([],[],false))
 else((XK D (z12.2.1,z12.2.2.1)).bind fun r13=>
 bif (!r13)then(some ([],[],false))
 else((ZY D (z12.2.1,z12.2.2.1)).bind fun r14=>
 (xk D (r14,z12.1)).bind fun r15=>
 bif (!r15)then(some ([],[],false))
 else(some (z12.2.1,z12.2.2.1,true))))
theorem Qnc:OfF yy Qdz:=ofF 80
def zn:rF XY:=fun D L (a0,a1,a2,a3)=>
 (Qs D (a0,a1,a2)).bind fun r1=>
 bif (decide (a3<r1.1))then(some (0,r1.2.1,true))
 else(some r1)
theorem QhK:OfF XY zn:=ofF 81
def QbQ:rL Y4:=fun D L (y0,y1,y2,y3,y4,y5,y6,y7,y8,y9,y10,y11,y12,y13,y14)=>
 bif (decide (y2<y1))then(bif inb y2 y0.length then
 (Qr D ((rd1 (0:Int) y0 y2),0,3)).bind fun r4=>
 bif (!r4)then(some (Sum.inl false))
 else(bif (decide (0<y2))then(bif inb (wR (y2 - 1)) y11.length then
 bif (decide ((rd1 (0:Int) y0 y2)<=(rd1 (0:Int) y11 (wR (y2 - 1)))))then(some (Sum.inl false))
 else(Y4 L (y0,y1,(wR (y2+1)),y3,y4,y5,y6,y7,y8,y9,y10,y11,y12,y13,y14))else none)
 else(Y4 L (y0,y1,(wR (y2+1)),y3,y4,y5,y6,y7,y8,y9,y10,y11,y12,y13,y14)))else none)
 else(some (Sum.inr (y3,y4,y5,y6,y7,y8,y9,y10,y11,y12,y13,y14)))
theorem Qeo:OfL Y4 QbQ:=ofL 82 0
def Qb0:rL Jb:=fun D L (y0,y1,y2,y3,y4,y5,y6,y7,y8,y9,y10,y11,y12,y13,y14)=>
 bif (decide (y2<y1))then(bif inb y2 y0.length then
 (Qr D ((rd1 (0:Int) y0 y2),0,100000)).bind fun r8=>
 bif (!r8)then(some (Sum.inl false))
 else(Jb L (y0,y1,(wR (y2+1)),y3,y4,y5,y6,y7,y8,y9,y10,y11,y12,y13,y14))else none)
 else(some (Sum.inr (y3,y4,y5,y6,y7,y8,y9,y10,y11,y12,y13,y14)))
theorem Qdx:OfL Jb Qb0:=ofL 82 2
def Qhf:rF zB:=fun D L (a0,a1,a2,a3,a4,a5,a6,a7,a8,a9,a10,a11)=>
 (Qr D (a0,0,5)).bind fun r1=>
 bif (!r1)then(some false)
 else((ZK D a1).bind fun r2=>
 bif (!r2)then(some false)
 else((ZK D a2).bind fun r3=>
 bif (!r3)then(some false)
 else(bif (decide (a1=a2))then(some false)
 else((Y4 L (a8,(a8.length:Int),0,a0,a1,a2,a3,a4,a5,a6,a7,a8,a9,a10,a11)).bind fun z5=>
 Qp z5 (fun u6=>
 some u6)
 (fun z7=>
 (Jb L (z7.2.2.2.2.2.2.2.1,(z7.2.2.2.2.2.2.2.1.length:Int),0,z7)).bind fun z9=>
 Qp z9 (fun u10=>
 some u10)
 (fun z11=>
 (Qr D (z11.2.2.2.1,0,100000)).bind fun r12=>
 bif r12 then((Qr D (z11.2.2.2.2.1,0,100000)).bind fun r13=>
 bif r13 then((QaL D (z11.2.2.2.2.2.1,z11.2.2.2.2.2.2.1)).bind fun r14=>
 bif r14 then(bif (decide ((z11.2.2.2.2.2.2.2.1.length:Int)<=5))then((XK D (z11.2.2.2.2.2.2.2.2.2.1,z11.2.2.2.2.2.2.2.2.2.2.1)).bind fun r15=>
 bif r15 then((ym D z11.2.2.2.2.2.2.2.2.2.2.2).bind fun r16=>
 some r16)
 else(some false))
 else(some false))
 else(some false))
 else(some false))
 else(some false)))))))
theorem QpN:OfF zB Qhf:=ofF 82
def Ql1:rF xk:=fun D L (a0,a1)=>
 some (XI (QG a0) (QG a1))
theorem Qos:OfF xk Ql1:=ofF 83
def xT:rL Zf:=fun D L (y0,y1,y2,y3)=>
 bif (decide (y2<y1))then(bif inb y2 y0.length then
 let e15:=(rd1 XB y0 y2);
 (QM D e15.1).bind fun r16=>
 (QM D e15.2).bind fun r17=>
 (XS D [y3,r16,r17]).bind fun r18=>
 Zf L (y0,y1,(wR (y2+1)),r18)else none)
 else(some y3)
theorem vn:OfL Zf xT:=ofL 84 0
def Qcs:rF xL:=fun D L (a0,a1,a2,a3,a4,a5,a6,a7,a8,a9,a10,a11)=>
 (zB D (a0,a1,a2,a3,a4,a5,a6,a7,a8,a9,a10,a11)).bind fun r1=>
 bif (!r1)then(some [])
 else((ZY D (a9,a10)).bind fun r2=>
 (QM D a0).bind fun r3=>
 (QM D a1).bind fun r4=>
 (QM D a2).bind fun r5=>
 (QM D a3).bind fun r6=>
 (QM D a4).bind fun r7=>
 (Vu D a5).bind fun r8=>
 (QM D a6).bind fun r9=>
 (Vu D a7).bind fun r10=>
 (Vu D a8).bind fun r11=>
 (QM D (r2.length:Int)).bind fun r12=>
 (QM D (a11.length:Int)).bind fun r13=>
 (XS D [[82,75],r3,r4,r5,r6,r7,r8,r9,r10,r11,r12,r2,r13]).bind fun r14=>
 (Zf L (a11,(a11.length:Int),0,r14)).bind fun z19=>
 (xz D z19).bind fun r20=>
 (XS D [z19,r20]).bind fun r21=>
 some r21)
theorem QkP:OfF xL Qcs:=ofF 84
def Qfo:rF Qr:=fun D L (a0,a1,a2)=>
 bif (decide (a1<=a0))then(some (decide (a0<=a2)))
 else(some false)
theorem Qow:OfF Qr Qfo:=ofF 85
def QfC:rF xd:=fun D L (a0,a1,a2,a3,a4,a5,a6,a7,a8,a9,a10,a11,a12,a13,a14,a15,a16,a17,a18)=>
 (Qr D (a1,1,5)).bind fun r1=>
 bif (!r1)then(some false)
 else((Qr D (a0,0,(wR (a1 - 1)))).bind fun r2=>
 bif (!r2)then(some false)
 else((XK D (a2,a3)).bind fun r3=>
 bif (!r3)then(some false)
 else((Qac D (a2,a3)).bind fun r4=>
 (xu D (a4,a5,r4)).bind fun r5=>
 bif (!r5)then(some false)
 else((Qav D (a6,a7,a8)).bind fun r6=>
 (yT D (a6,a7,a8)).bind fun r7=>
 bif (!r7)then(some false)
 else((jx D (a9,a1)).bind fun r8=>
 bif (!r8)then(some false)
 else((jx D (a10,a1)).bind fun r9=>
 bif (!r9)then(some false)
 else(bif inb a0 a9.length then
 bif (!decide ((rd1 (0:Int) a9 a0)=r6))then(some false)
 else((Yi D a10).bind fun r10=>
 bif (decide (r6<r10))then(some false)
 else((jz D (a11,a1)).bind fun r11=>
 bif (!r11)then(some false)
 else((Qr D (a12,0,100000)).bind fun r12=>
 bif (!r12)then(some false)
 else((Qr D (a17,0,100000)).bind fun r13=>
 bif (!r13)then(some false)
 else((Qr D (a15,1,20)).bind fun r14=>
 bif r14 then((Qr D (a16,1,50)).bind fun r15=>
 bif r15 then((QaK D (a0,a1,a2,a3,a4,a5,a6,a7,a8,a9,a10,a11,a12,a13,a14,a15,a16,a17,a18)).bind fun r16=>
 bif r16 then((yW D (a0,a1,a2,a3,a4,a5,a6,a7,a8,a9,a10,a11,a12,a13,a14,a15,a16,a17,a18)).bind fun r17=>
 some r17)
 else(some false))
 else(some false))
 else(some false))))))else none)))))))
theorem QnQ:OfF xd QfC:=ofF 86
end
end Go.Proofs.YtiejfnbmficbmaaGreat.M
