/- Plain forms of the functions that FnExactIslands reaches, part 2. No conditions. -/
import Derived.Test.YtiejfnbmficbmaaGreatFnExactIslandsTab
set_option linter.all false
namespace Go.Proofs.YtiejfnbmficbmaaGreat.M
open Go Go.Eng Go.Proofs
set_option linter.unusedVariables false
noncomputable section
def Qbx:rL KF:=fun D L (y0,y1,y2)=>
 bif (decide (y0<(y1.length:Int)))then(bif inb y0 y1.length then
 let e1:=(rd1 XZ y1 y0);
 (Kb D e1.1).bind fun r2=>
 bif (!r2)then(some (Sum.inl false))
 else(bif (decide (0<y0))then(bif inb (wR (y0 - 1)) y1.length then
 let e3:=(rd1 XZ y1 (wR (y0 - 1)));
 bif (decide (e1.1<=e3.1))then(some (Sum.inl false))
 else((qI D e1.2).bind fun r4=>
 bif (!r4)then(some (Sum.inl false))
 else((Ku D (y1,y2,e1.1)).bind fun r5=>
 bif (decide (e1.2.1<=r5))then(some (Sum.inl false))
 else(KF L ((wR (y0+1)),y1,y2))))else none)
 else((qI D e1.2).bind fun r6=>
 bif (!r6)then(some (Sum.inl false))
 else((Ku D (y1,y2,e1.1)).bind fun r7=>
 bif (decide (e1.2.1<=r7))then(some (Sum.inl false))
 else(KF L ((wR (y0+1)),y1,y2)))))else none)
 else(some (Sum.inr (y1,y2)))
theorem Qfb:OfL KF Qbx:=ofL 69 0
def Qbr:rL KN:=fun D L (y0,y1,y2)=>
 bif (decide (y0<(y2.length:Int)))then(bif inb y0 y2.length then
 let e11:=(rd1 XF y2 y0);
 (Kb D e11.1).bind fun r12=>
 bif (!r12)then(some (Sum.inl false))
 else(bif (decide (0<y0))then(bif inb (wR (y0 - 1)) y2.length then
 let e13:=(rd1 XF y2 (wR (y0 - 1)));
 bif (decide (e11.1<=e13.1))then(some (Sum.inl false))
 else((QE D (e11.2,1,1000)).bind fun r14=>
 bif (!r14)then(some (Sum.inl false))
 else(KN L ((wR (y0+1)),y1,y2)))else none)
 else((QE D (e11.2,1,1000)).bind fun r15=>
 bif (!r15)then(some (Sum.inl false))
 else(KN L ((wR (y0+1)),y1,y2))))else none)
 else(some (Sum.inr ()))
theorem Qgt:OfL KN Qbr:=ofL 69 2
def QkH:rF Zw:=fun D L (a0,a1)=>
 (KF L (0,a0,a1)).bind fun z8=>
 Qp z8 (fun u9=>
 some u9)
 (fun z10=>
 (KN L (0,z10)).bind fun z16=>
 Qp z16 (fun u17=>
 some u17)
 (fun z18=>
 some true))
theorem Qu2:OfF Zw QkH:=ofF 69
def vM:rL Jb:=fun D L (y0,y1,y2,y3,y4,y5,y6,y7,y8,y9,y10,y11,y12)=>
 bif (decide (y0<(y9.length:Int)))then(bif inb y0 y9.length then
 bif inb (wR (y0 - 1)) y9.length then
 bif (decide ((rd1 (0:Int) y9 y0)<=(rd1 (0:Int) y9 (wR (y0 - 1)))))then(some (Sum.inl false))
 else(Jb L ((wR (y0+1)),y1,y2,y3,y4,y5,y6,y7,y8,y9,y10,y11,y12))else none else none)
 else(some (Sum.inr ()))
theorem Qac:OfL Jb vM:=ofL 74 0
def QnS:rF Qb9:=fun D L (a0,a1,a2,a3,a4,a5,a6,a7,a8,a9,a10,a11)=>
 (QE D (a0,0,5)).bind fun r1=>
 bif (!r1)then(some false)
 else((Kb D a1).bind fun r2=>
 bif (!r2)then(some false)
 else((Kb D a2).bind fun r3=>
 bif (!r3)then(some false)
 else(bif (decide (a1=a2))then(some false)
 else((QE D (a3,0,100000)).bind fun r4=>
 bif (!r4)then(some false)
 else((QE D (a4,0,100000)).bind fun r5=>
 bif (!r5)then(some false)
 else((Qdo D (a5,a6)).bind fun r6=>
 bif (!r6)then(some false)
 else((xm D (a7,5,100000)).bind fun r7=>
 bif (!r7)then(some false)
 else((xm D (a8,4,3)).bind fun r8=>
 bif (!r8)then(some false)
 else((Zw D (a9,a10)).bind fun r9=>
 bif (!r9)then(some false)
 else((yn D a11).bind fun r10=>
 bif (!r10)then(some false)
 else((Jb L (1,a0,a1,a2,a3,a4,a5,a6,a7,a8,a9,a10,a11)).bind fun z11=>
 Qp z11 (fun u12=>
 some u12)
 (fun z13=>
 some true))))))))))))
theorem QxD:OfF Qb9 QnS:=ofF 74
def Ql2:rF QeL:=fun D L (a0,a1,a2,a3,a4,a5,a6,a7,a8,a9,a10,a11,a12,a13,a14,a15,a16,a17,a18)=>
 (xl D (a2,a3)).bind fun r1=>
 (Qe8 D (a4,a5)).bind fun r2=>
 (Qid D (a6,a7,a8)).bind fun r3=>
 (ZM D a9).bind fun r4=>
 (ZM D a10).bind fun r5=>
 (Qcw D a11).bind fun r6=>
 (QcV D a14).bind fun r7=>
 (Qc4 D a18).bind fun r8=>
 some (a0,a1,r1.1,r1.2,r2.1,r2.2,r3.1,r3.2.1,r3.2.2,r4,r5,r6,a12,a13,r7,a15,a16,a17,r8)
theorem QvE:OfF QeL Ql2:=ofF 75
def Ql0:rF QeN:=fun D L (a0,a1,a2)=>
 (QcX D a1).bind fun r1=>
 some (a0,r1,a2)
theorem QwI:OfF QeN Ql0:=ofF 76
def Qmn:rF QeS:=fun D L (a0,a1,a2)=>
 (xl D (a1,a2)).bind fun r1=>
 some (a0,r1)
theorem Qwe:OfF QeS Qmn:=ofF 77
def Qg6:rL Jg:=fun D L (y0,y1,y2,y3,y4,y5,y6,y7,y8,y9,y10,y11,y12,y13,y14)=>
 bif (decide (y2<y1))then(bif inb y2 y0.length then
 (QC D ((rd1 (0:Int) y0 y2),0,3)).bind fun r4=>
 bif (!r4)then(some (Sum.inl false))
 else(bif (decide (0<y2))then(bif inb (wR (y2 - 1)) y11.length then
 bif (decide ((rd1 (0:Int) y0 y2)<=(rd1 (0:Int) y11 (wR (y2 - 1)))))then(some (Sum.inl false))
 else(Jg L (y0,y1,(wR (y2+1)),y3,y4,y5,y6,y7,y8,y9,y10,y11,y12,y13,y14))else none)
 else(Jg L (y0,y1,(wR (y2+1)),y3,y4,y5,y6,y7,y8,y9,y10,y11,y12,y13,y14)))else none)
 else(some (Sum.inr (y3,y4,y5,y6,y7,y8,y9,y10,y11,y12,y13,y14)))
theorem QjR:OfL Jg Qg6:=ofL 82 0
def QgT:rL xZ:=fun D L (y0,y1,y2,y3,y4,y5,y6,y7,y8,y9,y10,y11,y12,y13,y14)=>
 bif (decide (y2<y1))then(bif inb y2 y0.length then
 (QC D ((rd1 (0:Int) y0 y2),0,100000)).bind fun r8=>
 bif (!r8)then(some (Sum.inl false))
 else(xZ L (y0,y1,(wR (y2+1)),y3,y4,y5,y6,y7,y8,y9,y10,y11,y12,y13,y14))else none)
 else(some (Sum.inr (y3,y4,y5,y6,y7,y8,y9,y10,y11,y12,y13,y14)))
theorem Qi7:OfL xZ QgT:=ofL 82 2
def QnP:rF Qbp:=fun D L (a0,a1,a2,a3,a4,a5,a6,a7,a8,a9,a10,a11)=>
 (QC D (a0,0,5)).bind fun r1=>
 bif (!r1)then(some false)
 else((Kf D a1).bind fun r2=>
 bif (!r2)then(some false)
 else((Kf D a2).bind fun r3=>
 bif (!r3)then(some false)
 else(bif (decide (a1=a2))then(some false)
 else((Jg L (a8,(a8.length:Int),0,a0,a1,a2,a3,a4,a5,a6,a7,a8,a9,a10,a11)).bind fun z5=>
 Qp z5 (fun u6=>
 some u6)
 (fun z7=>
 (xZ L (z7.2.2.2.2.2.2.2.1,(z7.2.2.2.2.2.2.2.1.length:Int),0,z7)).bind fun z9=>
 Qp z9 (fun u10=>
 some u10)
 (fun z11=>
 (QC D (z11.2.2.2.1,0,100000)).bind fun r12=>
 bif r12 then((QC D (z11.2.2.2.2.1,0,100000)).bind fun r13=>
 bif r13 then((Qeu D (z11.2.2.2.2.2.1,z11.2.2.2.2.2.2.1)).bind fun r14=>
 bif r14 then(bif (decide ((z11.2.2.2.2.2.2.2.1.length:Int)<=5))then((XG D (z11.2.2.2.2.2.2.2.2.2.1,z11.2.2.2.2.2.2.2.2.2.2.1)).bind fun r15=>
 bif r15 then((yG D z11.2.2.2.2.2.2.2.2.2.2.2).bind fun r16=>
 some r16)
 else(some false))
 else(some false))
 else(some false))
 else(some false))
 else(some false)))))))
theorem QxQ:OfF Qbp QnP:=ofF 82
def Qk6:rF QC:=fun D L (a0,a1,a2)=>
 bif (decide (a1<=a0))then(some (decide (a0<=a2)))
 else(some false)
theorem Qvy:OfF QC Qk6:=ofF 85
def Ql3:rF ZO:=fun D L (a0,a1,a2,a3,a4,a5,a6,a7,a8,a9,a10,a11,a12,a13,a14,a15,a16,a17,a18)=>
 (QC D (a1,1,5)).bind fun r1=>
 bif (!r1)then(some false)
 else((QC D (a0,0,(wR (a1 - 1)))).bind fun r2=>
 bif (!r2)then(some false)
 else((XG D (a2,a3)).bind fun r3=>
 bif (!r3)then(some false)
 else((zm D (a2,a3)).bind fun r4=>
 (vP D (a4,a5,r4)).bind fun r5=>
 bif (!r5)then(some false)
 else((Vf D (a6,a7,a8)).bind fun r6=>
 (xJ D (a6,a7,a8)).bind fun r7=>
 bif (!r7)then(some false)
 else((Qbe D (a9,a1)).bind fun r8=>
 bif (!r8)then(some false)
 else((Qbe D (a10,a1)).bind fun r9=>
 bif (!r9)then(some false)
 else(bif inb a0 a9.length then
 bif (!decide ((rd1 (0:Int) a9 a0)=r6))then(some false)
 else((K4 D a10).bind fun r10=>
 bif (decide (r6<r10))then(some false)
 else((Qcp D (a11,a1)).bind fun r11=>
 bif (!r11)then(some false)
 else((QC D (a12,0,100000)).bind fun r12=>
 bif (!r12)then(some false)
 else((QC D (a17,0,100000)).bind fun r13=>
 bif (!r13)then(some false)
 else((QC D (a15,1,20)).bind fun r14=>
 bif r14 then((QC D (a16,1,50)).bind fun r15=>
 bif r15 then((QeY D (a0,a1,a2,a3,a4,a5,a6,a7,a8,a9,a10,a11,a12,a13,a14,a15,a16,a17,a18)).bind fun r16=>
 bif r16 then((Qcu D (a0,a1,a2,a3,a4,a5,a6,a7,a8,a9,a10,a11,a12,a13,a14,a15,a16,a17,a18)).bind fun r17=>
 some r17)
 else(some false))
 else(some false))
 else(some false))))))else none)))))))
theorem QvG:OfF ZO Ql3:=ofF 86
def Qkf:rF VE:=fun D L (a0,a1,a2,a3)=>
 (QC D (a3,0,(wR ((a0.length:Int) - 1)))).bind fun r1=>
 some r1
theorem QsP:OfF VE Qkf:=ofF 87
def QbK:rL KE:=fun D L (y0,y1,y2,y3,y4)=>
 bif (decide (y2<y1))then(bif inb y2 y0.length then
 let e1:=(rd1 XF y0 y2);
 (Kf D e1.1).bind fun r2=>
 bif (!r2)then(some (Sum.inl false))
 else((QC D (e1.2,1,1000)).bind fun r3=>
 bif (!r3)then(some (Sum.inl false))
 else(bif (decide (0<y2))then(bif inb (wR (y2 - 1)) y4.length then
 let e4:=(rd1 XF y4 (wR (y2 - 1)));
 bif (decide (e1.1<=e4.1))then(some (Sum.inl false))
 else(KE L (y0,y1,(wR (y2+1)),y3,y4))else none)
 else(KE L (y0,y1,(wR (y2+1)),y3,y4))))else none)
 else(some (Sum.inr (y3,y4)))
theorem QfX:OfL KE QbK:=ofL 88 0
def Qbf:rL KR:=fun D L (y0,y1,y2,y3,y4)=>
 bif (decide (y2<y1))then(bif inb y2 y0.length then
 let e8:=(rd1 XZ y0 y2);
 (Kf D e8.1).bind fun r9=>
 bif (!r9)then(some (Sum.inl false))
 else((yl D e8.2).bind fun r10=>
 bif (!r10)then(some (Sum.inl false))
 else((VP D (y3,y4,e8.1)).bind fun r11=>
 bif (decide (e8.2.1<=r11))then(some (Sum.inl false))
 else(bif (decide (0<y2))then(bif inb (wR (y2 - 1)) y3.length then
 let e12:=(rd1 XZ y3 (wR (y2 - 1)));
 bif (decide (e8.1<=e12.1))then(some (Sum.inl false))
 else(KR L (y0,y1,(wR (y2+1)),y3,y4))else none)
 else(KR L (y0,y1,(wR (y2+1)),y3,y4)))))else none)
 else(some (Sum.inr ()))
theorem QgM:OfL KR Qbf:=ofL 88 2
def Qi3:rF XG:=fun D L (a0,a1)=>
 (KE L (a1,(a1.length:Int),0,a0,a1)).bind fun z5=>
 Qp z5 (fun u6=>
 some u6)
 (fun z7=>
 (KR L (z7.1,(z7.1.length:Int),0,z7)).bind fun z13=>
 Qp z13 (fun u14=>
 some u14)
 (fun z15=>
 some true))
theorem Qu0:OfF XG Qi3:=ofF 88
def QkM:rF Qeq:=fun D L (a0,a1,a2,a3,a4,a5,a6,a7,a8,a9,a10,a11,a12,a13,a14,a15,a16,a17,a18,a19,a20,a21,a22,a23,a24,a25,a26,a27,a28,a29,a30,a31,a32,a33,a34,a35,a36,a37)=>
 bif (!decide (a0=a19))then(some false)
 else(bif (!decide (a1=a20))then(some false)
 else((xp D (a2,a3,a21,a22)).bind fun r1=>
 bif (!r1)then(some false)
 else((Qep D (a4,a5,a23,a24)).bind fun r2=>
 bif (!r2)then(some false)
 else((QhV D (a6,a7,a8,a25,a26,a27)).bind fun r3=>
 bif (!r3)then(some false)
 else((Vn D (a9,a28)).bind fun r4=>
 bif (!r4)then(some false)
 else((Vn D (a10,a29)).bind fun r5=>
 bif (!r5)then(some false)
 else((QcH D (a11,a30)).bind fun r6=>
 bif (!r6)then(some false)
 else(bif (!decide (a12=a31))then(some false)
 else(bif (!decide (a13=a32))then(some false)
 else((Qbn D (a14,a33)).bind fun r7=>
 bif (!r7)then(some false)
 else(bif (!decide (a15=a34))then(some false)
 else(bif (!decide (a16=a35))then(some false)
 else(bif (!decide (a17=a36))then(some false)
 else((QbY D (a18,a37)).bind fun r8=>
 bif (!r8)then(some false)
 else(some true)))))))))))))))
theorem Qvx:OfF Qeq QkM:=ofF 89
def QkQ:rF QeD:=fun D L (a0,a1,a2,a3,a4,a5)=>
 bif (!decide (a0=a3))then(some false)
 else((QbJ D (a1,a4)).bind fun r1=>
 bif (!r1)then(some false)
 else(bif (!(a2==a5))then(some false)
 else(some true)))
theorem Qvo:OfF QeD QkQ:=ofF 90
def Qk3:rF Qev:=fun D L (a0,a1,a2,a3,a4,a5)=>
 bif (!decide (a0=a3))then(some false)
 else((xp D (a1,a2,a4,a5)).bind fun r1=>
 bif (!r1)then(some false)
 else(some true))
theorem QvV:OfF Qev Qk3:=ofF 91
def Qkw:rF Xt:=fun D L (a0,a1,a2,a3,a4,a5,a6,a7,a8,a9,a10,a11,a12,a13,a14,a15,a16,a17,a18)=>
 (Kd D (a2,a3)).bind fun r1=>
 (Ki D (a4,a5)).bind fun r2=>
 (Qew D (a6,a7,a8)).bind fun r3=>
 bif fits (List.length ([]:List Int)+a9.length) 8 then
 bif fits (List.length ([]:List Int)+a10.length) 8 then
 (vp D a11).bind fun r4=>
 bif fits (List.length ([]:List Qy)+a14.length) 32 then
 bif fits (List.length ([]:List QM)+a18.length) 24 then
 some (a0,a1,r1.1,r1.2,r2.1,r2.2,r3.1,r3.2.1,r3.2.2,(([]:List Int)++a9),(([]:List Int)++a10),r4,a12,a13,(([]:List Qy)++a14),a15,a16,a17,(([]:List QM)++a18))else none else none else none else none
theorem Qti:OfF Xt Qkw:=ofF 92
def Qj6:rF Qbi:=fun D L (a0,a1,a2)=>
 bif fits (List.length ([]:List Int)+a1.length) 1 then
 some (a0,(([]:List Int)++a1),a2)else none
theorem QuB:OfF Qbi Qj6:=ofF 93
def QkS:rF Kd:=fun D L (a0,a1)=>
 bif fits (List.length ([]:List Qg)+a0.length) 56 then
 bif fits (List.length ([]:List Qb)+a1.length) 16 then
 some ((([]:List Qg)++a0),(([]:List Qb)++a1))else none else none
theorem QvW:OfF Kd QkS:=ofF 94
def Qkg:rL qY:=fun D L (y0,y1,y2,y3,y4,y5,y6,y7,y8,y9,y10,y11,y12,y13,y14,y15,y16,y17,y18,y19,y20,y21,y22,y23,y24,y25,y26,y27,y28,y29,y30,y31,y32,y33,y34,y35,y36,y37,y38)=>
 bif (decide (y0<(y15.length:Int)))then(bif inb y0 y15.length then
 let e3:=(rd1 XX y15 y0);
 bif (decide ((wR (e3.2.2.2+1))<=y16))then(bif fits (y34.length+ [(e3.1,e3.2.1,e3.2.2.1,(wR (e3.2.2.2+1)))].length) 32 then
 qY L ((wR (y0+1)),y1,y2,y3,y4,y5,y6,y7,y8,y9,y10,y11,y12,y13,y14,y15,y16,y17,y18,y19,y20,y21,y22,y23,y24,y25,y26,y27,y28,y29,y30,y31,y32,y33,(y34++[(e3.1,e3.2.1,e3.2.2.1,(wR (e3.2.2.2+1)))]),y35,y36,y37,y38)else none)
 else(qY L ((wR (y0+1)),y1,y2,y3,y4,y5,y6,y7,y8,y9,y10,y11,y12,y13,y14,y15,y16,y17,y18,y19,y20,y21,y22,y23,y24,y25,y26,y27,y28,y29,y30,y31,y32,y33,y34,y35,y36,y37,y38))else none)
 else(some (y20,y21,y22,y23,y24,y25,y26,y27,y28,y29,y30,y31,y32,y33,y34,y35,y36,y37,y38))
theorem Qmp:OfL qY Qkg:=ofL 96 0
def Qo6:rF Qf3:=fun D L (a0,a1,a2,a3,a4,a5,a6,a7,a8,a9,a10,a11,a12,a13,a14,a15,a16,a17,a18)=>
 (Xt D (a0,a1,a2,a3,a4,a5,a6,a7,a8,a9,a10,a11,a12,a13,a14,a15,a16,a17,a18)).bind fun r1=>
 (Ka D (a0,a1,a2,a3,a4,a5,a6,a7,a8,a9,a10,a11,a12,a13,a14,a15,a16,a17,a18)).bind fun r2=>
 bif (!r2)then(some r1)
 else(bif (decide (a17=100000))then(some r1)
 else((qY L (0,a0,a1,a2,a3,a4,a5,a6,a7,a8,a9,a10,a11,a12,a13,a14,a15,a16,a17,a18,r1.1,r1.2.1,r1.2.2.1,r1.2.2.2.1,r1.2.2.2.2.1,r1.2.2.2.2.2.1,r1.2.2.2.2.2.2.1,r1.2.2.2.2.2.2.2.1,r1.2.2.2.2.2.2.2.2.1,r1.2.2.2.2.2.2.2.2.2.1,r1.2.2.2.2.2.2.2.2.2.2.1,r1.2.2.2.2.2.2.2.2.2.2.2.1,r1.2.2.2.2.2.2.2.2.2.2.2.2.1,r1.2.2.2.2.2.2.2.2.2.2.2.2.2.1,[],r1.2.2.2.2.2.2.2.2.2.2.2.2.2.2.2.1,r1.2.2.2.2.2.2.2.2.2.2.2.2.2.2.2.2.1,(wR (r1.2.2.2.2.2.2.2.2.2.2.2.2.2.2.2.2.2.1+1)),r1.2.2.2.2.2.2.2.2.2.2.2.2.2.2.2.2.2.2)).bind fun z4=>
 some z4))
theorem QAA:OfF Qf3 Qo6:=ofF 96
def Qhu:rF ZW:=fun D L (a0,a1,a2,a3,a4,a5,a6,a7,a8,a9,a10,a11,a12,a13,a14,a15,a16,a17,a18)=>
 (Zy D (a2,a3)).bind fun r1=>
 (ZY D (a4,a5)).bind fun r2=>
 (QbU D (a6,a7,a8)).bind fun r3=>
 (Zx D a9).bind fun r4=>
 (Zx D a10).bind fun r5=>
 (qU D a11).bind fun r6=>
 bif fits (List.length ([]:List Qy)+a14.length) 32 then
 bif fits (List.length ([]:List QM)+a18.length) 24 then
 some (a0,a1,r1.1,r1.2,r2.1,r2.2,r3.1,r3.2.1,r3.2.2,r4,r5,r6,a12,a13,(([]:List Qy)++a14),a15,a16,a17,(([]:List QM)++a18))else none else none
theorem Qsw:OfF ZW Qhu:=ofF 99
def QhC:rF vJ:=fun D L (a0,a1,a2)=>
 (Kj D [a1]).bind fun r1=>
 some (a0,r1,a2)
theorem Qsr:OfF vJ QhC:=ofF 100
def Qgp:rF Zy:=fun D L (a0,a1)=>
 bif fits (List.length ([]:List Qg)+a0.length) 56 then
 bif fits (List.length ([]:List Qb)+a1.length) 16 then
 some ((([]:List Qg)++a0),(([]:List Qb)++a1))else none else none
theorem QqQ:OfF Zy Qgp:=ofF 101
def QiJ:rL xn:=fun D L (y0,y1,y2,y3,y4,y5,y6,y7,y8,y9,y10,y11,y12,y13,y14,y15,y16,y17,y18,y19,y20,y21,y22,y23,y24,y25,y26,y27,y28,y29,y30,y31,y32,y33,y34,y35,y36,y37,y38,y39,y40)=>
 bif (decide (y2<y1))then(bif inb y2 y0.length then
 let e3:=(rd1 XX y0 y2);
 bif (decide ((wR (e3.2.2.2+1))<=y18))then(bif fits (y36.length+ [(e3.1,e3.2.1,e3.2.2.1,(wR (e3.2.2.2+1)))].length) 32 then
 xn L (y0,y1,(wR (y2+1)),y3,y4,y5,y6,y7,y8,y9,y10,y11,y12,y13,y14,y15,y16,y17,y18,y19,y20,y21,y22,y23,y24,y25,y26,y27,y28,y29,y30,y31,y32,y33,y34,y35,(y36++[(e3.1,e3.2.1,e3.2.2.1,(wR (e3.2.2.2+1)))]),y37,y38,y39,y40)else none)
 else(xn L (y0,y1,(wR (y2+1)),y3,y4,y5,y6,y7,y8,y9,y10,y11,y12,y13,y14,y15,y16,y17,y18,y19,y20,y21,y22,y23,y24,y25,y26,y27,y28,y29,y30,y31,y32,y33,y34,y35,y36,y37,y38,y39,y40))else none)
 else(some (y22,y23,y24,y25,y26,y27,y28,y29,y30,y31,y32,y33,y34,y35,y36,y37,y38,y39,y40))
theorem QlT:OfL xn QiJ:=ofL 103 0
def Qpb:rF Qlk:=fun D L (a0,a1,a2,a3,a4,a5,a6,a7,a8,a9,a10,a11,a12,a13,a14,a15,a16,a17,a18)=>
 (ZW D (a0,a1,a2,a3,a4,a5,a6,a7,a8,a9,a10,a11,a12,a13,a14,a15,a16,a17,a18)).bind fun r1=>
 (ZO D (a0,a1,a2,a3,a4,a5,a6,a7,a8,a9,a10,a11,a12,a13,a14,a15,a16,a17,a18)).bind fun r2=>
 bif (!r2)then(some r1)
 else(bif (decide (a17=100000))then(some r1)
 else((xn L (a14,(a14.length:Int),0,a0,a1,a2,a3,a4,a5,a6,a7,a8,a9,a10,a11,a12,a13,a14,a15,a16,a17,a18,r1.1,r1.2.1,r1.2.2.1,r1.2.2.2.1,r1.2.2.2.2.1,r1.2.2.2.2.2.1,r1.2.2.2.2.2.2.1,r1.2.2.2.2.2.2.2.1,r1.2.2.2.2.2.2.2.2.1,r1.2.2.2.2.2.2.2.2.2.1,r1.2.2.2.2.2.2.2.2.2.2.1,r1.2.2.2.2.2.2.2.2.2.2.2.1,r1.2.2.2.2.2.2.2.2.2.2.2.2.1,r1.2.2.2.2.2.2.2.2.2.2.2.2.2.1,[],r1.2.2.2.2.2.2.2.2.2.2.2.2.2.2.2.1,r1.2.2.2.2.2.2.2.2.2.2.2.2.2.2.2.2.1,(wR (r1.2.2.2.2.2.2.2.2.2.2.2.2.2.2.2.2.2.1+1)),r1.2.2.2.2.2.2.2.2.2.2.2.2.2.2.2.2.2.2)).bind fun z4=>
 some z4))
theorem Qy1:OfF Qlk Qpb:=ofF 103
def QhA:rF vS:=fun D L (a0,a1,a2,a3,a4)=>
 (Y7 D (a0,a1,a2)).bind fun r1=>
 (xz D (a0,a1,a2)).bind fun r2=>
 bif (!r2)then(some (r1.1,r1.2.1,r1.2.2,false))
 else((VE D (a0,a1,a2,a3)).bind fun r3=>
 bif (!r3)then(some (r1.1,r1.2.1,r1.2.2,false))
 else((VE D (a0,a1,a2,a4)).bind fun r4=>
 bif (!r4)then(some (r1.1,r1.2.1,r1.2.2,false))
 else(bif (decide (a3=a4))then(some (r1.1,r1.2.1,r1.2.2,false))
 else((Y7 D (a0,a1,a2)).bind fun r5=>
 bif inb a3 a0.length then
 let e6:=(rd1 Qv a0 a3);
 (QkG D (e6.1,e6.2.1,e6.2.2.1,e6.2.2.2.1,e6.2.2.2.2.1,e6.2.2.2.2.2.1,e6.2.2.2.2.2.2.1,e6.2.2.2.2.2.2.2.1,e6.2.2.2.2.2.2.2.2.1,e6.2.2.2.2.2.2.2.2.2.1,e6.2.2.2.2.2.2.2.2.2.2.1,e6.2.2.2.2.2.2.2.2.2.2.2.1,e6.2.2.2.2.2.2.2.2.2.2.2.2.1,e6.2.2.2.2.2.2.2.2.2.2.2.2.2.1,e6.2.2.2.2.2.2.2.2.2.2.2.2.2.2.1,e6.2.2.2.2.2.2.2.2.2.2.2.2.2.2.2.1,e6.2.2.2.2.2.2.2.2.2.2.2.2.2.2.2.2.1,e6.2.2.2.2.2.2.2.2.2.2.2.2.2.2.2.2.2.1,e6.2.2.2.2.2.2.2.2.2.2.2.2.2.2.2.2.2.2,a4)).bind fun r7=>
 bif (!r7.2.2.2.2.2.2.2.2.2.2.2.2.2.2.2.2.2.2.2.2.2.2.2.2.2.2.2.2.2.2.2)then(some (r1.1,r1.2.1,r1.2.2,false))
 else(bif inb a3 r5.1.length then
 let l8:=List.set r5.1 (Int.toNat a3) (r7.1,r7.2.1,r7.2.2.1,r7.2.2.2.1,r7.2.2.2.2.1,r7.2.2.2.2.2.1,r7.2.2.2.2.2.2.1,r7.2.2.2.2.2.2.2.1,r7.2.2.2.2.2.2.2.2.1,r7.2.2.2.2.2.2.2.2.2.1,r7.2.2.2.2.2.2.2.2.2.2.1,r7.2.2.2.2.2.2.2.2.2.2.2.1,r7.2.2.2.2.2.2.2.2.2.2.2.2.1,r7.2.2.2.2.2.2.2.2.2.2.2.2.2.1,r7.2.2.2.2.2.2.2.2.2.2.2.2.2.2.1,r7.2.2.2.2.2.2.2.2.2.2.2.2.2.2.2.1,r7.2.2.2.2.2.2.2.2.2.2.2.2.2.2.2.2.1,r7.2.2.2.2.2.2.2.2.2.2.2.2.2.2.2.2.2.1,r7.2.2.2.2.2.2.2.2.2.2.2.2.2.2.2.2.2.2.1);
 (JF D (l8,r5.2.1,r5.2.2,r7.2.2.2.2.2.2.2.2.2.2.2.2.2.2.2.2.2.2.2.1,r7.2.2.2.2.2.2.2.2.2.2.2.2.2.2.2.2.2.2.2.2.1,r7.2.2.2.2.2.2.2.2.2.2.2.2.2.2.2.2.2.2.2.2.2.1,r7.2.2.2.2.2.2.2.2.2.2.2.2.2.2.2.2.2.2.2.2.2.2.1,r7.2.2.2.2.2.2.2.2.2.2.2.2.2.2.2.2.2.2.2.2.2.2.2.1,r7.2.2.2.2.2.2.2.2.2.2.2.2.2.2.2.2.2.2.2.2.2.2.2.2.1,r7.2.2.2.2.2.2.2.2.2.2.2.2.2.2.2.2.2.2.2.2.2.2.2.2.2.1,r7.2.2.2.2.2.2.2.2.2.2.2.2.2.2.2.2.2.2.2.2.2.2.2.2.2.2.1,r7.2.2.2.2.2.2.2.2.2.2.2.2.2.2.2.2.2.2.2.2.2.2.2.2.2.2.2.1,r7.2.2.2.2.2.2.2.2.2.2.2.2.2.2.2.2.2.2.2.2.2.2.2.2.2.2.2.2.1,r7.2.2.2.2.2.2.2.2.2.2.2.2.2.2.2.2.2.2.2.2.2.2.2.2.2.2.2.2.2.1,r7.2.2.2.2.2.2.2.2.2.2.2.2.2.2.2.2.2.2.2.2.2.2.2.2.2.2.2.2.2.2.1)).bind fun r9=>
 bif (!r9.2.2.2.2.2.2.2.2.2.2.2.2.1)then(some (r1.1,r1.2.1,r1.2.2,false))
 else(bif (!r9.2.2.2.2.2.2.2.2.2.2.2.2.2.1)then(some (r1.1,r1.2.1,r1.2.2,false))
 else((JF D (r9.2.2.2.2.2.2.2.2.2.2.2.2.2.2,r5.2.1,r5.2.2,r9.1,r9.2.1,r9.2.2.1,r9.2.2.2.1,r9.2.2.2.2.1,r9.2.2.2.2.2.1,r9.2.2.2.2.2.2.1,r9.2.2.2.2.2.2.2.1,r9.2.2.2.2.2.2.2.2.1,r9.2.2.2.2.2.2.2.2.2.1,r9.2.2.2.2.2.2.2.2.2.2.1,r9.2.2.2.2.2.2.2.2.2.2.2.1)).bind fun r10=>
 bif (!r10.2.2.2.2.2.2.2.2.2.2.2.2.1)then(some (r1.1,r1.2.1,r1.2.2,false))
 else(bif (!r10.2.2.2.2.2.2.2.2.2.2.2.2.2.1)then(some (r1.1,r1.2.1,r1.2.2,false))
 else((JF D (r10.2.2.2.2.2.2.2.2.2.2.2.2.2.2,r5.2.1,r5.2.2,r10.1,r10.2.1,r10.2.2.1,r10.2.2.2.1,r10.2.2.2.2.1,r10.2.2.2.2.2.1,r10.2.2.2.2.2.2.1,r10.2.2.2.2.2.2.2.1,r10.2.2.2.2.2.2.2.2.1,r10.2.2.2.2.2.2.2.2.2.1,r10.2.2.2.2.2.2.2.2.2.2.1,r10.2.2.2.2.2.2.2.2.2.2.2.1)).bind fun r11=>
 bif (!r11.2.2.2.2.2.2.2.2.2.2.2.2.1)then(some (r1.1,r1.2.1,r1.2.2,false))
 else(some (r11.2.2.2.2.2.2.2.2.2.2.2.2.2.2,r5.2.1,r5.2.2,true))))))else none)else none))))
theorem QrQ:OfF vS QhA:=ofF 106
def vb:rL YC:=fun D L (y0,y1,y2)=>
 bif (decide (y1<(y2.length:Int)))then(bif inb y1 y2.length then
 let e1:=(rd1 XZ y2 y1);
 let l2:=List.set y2 (Int.toNat y1) (y0,e1.2);
 bif inb y1 l2.length then
 let e3:=(rd1 XZ l2 y1);
 let l4:=List.set l2 (Int.toNat y1) (e3.1,(wR (y0+1)),e3.2.2);
 bif inb y1 l4.length then
 let e5:=(rd1 XZ l4 y1);
 let l6:=List.set l4 (Int.toNat y1) (e5.1,e5.2.1,(wR ((wR (y0+1))+1)),e5.2.2.2);
 bif inb y1 l6.length then
 let e7:=(rd1 XZ l6 y1);
 let l8:=List.set l6 (Int.toNat y1) (e7.1,e7.2.1,e7.2.2.1,(wR ((wR ((wR (y0+1))+1))+1)),e7.2.2.2.2);
 bif inb y1 l8.length then
 let e9:=(rd1 XZ l8 y1);
 let l10:=List.set l8 (Int.toNat y1) (e9.1,e9.2.1,e9.2.2.1,e9.2.2.2.1,(wR ((wR ((wR ((wR (y0+1))+1))+1))+1)),e9.2.2.2.2.2);
 (K3 D (wR ((wR ((wR ((wR ((wR (y0+1))+1))+1))+1))+1))).bind fun r11=>
 bif inb y1 l10.length then
 let e12:=(rd1 XZ l10 y1);
 let l13:=List.set l10 (Int.toNat y1) (e12.1,e12.2.1,e12.2.2.1,e12.2.2.2.1,e12.2.2.2.2.1,r11);
 YC L ((wR ((wR ((wR ((wR ((wR ((wR (y0+1))+1))+1))+1))+1))+1)),(wR (y1+1)),l13)else none else none else none else none else none else none)
 else(some (y0,y2))
theorem Qca:OfL YC vb:=ofL 107 0
def Qgs:rF Vu:=fun D L (a0,a1)=>
 (YC L (a1,0,a0)).bind fun z14=>
 some z14
theorem Qq2:OfF Vu Qgs:=ofF 107
end
end Go.Proofs.YtiejfnbmficbmaaGreat.M
