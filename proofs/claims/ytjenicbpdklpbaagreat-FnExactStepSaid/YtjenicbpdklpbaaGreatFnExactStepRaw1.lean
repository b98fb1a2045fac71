/- Plain forms of the functions that FnExactStep reaches, part 1. No conditions. -/
import Derived.Test.YtjenicbpdklpbaaGreatFnExactStepTab
set_option linter.all false
namespace Go.Proofs.YtjenicbpdklpbaaGreat.M
open Go Go.Eng Go.Proofs
set_option linter.unusedVariables false
noncomputable section
def QjA:rF VH:=fun D L (a0,a1,a2,a3)=>
 (QA D (a3,0,(wR ((a0.length:Int) - 1)))).bind fun r1=>
 some r1
theorem Qs6:OfF VH QjA:=ofF 64
def QkG:rF Vq:=fun D L (a0,a1,a2)=>
 (Yt D (a0,a1,a2)).bind fun r1=>
 bif (!r1)then(some 0)
 else(some (wR (a1+(a2.length:Int))))
theorem Qww:OfF Vq QkG:=ofF 65
def QaG:rL JZ:=fun D L (y0,y1,y2)=>
 bif (decide (y2<(y0.length:Int)))then(bif inb y2 y0.length then
 let e1:=(rd1 Qv y0 y2);
 bif inb y2 y1.length then
 let e2:=(rd1 Qv y1 y2);
 (QeX D (e1.1,e1.2.1,e1.2.2.1,e1.2.2.2.1,e1.2.2.2.2.1,e1.2.2.2.2.2.1,e1.2.2.2.2.2.2.1,e1.2.2.2.2.2.2.2.1,e1.2.2.2.2.2.2.2.2.1,e1.2.2.2.2.2.2.2.2.2.1,e1.2.2.2.2.2.2.2.2.2.2.1,e1.2.2.2.2.2.2.2.2.2.2.2.1,e1.2.2.2.2.2.2.2.2.2.2.2.2.1,e1.2.2.2.2.2.2.2.2.2.2.2.2.2.1,e1.2.2.2.2.2.2.2.2.2.2.2.2.2.2.1,e1.2.2.2.2.2.2.2.2.2.2.2.2.2.2.2.1,e1.2.2.2.2.2.2.2.2.2.2.2.2.2.2.2.2.1,e1.2.2.2.2.2.2.2.2.2.2.2.2.2.2.2.2.2.1,e1.2.2.2.2.2.2.2.2.2.2.2.2.2.2.2.2.2.2,e2)).bind fun r3=>
 bif (!r3)then(some (Sum.inl false))
 else(JZ L (y0,y1,(wR (y2+1))))else none else none)
 else(some (Sum.inr ()))
theorem Qe3:OfL JZ QaG:=ofL 66 0
def Qi8:rF QcZ:=fun D L (a0,a1)=>
 bif (!decide ((a0.length:Int)=(a1.length:Int)))then(some false)
 else((JZ L (a0,a1,0)).bind fun z4=>
 Qn z4 (fun u5=>
 some u5)
 (fun z6=>
 some true))
theorem QsK:OfF QcZ Qi8:=ofF 66
def QaP:rL JL:=fun D L (y0,y1,y2)=>
 bif (decide (y2<(y0.length:Int)))then(bif inb y2 y0.length then
 let e1:=(rd1 qG y0 y2);
 bif inb y2 y1.length then
 let e2:=(rd1 qG y1 y2);
 (Qej D (e1.1,e1.2.1,e1.2.2,e2)).bind fun r3=>
 bif (!r3)then(some (Sum.inl false))
 else(JL L (y0,y1,(wR (y2+1))))else none else none)
 else(some (Sum.inr ()))
theorem Qf3:OfL JL QaP:=ofL 67 0
def Qjt:rF Qb6:=fun D L (a0,a1)=>
 bif (!decide ((a0.length:Int)=(a1.length:Int)))then(some false)
 else((JL L (a0,a1,0)).bind fun z4=>
 Qn z4 (fun u5=>
 some u5)
 (fun z6=>
 some true))
theorem Qux:OfF Qb6 Qjt:=ofF 67
def QbU:rL Jq:=fun D L (y0,y1,y2)=>
 bif (decide (y2<(y0.length:Int)))then(bif inb y2 y0.length then
 let e1:=(rd1 KH y0 y2);
 bif inb y2 y1.length then
 let e2:=(rd1 KH y1 y2);
 (QeM D (e1.1,e1.2.1,e1.2.2,e2)).bind fun r3=>
 bif (!r3)then(some (Sum.inl false))
 else(Jq L (y0,y1,(wR (y2+1))))else none else none)
 else(some (Sum.inr ()))
theorem Qf5:OfL Jq QbU:=ofL 68 0
def QjV:rF QcL:=fun D L (a0,a1)=>
 bif (!decide ((a0.length:Int)=(a1.length:Int)))then(some false)
 else((Jq L (a0,a1,0)).bind fun z4=>
 Qn z4 (fun u5=>
 some u5)
 (fun z6=>
 some true))
theorem QuD:OfF QcL QjV:=ofF 68
def QcD:rL J5:=fun D L (y0,y1,y2,y3,y4)=>
 bif (decide (y1<y0))then(bif inb y1 y2.length then
 let e2:=(rd1 Qv y2 y1);
 (Yp D e2).bind fun r3=>
 bif (!r3)then(some (Sum.inl false))
 else(bif inb y1 y2.length then
 let e4:=(rd1 Qv y2 y1);
 bif (!decide (e4.2.1=y0))then(some (Sum.inl false))
 else(bif inb y1 y2.length then
 let e5:=(rd1 Qv y2 y1);
 bif (!decide (e5.1=y1))then(some (Sum.inl false))
 else(J5 L (y0,(wR (y1+1)),y2,y3,y4))else none)else none)else none)
 else(some (Sum.inr (y0,y2,y3,y4)))
theorem QfR:OfL J5 QcD:=ofL 69 0
def QcU:rL qf:=fun D L (y0,y1,y2,y3,y4)=>
 bif (decide (y1<(y3.length:Int)))then(bif inb y1 y3.length then
 let e9:=(rd1 qG y3 y1);
 (QE D (e9.1,0,(wR (y0 - 1)))).bind fun r10=>
 bif (!r10)then(some (Sum.inl false))
 else(qf L (y0,(wR (y1+1)),y2,y3,y4))else none)
 else(some (Sum.inr (y0,y2,y3,y4)))
theorem Qga:OfL qf QcU:=ofL 69 2
def Qbc:rL Jp:=fun D L (y0,y1,y2,y3,y4)=>
 bif (decide (y1<(y4.length:Int)))then(bif inb y1 y4.length then
 let e14:=(rd1 KH y4 y1);
 (QE D (e14.1,0,(wR (y0 - 1)))).bind fun r15=>
 bif (!r15)then(some (Sum.inl false))
 else(bif inb y1 y4.length then
 let e16:=(rd1 KH y4 y1);
 (XA D e16.2).bind fun r17=>
 bif (!r17)then(some (Sum.inl false))
 else(Jp L (y0,(wR (y1+1)),y2,y3,y4))else none)else none)
 else(some (Sum.inr ()))
theorem Qfn:OfL Jp Qbc:=ofL 69 4
def Qje:rF zY:=fun D L (a0,a1,a2)=>
 (QE D ((a0.length:Int),1,5)).bind fun r1=>
 bif (!r1)then(some false)
 else(bif (decide (12<(a1.length:Int)))then(some false)
 else(bif (decide (40<(a2.length:Int)))then(some false)
 else((J5 L ((a0.length:Int),0,a0,a1,a2)).bind fun z6=>
 Qn z6 (fun u7=>
 some u7)
 (fun z8=>
 (qf L (z8.1,0,z8.2)).bind fun z11=>
 Qn z11 (fun u12=>
 some u12)
 (fun z13=>
 (Jp L (z13.1,0,z13.2)).bind fun z18=>
 Qn z18 (fun u19=>
 some u19)
 (fun z20=>
 some true))))))
theorem Qs9:OfF zY Qje:=ofF 69
def Qiu:rF qS:=fun D L (a0,a1,a2)=>
 (Qck D (a0,a2)).bind fun r1=>
 bif (decide (r1<0))then(some (-1))
 else((vx D (a1,r1)).bind fun r2=>
 bif (decide (r2<0))then(some (-1))
 else(some r2))
theorem Qtn:OfF qS Qiu:=ofF 70
def Qli:rF Qew:=fun D L (a0,a1,a2)=>
 (qD D (a0,a2)).bind fun r1=>
 bif (decide (r1<0))then(some (-1))
 else(some r1)
theorem Qvo:OfF Qew Qli:=ofF 71
def Qnf:rF QhT:=fun D L (a0,a1,a2,a3)=>
 (vz D (a2,a3)).bind fun r1=>
 bif (decide (r1<0))then(some (-1))
 else(some r1)
theorem QxK:OfF QhT Qnf:=ofF 72
def QkO:rF qD:=fun D L (a0,a1)=>
 bif (decide ((wR (a1 - (a0.length:Int)))<0))then(some (-1))
 else(some (wR (a1 - (a0.length:Int))))
theorem Qvv:OfF qD QkO:=ofF 73
def zU:rL qc:=fun D L (y0,y1,y2)=>
 bif (decide (y2<(y0.length:Int)))then(bif inb y2 y0.length then
 (qD D ((rd1 ([]:List Int) y0 y2),y1)).bind fun r1=>
 bif (decide (r1<0))then(some (Sum.inl (-1)))
 else(qc L (y0,r1,(wR (y2+1))))else none)
 else(some (Sum.inr y1))
theorem yA:OfL qc zU:=ofL 74 0
def Qid:rF Qbd:=fun D L (a0,a1)=>
 bif (decide ((wR (a1 - (a0.length:Int)))<0))then(some (-1))
 else((qc L (a0,(wR (a1 - (a0.length:Int))),0)).bind fun z2=>
 Qn z2 (fun u3=>
 some u3)
 (fun z4=>
 some z4))
theorem QtQ:OfF Qbd Qid:=ofF 74
def Qjk:rF QcI:=fun D L (a0,a1)=>
 bif (decide ((wR (a1 - (a0.length:Int)))<0))then(some (-1))
 else(some (wR (a1 - (a0.length:Int))))
theorem QuQ:OfF QcI Qjk:=ofF 75
def QjH:rF QaT:=fun D L (a0,a1)=>
 bif (decide ((wR (a1 - (a0.length:Int)))<0))then(some (-1))
 else(some (wR (a1 - (a0.length:Int))))
theorem Quk:OfF QaT QjH:=ofF 76
def QjJ:rF Xq:=fun D L (a0,a1,a2,a3,a4,a5,a6,a7,a8,a9,a10,a11,a12,a13,a14,a15,a16,a17,a18)=>
 (ZY D (a2,a3)).bind fun r1=>
 (Kr D (a4,a5)).bind fun r2=>
 (zy D (a6,a7,a8)).bind fun r3=>
 bif fits (List.length ([]:List Int)+a9.length) 8 then
 bif fits (List.length ([]:List Int)+a10.length) 8 then
 (vm D a11).bind fun r4=>
 bif fits (List.length ([]:List Qz)+a14.length) 32 then
 bif fits (List.length ([]:List QN)+a18.length) 24 then
 some (a0,a1,r1.1,r1.2,r2.1,r2.2,r3.1,r3.2.1,r3.2.2,(([]:List Int)++a9),(([]:List Int)++a10),r4,a12,a13,(([]:List Qz)++a14),a15,a16,a17,(([]:List QN)++a18))else none else none else none else none
theorem QtK:OfF Xq QjJ:=ofF 77
def Qd4:rL xz:=fun D L (y0,y1,y2,y3,y4,y5,y6,y7,y8,y9,y10,y11,y12,y13,y14,y15,y16,y17,y18,y19)=>
 bif (decide (y0<y2))then(bif inb y0 y11.length then
 (qo D (y7,y8,y9)).bind fun r11=>
 bif (decide (r11<(rd1 (0:Int) y11 y0)))then(some (Sum.inl false))
 else(xz L ((wR (y0+1)),y1,y2,y3,y4,y5,y6,y7,y8,y9,y10,y11,y12,y13,y14,y15,y16,y17,y18,y19))else none)
 else(some (Sum.inr (y1,y2,y3,y4,y5,y6,y7,y8,y9,y10,y11,y12,y13,y14,y15,y16,y17,y18,y19)))
theorem QgW:OfL xz Qd4:=ofL 78 0
def Qd3:rL qO:=fun D L (y0,y1,y2,y3,y4,y5,y6,y7,y8,y9,y10,y11,y12,y13,y14,y15,y16,y17,y18,y19)=>
 bif (decide (y0<5))then(bif inb y0 y19.length then
 let e20:=(rd1 Zo y19 y0);
 (QE D (e20.1,0,1000)).bind fun r21=>
 bif (!r21)then(some (Sum.inl false))
 else((QE D (e20.2.1,0,100000)).bind fun r22=>
 bif (!r22)then(some (Sum.inl false))
 else((QE D (e20.2.2,0,y18)).bind fun r23=>
 bif (!r23)then(some (Sum.inl false))
 else(qO L ((wR (y0+1)),y1,y2,y3,y4,y5,y6,y7,y8,y9,y10,y11,y12,y13,y14,y15,y16,y17,y18,y19))))else none)
 else(some (Sum.inr (y1,y2,y3,y4,y5,y6,y7,y8,y9,y10,y11,y12,y13,y14,y15,y16,y17,y18,y19)))
theorem Qg7:OfL qO Qd3:=ofL 78 2
def Ql8:rF Yp:=fun D L (a0,a1,a2,a3,a4,a5,a6,a7,a8,a9,a10,a11,a12,a13,a14,a15,a16,a17,a18)=>
 (QE D (a1,1,5)).bind fun r1=>
 bif (!r1)then(some false)
 else((QE D (a0,0,(wR (a1 - 1)))).bind fun r2=>
 bif (!r2)then(some false)
 else((XA D (a2,a3)).bind fun r3=>
 bif (!r3)then(some false)
 else((zo D (a2,a3)).bind fun r4=>
 (QbV D (a4,a5,r4)).bind fun r5=>
 bif (!r5)then(some false)
 else((Vg D (a6,a7,a8)).bind fun r6=>
 bif (!r6)then(some false)
 else((QaR D (a9,a1)).bind fun r7=>
 bif (!r7)then(some false)
 else((QaR D (a10,a1)).bind fun r8=>
 bif (!r8)then(some false)
 else(bif inb a0 a9.length then
 (qo D (a6,a7,a8)).bind fun r9=>
 bif (!decide ((rd1 (0:Int) a9 a0)=r9))then(some false)
 else((Qbn D (a11,a1)).bind fun r10=>
 bif (!r10)then(some false)
 else((xz L (0,a0,a1,a2,a3,a4,a5,a6,a7,a8,a9,a10,a11,a12,a13,a14,a15,a16,a17,a18)).bind fun z12=>
 Qn z12 (fun u13=>
 some u13)
 (fun z14=>
 (QE D (z14.2.2.2.2.2.2.2.2.2.2.2.2.1,0,100000)).bind fun r15=>
 bif (!r15)then(some false)
 else((QE D (z14.2.2.2.2.2.2.2.2.2.2.2.2.2.2.2.2.2.1,0,100000)).bind fun r16=>
 bif (!r16)then(some false)
 else((QE D (z14.2.2.2.2.2.2.2.2.2.2.2.2.2.1,1,4)).bind fun r17=>
 bif (!r17)then(some false)
 else((QE D (z14.2.2.2.2.2.2.2.2.2.2.2.2.2.2.2.1,1,20)).bind fun r18=>
 bif (!r18)then(some false)
 else((QE D (z14.2.2.2.2.2.2.2.2.2.2.2.2.2.2.2.2.1,1,50)).bind fun r19=>
 bif (!r19)then(some false)
 else(bif (!decide ((z14.2.2.2.2.2.2.2.2.2.2.2.2.2.2.2.2.2.2.length:Int)=5))then(some false)
 else((qO L (0,z14)).bind fun z24=>
 Qn z24 (fun u25=>
 some u25)
 (fun z26=>
 (Qbg D z26).bind fun r27=>
 some r27))))))))))else none)))))))
theorem Qvk:OfF Yp Ql8:=ofF 78
def Qjs:rF qK:=fun D L (a0,a1)=>
 (Qcn D a0).bind fun r1=>
 (vI D a1).bind fun r2=>
 some (r1,r2)
theorem QtD:OfF qK Qjs:=ofF 81
def QlE:rF Qef:=fun D L (a0,a1)=>
 (qx D a0).bind fun r1=>
 some (r1,a1)
theorem Qvw:OfF Qef QlE:=ofF 82
def Qnm:rF Qhy:=fun D L (a0,a1,a2)=>
 (vB D a2).bind fun r1=>
 some (a0,a1,r1)
theorem Qxo:OfF Qhy Qnm:=ofF 83
def QdL:rL qH:=fun D L (y0,y1,y2)=>
 bif (decide (y1<(y0.length:Int)))then(bif inb y1 y0.length then
 bif inb y1 y2.length then
 let l1:=List.set y2 (Int.toNat y1) (rd1 (0:Int) y0 y1);
 qH L (y0,(wR (y1+1)),l1)else none else none)
 else(some y2)
theorem Qhi:OfL qH QdL:=ofL 84 0
def QkQ:rF qx:=fun D L a0=>
 bif (decide ((0:Int)<=(a0.length:Int)/\((a0.length:Int):Int)=(a0.length:Int))&&fits (Int.toNat (a0.length:Int)) 8)then
 (qH L (a0,0,(List.replicate (Int.toNat (a0.length:Int)) 0))).bind fun z2=>
 some z2 else none
theorem Qvl:OfF qx QkQ:=ofF 84
def QaQ:rL JP:=fun D L (y0,y1,y2)=>
 bif (decide (y1<(y0.length:Int)))then(bif inb y1 y0.length then
 (qx D (rd1 ([]:List Int) y0 y1)).bind fun r1=>
 bif inb y1 y2.length then
 let l2:=List.set y2 (Int.toNat y1) r1;
 JP L (y0,(wR (y1+1)),l2)else none else none)
 else(some y2)
theorem QfM:OfL JP QaQ:=ofL 85 0
def QjG:rF Qa0:=fun D L a0=>
 bif (decide ((0:Int)<=(a0.length:Int)/\((a0.length:Int):Int)=(a0.length:Int))&&fits (Int.toNat (a0.length:Int)) 24)then
 (JP L (a0,0,(List.replicate (Int.toNat (a0.length:Int)) []))).bind fun z3=>
 some z3 else none
theorem Qur:OfF Qa0 QjG:=ofF 85
def Qc2:rL Jx:=fun D L (y0,y1,y2)=>
 bif (decide (y1<(y0.length:Int)))then(bif inb y1 y0.length then
 let e1:=(rd1 X7 y0 y1);
 (Qem D e1).bind fun r2=>
 bif inb y1 y2.length then
 let l3:=List.set y2 (Int.toNat y1) r2;
 Jx L (y0,(wR (y1+1)),l3)else none else none)
 else(some y2)
theorem Qe8:OfL Jx Qc2:=ofL 86 0
def Qjf:rF Qbw:=fun D L a0=>
 bif (decide ((0:Int)<=(a0.length:Int)/\((a0.length:Int):Int)=(a0.length:Int))&&fits (Int.toNat (a0.length:Int)) 32)then
 (Jx L (a0,0,(List.replicate (Int.toNat (a0.length:Int)) (0,0,false,0)))).bind fun z4=>
 some z4 else none
theorem Qum:OfF Qbw Qjf:=ofF 86
def Qbt:rL JU:=fun D L (y0,y1,y2)=>
 bif (decide (y1<(y0.length:Int)))then(bif inb y1 y0.length then
 let e1:=(rd1 Zo y0 y1);
 (QeU D e1).bind fun r2=>
 bif inb y1 y2.length then
 let l3:=List.set y2 (Int.toNat y1) r2;
 JU L (y0,(wR (y1+1)),l3)else none else none)
 else(some y2)
theorem Qf1:OfL JU Qbt:=ofL 87 0
def Qko:rF QbB:=fun D L a0=>
 bif (decide ((0:Int)<=(a0.length:Int)/\((a0.length:Int):Int)=(a0.length:Int))&&fits (Int.toNat (a0.length:Int)) 24)then
 (JU L (a0,0,(List.replicate (Int.toNat (a0.length:Int)) (0,0,0)))).bind fun z4=>
 some z4 else none
theorem Qud:OfF QbB Qko:=ofF 87
def QgO:rF ZH:=fun D L (a0,a1,a2,a3,a4,a5,a6,a7,a8,a9,a10,a11,a12,a13,a14,a15,a16,a17,a18)=>
 (X4 D (a2,a3)).bind fun r1=>
 (Z4 D (a4,a5)).bind fun r2=>
 (Kt D (a6,a7,a8)).bind fun r3=>
 (ZF D a9).bind fun r4=>
 (ZF D a10).bind fun r5=>
 (qN D a11).bind fun r6=>
 bif fits (List.length ([]:List Qz)+a14.length) 32 then
 bif fits (List.length ([]:List QN)+a18.length) 24 then
 some (a0,a1,r1.1,r1.2,r2.1,r2.2,r3.1,r3.2.1,r3.2.2,r4,r5,r6,a12,a13,(([]:List Qz)++a14),a15,a16,a17,(([]:List QN)++a18))else none else none
theorem QrL:OfF ZH QgO:=ofF 88
def QkV:rF ZE:=fun D L (a0,a1,a2,a3,a4,a5,a6,a7,a8,a9,a10,a11,a12,a13,a14,a15,a16,a17,a18)=>
 (QA D (a1,1,5)).bind fun r1=>
 bif (!r1)then(some false)
 else((QA D (a0,0,(wR (a1 - 1)))).bind fun r2=>
 bif (!r2)then(some false)
 else((Xp D (a2,a3)).bind fun r3=>
 bif (!r3)then(some false)
 else((zw D (a2,a3)).bind fun r4=>
 (vE D (a4,a5,r4)).bind fun r5=>
 bif (!r5)then(some false)
 else((Vq D (a6,a7,a8)).bind fun r6=>
 (Yt D (a6,a7,a8)).bind fun r7=>
 bif (!r7)then(some false)
 else((Qb7 D (a9,a1)).bind fun r8=>
 bif (!r8)then(some false)
 else((Qb7 D (a10,a1)).bind fun r9=>
 bif (!r9)then(some false)
 else(bif inb a0 a9.length then
 bif (!decide ((rd1 (0:Int) a9 a0)=r6))then(some false)
 else((Ve D a10).bind fun r10=>
 bif (decide (r6<r10))then(some false)
 else((Qa3 D (a11,a1)).bind fun r11=>
 bif (!r11)then(some false)
 else((QA D (a12,0,100000)).bind fun r12=>
 bif (!r12)then(some false)
 else((QA D (a17,0,100000)).bind fun r13=>
 bif (!r13)then(some false)
 else((QA D (a15,1,20)).bind fun r14=>
 bif r14 then((QA D (a16,1,50)).bind fun r15=>
 bif r15 then((QeO D (a0,a1,a2,a3,a4,a5,a6,a7,a8,a9,a10,a11,a12,a13,a14,a15,a16,a17,a18)).bind fun r16=>
 bif r16 then((QaL D (a0,a1,a2,a3,a4,a5,a6,a7,a8,a9,a10,a11,a12,a13,a14,a15,a16,a17,a18)).bind fun r17=>
 some r17)
 else(some false))
 else(some false))
 else(some false))))))else none)))))))
theorem Qwu:OfF ZE QkV:=ofF 90
def QjT:rF xf:=fun D L (a0,a1,a2,a3)=>
 (Qda D (a0,a2)).bind fun r1=>
 bif (!r1)then(some false)
 else((vD D (a1,a3)).bind fun r2=>
 bif (!r2)then(some false)
 else(some true))
theorem Qtl:OfF xf QjT:=ofF 92
def QlW:rF Qei:=fun D L (a0,a1,a2,a3)=>
 (qB D (a0,a2)).bind fun r1=>
 bif (!r1)then(some false)
 else(bif (!decide (a1=a3))then(some false)
 else(some true))
theorem Qvd:OfF Qei QlW:=ofF 93
def QmC:rF QhC:=fun D L (a0,a1,a2,a3,a4,a5)=>
 bif (!decide (a0=a3))then(some false)
 else(bif (!decide (a1=a4))then(some false)
 else((vA D (a2,a5)).bind fun r1=>
 bif (!r1)then(some false)
 else(some true)))
theorem QxF:OfF QhC QmC:=ofF 94
def QcQ:rL JQ:=fun D L (y0,y1,y2)=>
 bif (decide (y2<(y0.length:Int)))then(bif inb y2 y0.length then
 bif inb y2 y1.length then
 (qB D ((rd1 ([]:List Int) y0 y2),(rd1 ([]:List Int) y1 y2))).bind fun r1=>
 bif (!r1)then(some (Sum.inl false))
 else(JQ L (y0,y1,(wR (y2+1))))else none else none)
 else(some (Sum.inr ()))
theorem Qe0:OfL JQ QcQ:=ofL 95 0
def Qjm:rF Qcj:=fun D L (a0,a1)=>
 bif (!decide ((a0.length:Int)=(a1.length:Int)))then(some false)
 else((JQ L (a0,a1,0)).bind fun z2=>
 Qn z2 (fun u3=>
 some u3)
 (fun z4=>
 some true))
theorem Qs5:OfF Qcj Qjm:=ofF 95
def QaV:rL Jn:=fun D L (y0,y1,y2)=>
 bif (decide (y2<(y0.length:Int)))then(bif inb y2 y0.length then
 let e1:=(rd1 X7 y0 y2);
 bif inb y2 y1.length then
 let e2:=(rd1 X7 y1 y2);
 (Qev D (e1.1,e1.2.1,e1.2.2.1,e1.2.2.2,e2)).bind fun r3=>
 bif (!r3)then(some (Sum.inl false))
 else(Jn L (y0,y1,(wR (y2+1))))else none else none)
 else(some (Sum.inr ()))
theorem Qfe:OfL Jn QaV:=ofL 96 0
def Qkk:rF Qb4:=fun D L (a0,a1)=>
 bif (!decide ((a0.length:Int)=(a1.length:Int)))then(some false)
 else((Jn L (a0,a1,0)).bind fun z4=>
 Qn z4 (fun u5=>
 some u5)
 (fun z6=>
 some true))
theorem QsD:OfF Qb4 Qkk:=ofF 96
def Qc4:rL J8:=fun D L (y0,y1,y2)=>
 bif (decide (y2<(y0.length:Int)))then(bif inb y2 y0.length then
 let e1:=(rd1 Zo y0 y2);
 bif inb y2 y1.length then
 let e2:=(rd1 Zo y1 y2);
 (Qep D (e1.1,e1.2.1,e1.2.2,e2)).bind fun r3=>
 bif (!r3)then(some (Sum.inl false))
 else(J8 L (y0,y1,(wR (y2+1))))else none else none)
 else(some (Sum.inr ()))
theorem Qfb:OfL J8 Qc4:=ofL 97 0
def Qkf:rF Qb5:=fun D L (a0,a1)=>
 bif (!decide ((a0.length:Int)=(a1.length:Int)))then(some false)
 else((J8 L (a0,a1,0)).bind fun z4=>
 Qn z4 (fun u5=>
 some u5)
 (fun z6=>
 some true))
theorem QtR:OfF Qb5 Qkf:=ofF 97
def jU:rL YR:=fun D L (y0,y1,y2)=>
 bif (decide (y1<(y2.length:Int)))then(bif inb y1 y2.length then
 (K8 D ((rd1 ([]:List Int) y2 y1),y0)).bind fun r1=>
 let l2:=List.set y2 (Int.toNat y1) r1.2;
 YR L (r1.1,(wR (y1+1)),l2)else none)
 else(some (y0,y2))
theorem Qcw:OfL YR jU:=ofL 101 0
def Qfx:rF yW:=fun D L (a0,a1)=>
 (YR L (a1,0,a0)).bind fun z3=>
 some z3
theorem QqJ:OfF yW Qfx:=ofF 101
def jN:rL YP:=fun D L (y0,y1,y2)=>
 bif (decide (y1<(y2.length:Int)))then(bif inb y1 y2.length then
 let e1:=(rd1 X7 y2 y1);
 let l2:=List.set y2 (Int.toNat y1) (y0,e1.2);
 bif inb y1 l2.length then
 let e3:=(rd1 X7 l2 y1);
 let l4:=List.set l2 (Int.toNat y1) (e3.1,(wR (y0+1)),e3.2.2);
 bif decide ((3:Int)≠0)then
 bif inb y1 l4.length then
 let e5:=(rd1 X7 l4 y1);
 let l6:=List.set l4 (Int.toNat y1) (e5.1,e5.2.1,(decide ((Int.tmod (wR ((wR (y0+1))+1)) 3)=0)),e5.2.2.2);
 bif inb y1 l6.length then
 let e7:=(rd1 X7 l6 y1);
 let l8:=List.set l6 (Int.toNat y1) (e7.1,e7.2.1,e7.2.2.1,(wR ((wR ((wR (y0+1))+1))+1)));
 YP L ((wR ((wR ((wR ((wR (y0+1))+1))+1))+1)),(wR (y1+1)),l8)else none else none else none else none else none)
 else(some (y0,y2))
theorem Qb3:OfL YP jN:=ofL 102 0
def QfT:rF yR:=fun D L (a0,a1)=>
 (YP L (a1,0,a0)).bind fun z9=>
 some z9
theorem QqU:OfF yR QfT:=ofF 102
def jV:rL YW:=fun D L (y0,y1,y2)=>
 bif (decide (y1<(y2.length:Int)))then(bif inb y1 y2.length then
 let e1:=(rd1 Zo y2 y1);
 let l2:=List.set y2 (Int.toNat y1) (y0,e1.2);
 bif inb y1 l2.length then
 let e3:=(rd1 Zo l2 y1);
 let l4:=List.set l2 (Int.toNat y1) (e3.1,(wR (y0+1)),e3.2.2);
 bif inb y1 l4.length then
 let e5:=(rd1 Zo l4 y1);
 let l6:=List.set l4 (Int.toNat y1) (e5.1,e5.2.1,(wR ((wR (y0+1))+1)));
 YW L ((wR ((wR ((wR (y0+1))+1))+1)),(wR (y1+1)),l6)else none else none else none)
 else(some (y0,y2))
theorem QcV:OfL YW jV:=ofL 103 0
def QfX:rF jq:=fun D L (a0,a1)=>
 (YW L (a1,0,a0)).bind fun z7=>
 some z7
theorem QqW:OfF jq QfX:=ofF 103
def jF:rL YK:=fun D L (y0,y1,y2)=>
 bif (decide (y2<(y0.length:Int)))then(bif inb y2 y0.length then
 (K7 D ((rd1 ([]:List Int) y0 y2),y1)).bind fun r1=>
 bif (decide (r1<0))then(some (Sum.inl (-1)))
 else(YK L (y0,r1,(wR (y2+1))))else none)
 else(some (Sum.inr y1))
theorem QaE:OfL YK jF:=ofL 107 0
def QfW:rF yL:=fun D L (a0,a1)=>
 (YK L (a0,a1,0)).bind fun z2=>
 Qn z2 (fun u3=>
 some u3)
 (fun z4=>
 some z4)
theorem Qqz:OfF yL QfW:=ofF 107
def jZ:rL YQ:=fun D L (y0,y1,y2)=>
 bif (decide (y2<(y0.length:Int)))then(bif inb y2 y0.length then
 let e1:=(rd1 X7 y0 y2);
 bif (!decide (e1.1=y1))then(some (Sum.inl (-1)))
 else(bif inb y2 y0.length then
 let e2:=(rd1 X7 y0 y2);
 bif (!decide (e2.2.1=(wR (y1+1))))then(some (Sum.inl (-1)))
 else(bif inb y2 y0.length then
 let e3:=(rd1 X7 y0 y2);
 bif decide ((3:Int)≠0)then
 bif (!(e3.2.2.1==(decide ((Int.tmod (wR ((wR (y1+1))+1)) 3)=0))))then(some (Sum.inl (-1)))
 else(bif inb y2 y0.length then
 let e4:=(rd1 X7 y0 y2);
 bif (!decide (e4.2.2.2=(wR ((wR ((wR (y1+1))+1))+1))))then(some (Sum.inl (-1)))
 else(YQ L (y0,(wR ((wR ((wR ((wR (y1+1))+1))+1))+1)),(wR (y2+1))))else none)else none else none)else none)else none)
 else(some (Sum.inr y1))
theorem Qa5:OfL YQ jZ:=ofL 108 0
def Qgj:rF jo:=fun D L (a0,a1)=>
 (YQ L (a0,a1,0)).bind fun z5=>
 Qn z5 (fun u6=>
 some u6)
 (fun z7=>
 some z7)
theorem QqQ:OfF jo Qgj:=ofF 108
end
end Go.Proofs.YtjenicbpdklpbaaGreat.M
