/- Plain forms of the functions that FnExactWorldText reaches, part 5. No conditions. -/
import Derived.Test.YtameehmkoglkeaaGreatDoorFnExactWorldTextTab
set_option linter.all false
namespace Go.Proofs.YtameehmkoglkeaaGreatDoor.M
open Go Go.Eng Go.Proofs
set_option linter.unusedVariables false
noncomputable section
def Qez:rF vG:=fun D L (a0,a1)=>
 (xR D (a0,a1)).bind fun r1=>
 bif (!r1.2.2)then(some ((⟨#[]⟩:ByteArray),0,false))
 else(bif (decide ((wR ((a0.length:Int) - r1.2.1))<r1.1))then(some ((⟨#[]⟩:ByteArray),0,false))
 else(bif decide ((0:Int)<=r1.2.1/\r1.2.1<=((wR (r1.2.1+r1.1)):Int)/\(wR (r1.2.1+r1.1))<=(a0.length:Int))then
 some ((QA (List.take (Int.toNat ((wR (r1.2.1+r1.1)) - r1.2.1)) (List.drop (Int.toNat r1.2.1) a0))),(wR (r1.2.1+r1.1)),true)else none))
theorem Qn5:OfF vG Qez:=ofF 144
def vF:rL Yn:=fun D L (y0,y1,y2,y3)=>
 bif (decide (y0<(y1.length:Int)))then(bif inb y0 y1.length then
 let e2:=(rd1 Ya y1 y0);
 bif inb y0 y1.length then
 let e3:=(rd1 Ya y1 y0);
 (Z1 L (y0,0,y1,y2,y3,e2.2.1,e2.2.2.1,e2.2.2.2.1,e2.2.2.2.2.1,e2.2.2.2.2.2,[e3.1,e2.2.1,e2.2.2.1,e2.2.2.2.1,e2.2.2.2.2.1])).bind fun z5=>
 (vQ D z5.2.2.2.2.2.2.2.2).bind fun r6=>
 bif fits (z5.2.2.2.1.length+r6.length) 1 then
 Yn L ((wR (z5.1+1)),z5.2.1,z5.2.2.1,(z5.2.2.2.1++r6))else none else none else none)
 else(some (y1,y2,y3))
theorem Qb2:OfL Yn vF:=ofL 145 0
def jE:rL Z1:=fun D L (y0,y1,y2,y3,y4,y5,y6,y7,y8,y9,y10)=>
 bif (decide (y1<(y10.length:Int)))then(bif inb y1 y10.length then
 (Q7 D (rd1 (0:Int) y10 y1)).bind fun r4=>
 bif fits (y4.length+r4.length) 1 then
 Z1 L (y0,(wR (y1+1)),y2,y3,(y4++r4),y5,y6,y7,y8,y9,y10)else none else none)
 else(some (y0,y2,y3,y4,y5,y6,y7,y8,y9))
theorem QbY:OfL Z1 jE:=ofL 145 2
def v8:rL Yo:=fun D L (y0,y1,y2,y3)=>
 bif (decide (y0<(y2.length:Int)))then(bif inb y0 y2.length then
 let e9:=(rd1 Xk y2 y0);
 (Q7 D e9.1).bind fun r10=>
 bif fits (y3.length+r10.length) 1 then
 bif inb y0 y2.length then
 let e11:=(rd1 Xk y2 y0);
 (Q7 D e11.2).bind fun r12=>
 bif fits (List.length (y3++r10)+r12.length) 1 then
 Yo L ((wR (y0+1)),y1,y2,((y3++r10)++r12))else none else none else none else none)
 else(some y3)
theorem Qcv:OfL Yo v8:=ofL 145 4
def Qey:rF Vy:=fun D L (a0,a1)=>
 (Q7 D (a0.length:Int)).bind fun r1=>
 (Yn L (0,a0,a1,r1)).bind fun z7=>
 (Q7 D (z7.2.1.length:Int)).bind fun r8=>
 bif fits (z7.2.2.length+r8.length) 1 then
 (Yo L (0,z7.1,z7.2.1,(z7.2.2++r8))).bind fun z13=>
 some z13 else none
theorem QmP:OfF Vy Qey:=ofF 145
def Qe9:rF yr:=fun D L (a0,a1)=>
 bif (decide ((a0.length:Int)=0))then(some (decide (a1=0)))
 else(bif (decide ((a0.length:Int)=4))then((VY D (a0,4,1023)).bind fun r1=>
 bif r1 then((QD D (a1,0,1023)).bind fun r2=>
 some r2)
 else(some false))
 else(some false))
theorem Qmn:OfF yr Qe9:=ofF 146
def yO:rL Kx:=fun D L (y0,y1,y2)=>
 bif (decide (y2<(y0.length:Int)))then(bif inb y2 y0.length then
 (QD D ((rd1 (0:Int) y0 y2),0,y1)).bind fun r1=>
 bif (!r1)then(some (Sum.inl false))
 else(Kx L (y0,y1,(wR (y2+1))))else none)
 else(some (Sum.inr ()))
theorem Qcw:OfL Kx yO:=ofL 147 0
def QfM:rF VY:=fun D L (a0,a1,a2)=>
 bif (decide (a1<(a0.length:Int)))then(some false)
 else((Kx L (a0,a2,0)).bind fun z2=>
 Qo z2 (fun u3=>
 some u3)
 (fun z4=>
 some true))
theorem QnI:OfF VY QfM:=ofF 147
def jg:rL Yi:=fun D L (y0,y1)=>
 bif (decide (y1<(y0.length:Int)))then(bif inb y1 y0.length then
 let e1:=(rd1 Xk y0 y1);
 (ZW D e1.1).bind fun r2=>
 bif (!r2)then(some (Sum.inl false))
 else(bif (decide (0<y1))then(bif inb y1 y0.length then
 let e3:=(rd1 Xk y0 y1);
 bif inb (wR (y1 - 1)) y0.length then
 let e4:=(rd1 Xk y0 (wR (y1 - 1)));
 bif (decide (e3.1<=e4.1))then(some (Sum.inl false))
 else(bif inb y1 y0.length then
 let e5:=(rd1 Xk y0 y1);
 (QD D (e5.2,1,1000)).bind fun r6=>
 bif (!r6)then(some (Sum.inl false))
 else(Yi L (y0,(wR (y1+1))))else none)else none else none)
 else(bif inb y1 y0.length then
 let e7:=(rd1 Xk y0 y1);
 (QD D (e7.2,1,1000)).bind fun r8=>
 bif (!r8)then(some (Sum.inl false))
 else(Yi L (y0,(wR (y1+1))))else none))else none)
 else(some (Sum.inr ()))
theorem QbR:OfL Yi jg:=ofL 148 0
def Qfc:rF jB:=fun D L a0=>
 (Yi L (a0,0)).bind fun z9=>
 Qo z9 (fun u10=>
 some u10)
 (fun z11=>
 some true)
theorem Qnc:OfF jB Qfc:=ofF 148
def jx:rL Z5:=fun D L (y0,y1,y2,y3,y4,y5,y6,y7,y8,y9,y10,y11,y12,y13,y14)=>
 bif (decide (y0<(y14.length:Int)))then(bif inb y0 y14.length then
 (Q7 D (rd1 (0:Int) y14 y0)).bind fun r1=>
 bif fits (y13.length+r1.length) 1 then
 Z5 L ((wR (y0+1)),y1,y2,y3,y4,y5,y6,y7,y8,y9,y10,y11,y12,(y13++r1),y14)else none else none)
 else(some (y1,y2,y3,y4,y5,y6,y7,y8,y9,y10,y11,y12,y13))
theorem QcF:OfL Z5 jx:=ofL 149 0
def yI:rL Ys:=fun D L (y0,y1,y2,y3,y4,y5,y6,y7,y8,y9,y10,y11,y12,y13)=>
 bif (decide (y0<(y12.length:Int)))then(bif inb y0 y12.length then
 let e10:=(rd1 Xk y12 y0);
 (Q7 D e10.1).bind fun r11=>
 bif fits (y13.length+r11.length) 1 then
 bif inb y0 y12.length then
 let e12:=(rd1 Xk y12 y0);
 (Q7 D e12.2).bind fun r13=>
 bif fits (List.length (y13++r11)+r13.length) 1 then
 Ys L ((wR (y0+1)),y1,y2,y3,y4,y5,y6,y7,y8,y9,y10,y11,y12,((y13++r11)++r13))else none else none else none else none)
 else(some y13)
theorem Qcc:OfL Ys yI:=ofL 149 2
def Qee:rF vY:=fun D L (a0,a1,a2,a3,a4,a5,a6,a7,a8,a9,a10,a11)=>
 (Z5 L (0,a0,a1,a2,a3,a4,a5,a6,a7,a8,a9,a10,a11,[82,75],[a0,a1,a2,a3,a4])).bind fun z2=>
 (VM D z2.2.2.2.2.2.1).bind fun r3=>
 bif fits (z2.2.2.2.2.2.2.2.2.2.2.2.2.length+r3.length) 1 then
 (Q7 D z2.2.2.2.2.2.2.1).bind fun r4=>
 bif fits (List.length (z2.2.2.2.2.2.2.2.2.2.2.2.2++r3)+r4.length) 1 then
 (VM D z2.2.2.2.2.2.2.2.1).bind fun r5=>
 bif fits (List.length ((z2.2.2.2.2.2.2.2.2.2.2.2.2++r3)++r4)+r5.length) 1 then
 (VM D z2.2.2.2.2.2.2.2.2.1).bind fun r6=>
 bif fits (List.length (((z2.2.2.2.2.2.2.2.2.2.2.2.2++r3)++r4)++r5)+r6.length) 1 then
 (Vy D (z2.2.2.2.2.2.2.2.2.2.1,z2.2.2.2.2.2.2.2.2.2.2.1)).bind fun r7=>
 (Q7 D (r7.length:Int)).bind fun r8=>
 bif fits (List.length ((((z2.2.2.2.2.2.2.2.2.2.2.2.2++r3)++r4)++r5)++r6)+r8.length) 1 then
 bif fits (List.length (((((z2.2.2.2.2.2.2.2.2.2.2.2.2++r3)++r4)++r5)++r6)++r8)+r7.length) 1 then
 (Q7 D (z2.2.2.2.2.2.2.2.2.2.2.2.1.length:Int)).bind fun r9=>
 bif fits (List.length ((((((z2.2.2.2.2.2.2.2.2.2.2.2.2++r3)++r4)++r5)++r6)++r8)++r7)+r9.length) 1 then
 (Ys L (0,z2.1,z2.2.1,z2.2.2.1,z2.2.2.2.1,z2.2.2.2.2.1,z2.2.2.2.2.2.1,z2.2.2.2.2.2.2.1,z2.2.2.2.2.2.2.2.1,z2.2.2.2.2.2.2.2.2.1,z2.2.2.2.2.2.2.2.2.2.1,z2.2.2.2.2.2.2.2.2.2.2.1,z2.2.2.2.2.2.2.2.2.2.2.2.1,(((((((z2.2.2.2.2.2.2.2.2.2.2.2.2++r3)++r4)++r5)++r6)++r8)++r7)++r9))).bind fun z14=>
 some z14 else none else none else none else none else none else none else none
theorem QnO:OfF vY Qee:=ofF 149
def ym:rL KH:=fun D L (y0,y1,y2)=>
 bif (decide (y1<(y0.length:Int)))then(bif inb y1 y0.length then
 bif inb y1 y2.length then
 let l1:=List.set y2 (Int.toNat y1) (rd1 (0:Int) y0 y1);
 KH L (y0,(wR (y1+1)),l1)else none else none)
 else(some y2)
theorem QbF:OfL KH ym:=ofL 150 0
def QfG:rF vc:=fun D L a0=>
 bif (decide ((0:Int)<=(a0.length:Int)/\((a0.length:Int):Int)=(a0.length:Int))&&fits (Int.toNat (a0.length:Int)) 1)then
 (KH L (a0,0,(List.replicate (Int.toNat (a0.length:Int)) 0))).bind fun z2=>
 some z2 else none
theorem Qmd:OfF vc QfG:=ofF 150
def YQ:rL Xo:=fun D L (y0,y1,y2,y3)=>
 bif (decide (y3<5))then(bif (decide ((wR (y1+y3))<(y0.length:Int)))then(bif inb (wR (y1+y3)) y0.length then
 bif decide ((128:Int)≠0)then
 bif decide ((0:Int)<=(wR (7*y3)))then
 bif (decide (128<=(wR (rd1 (0:Int) y0 (wR (y1+y3))))))then(Xo L (y0,y1,(wR (y2+(zz .i64 (Int.tmod (wR (rd1 (0:Int) y0 (wR (y1+y3)))) 128) (wR (7*y3))))),(wR (y3+1))))
 else(bif (decide (0<y3))then(bif (decide ((wR (rd1 (0:Int) y0 (wR (y1+y3))))=0))then(some (Sum.inl (0,0,false)))
 else(bif (decide (2147483647<(wR (y2+(zz .i64 (Int.tmod (wR (rd1 (0:Int) y0 (wR (y1+y3)))) 128) (wR (7*y3)))))))then(some (Sum.inl (0,0,false)))
 else(some (Sum.inl ((wR (y2+(zz .i64 (Int.tmod (wR (rd1 (0:Int) y0 (wR (y1+y3)))) 128) (wR (7*y3))))),(wR ((wR (y1+y3))+1)),true)))))
 else(bif (decide (2147483647<(wR (y2+(zz .i64 (Int.tmod (wR (rd1 (0:Int) y0 (wR (y1+y3)))) 128) (wR (7*y3)))))))then(some (Sum.inl (0,0,false)))
 else(some (Sum.inl ((wR (y2+(zz .i64 (Int.tmod (wR (rd1 (0:Int) y0 (wR (y1+y3)))) 128) (wR (7*y3))))),(wR ((wR (y1+y3))+1)),true)))))else none else none else none)
 else(some (Sum.inr ())))
 else(some (Sum.inr ()))
theorem Yy:OfL Xo YQ:=ofL 151 0
def Qf0:rF xP:=fun D L (a0,a1)=>
 bif (decide (a1<0))then(some (0,0,false))
 else(bif (decide ((a0.length:Int)<=a1))then(some (0,0,false))
 else((Xo L (a0,a1,0,0)).bind fun z1=>
 Qo z1 (fun u2=>
 some u2)
 (fun z3=>
 some (0,0,false))))
theorem Qpp:OfF xP Qf0:=ofF 151
def vu:rF YT:=fun D L (a0,a1,a2)=>
 (yF D (a0,a1)).bind fun r1=>
 bif a2 then(some ((⟨#[]⟩:ByteArray),a1,true))
 else(bif (!r1.2.2)then(some ((⟨#[]⟩:ByteArray),a1,true))
 else(some (r1.1,r1.2.1,a2)))
theorem Qjj:OfF YT vu:=ofF 152
def qw:rL Zk:=fun D L (y0,y1,y2,y3,y4,y5)=>
 bif (decide (y2<y1))then(bif inb y2 y0.length then
 let e3:=(rd1 Ya y0 y2);
 (QN D e3.1).bind fun r4=>
 (QN D e3.2.1).bind fun r5=>
 (QN D e3.2.2.1).bind fun r6=>
 (QN D e3.2.2.2.1).bind fun r7=>
 (QN D e3.2.2.2.2.1).bind fun r8=>
 (vb D e3.2.2.2.2.2).bind fun r9=>
 (XX D [y5,r4,r5,r6,r7,r8,r9]).bind fun r10=>
 Zk L (y0,y1,(wR (y2+1)),y3,y4,r10)else none)
 else(some (y3,y4,y5))
theorem yk:OfL Zk qw:=ofL 153 0
def qq:rL Zj:=fun D L (y0,y1,y2,y3)=>
 bif (decide (y2<y1))then(bif inb y2 y0.length then
 let e14:=(rd1 Xk y0 y2);
 (QN D e14.1).bind fun r15=>
 (QN D e14.2).bind fun r16=>
 (XX D [y3,r15,r16]).bind fun r17=>
 Zj L (y0,y1,(wR (y2+1)),r17)else none)
 else(some y3)
theorem ye:OfL Zj qq:=ofL 153 2
def Qam:rF Yj:=fun D L (a0,a1)=>
 (XK D (a0,a1)).bind fun r1=>
 bif (!r1)then(some [])
 else((QN D (a0.length:Int)).bind fun r2=>
 (Zk L (a0,(a0.length:Int),0,a0,a1,r2)).bind fun z11=>
 (QN D (z11.2.1.length:Int)).bind fun r12=>
 (XX D [z11.2.2,r12]).bind fun r13=>
 (Zj L (z11.2.1,(z11.2.1.length:Int),0,r13)).bind fun z18=>
 some z18)
theorem QjV:OfF Yj Qam:=ofF 153
def QaH:rL Vt:=fun D L (y0,y1,y2,y3,y4)=>
 bif (decide (y2<y1))then(bif inb y2 y0.length then
 (Qt D ((rd1 (0:Int) y0 y2),0,1023)).bind fun r1=>
 bif (!r1)then(some (Sum.inl false))
 else(Vt L (y0,y1,(wR (y2+1)),y3,y4))else none)
 else(some (Sum.inr (y3,y4)))
theorem Qdc:OfL Vt QaH:=ofL 154 0
def QgB:rF Qbg:=fun D L (a0,a1)=>
 bif (decide ((a0.length:Int)=0))then(some (decide (a1=0)))
 else((Vt L (a0,(a0.length:Int),0,a0,a1)).bind fun z2=>
 Qo z2 (fun u3=>
 some u3)
 (fun z4=>
 bif (decide ((z4.1.length:Int)=4))then((Qt D (z4.2,0,1023)).bind fun r5=>
 some r5)
 else(some false)))
theorem QoL:OfF Qbg QgB:=ofF 154
def jl:rL Z8:=fun D L (y0,y1,y2,y3)=>
 bif (decide (y3<y2))then(bif inb y3 y1.length then
 let e1:=(rd1 Xk y1 y3);
 (ZY D e1.1).bind fun r2=>
 bif (!r2)then(some (Sum.inl false))
 else((Qt D (e1.2,1,1000)).bind fun r3=>
 bif (!r3)then(some (Sum.inl false))
 else(bif (decide (0<y3))then(bif inb (wR (y3 - 1)) y0.length then
 let e4:=(rd1 Xk y0 (wR (y3 - 1)));
 bif (decide (e1.1<=e4.1))then(some (Sum.inl false))
 else(Z8 L (y0,y1,y2,(wR (y3+1))))else none)
 else(Z8 L (y0,y1,y2,(wR (y3+1))))))else none)
 else(some (Sum.inr ()))
theorem QbT:OfL Z8 jl:=ofL 155 0
def Qe3:rF jq:=fun D L a0=>
 (Z8 L (a0,a0,(a0.length:Int),0)).bind fun z5=>
 Qo z5 (fun u6=>
 some u6)
 (fun z7=>
 some true)
theorem Qnd:OfF jq Qe3:=ofF 155
def Qao:rL VK:=fun D L (y0,y1,y2,y3)=>
 bif (decide (y2<y1))then(bif inb y2 y0.length then
 bif fits (y3.length+List.length (rd1 ([]:List Int) y0 y2)) 1 then
 VK L (y0,y1,(wR (y2+1)),(y3++(rd1 ([]:List Int) y0 y2)))else none else none)
 else(some y3)
theorem Qdl:OfL VK Qao:=ofL 156 0
def Qf7:rF XX:=fun D L a0=>
 (VK L (a0,(a0.length:Int),0,[])).bind fun z1=>
 some z1
theorem QpO:OfF XX Qf7:=ofF 156
def xr:rL Vx:=fun D L (y0,y1)=>
 bif (decide (128<=y0))then(bif decide ((128:Int)≠0)then
 bif fits (y1.length+ [(IntKind.wrap .u8 (wR ((Int.tmod y0 128)+128)))].length) 1 then
 bif decide ((128:Int)≠0)then
 Vx L ((wR (Int.tdiv y0 128)),(y1++[(IntKind.wrap .u8 (wR ((Int.tmod y0 128)+128)))]))else none else none else none)
 else(some (y0,y1))
theorem Qc7:OfL Vx xr:=ofL 157 0
def QfT:rF QN:=fun D L a0=>
 (Qt D (a0,0,2147483647)).bind fun r1=>
 bif (!r1)then(some [])
 else((Vx L (a0,[])).bind fun z2=>
 bif fits (z2.2.length+ [(IntKind.wrap .u8 z2.1)].length) 1 then
 some (z2.2++[(IntKind.wrap .u8 z2.1)])else none)
theorem QoE:OfF QN QfT:=ofF 157
def yy:rL KY:=fun D L (y0,y1,y2,y3)=>
 bif (decide (y2<y1))then(bif inb y2 y0.length then
 (QN D (rd1 (0:Int) y0 y2)).bind fun r2=>
 (XX D [y3,r2]).bind fun r3=>
 KY L (y0,y1,(wR (y2+1)),r3)else none)
 else(some y3)
theorem QbQ:OfL KY yy:=ofL 158 0
def QfA:rF VW:=fun D L a0=>
 (QN D (a0.length:Int)).bind fun r1=>
 (KY L (a0,(a0.length:Int),0,r1)).bind fun z4=>
 some z4
theorem Qnt:OfF VW QfA:=ofF 158
def Qc4:rF zq:=fun D L a0=>
 (zP D a0).bind fun r1=>
 bif decide ((0:Int)<=24)then
 bif decide ((0:Int)<=16)then
 bif decide ((0:Int)<=8)then
 some [(IntKind.wrap .u8 (bits .and .i64 (yW .i64 r1 24) 255)),(IntKind.wrap .u8 (bits .and .i64 (yW .i64 r1 16) 255)),(IntKind.wrap .u8 (bits .and .i64 (yW .i64 r1 8) 255)),(IntKind.wrap .u8 (bits .and .i64 r1 255))]else none else none else none
theorem QlA:OfF zq Qc4:=ofF 159
def jO:rL KF:=fun D L (y0,y1,y2)=>
 bif (decide (y2<(y0.length:Int)))then(bif inb y2 y0.length then
 bif inb y2 y1.length then
 bif (!decide ((rd1 (0:Int) y0 y2)=(rd1 (0:Int) y1 y2)))then(some (Sum.inl false))
 else(KF L (y0,y1,(wR (y2+1))))else none else none)
 else(some (Sum.inr ()))
theorem Qce:OfL KF jO:=ofL 160 0
def Qea:rF jZ:=fun D L (a0,a1)=>
 bif (!decide ((a0.length:Int)=(a1.length:Int)))then(some false)
 else((KF L (a0,a1,0)).bind fun z1=>
 Qo z1 (fun u2=>
 some u2)
 (fun z3=>
 some true))
theorem QmI:OfF jZ Qea:=ofF 160
def QeP:rF Qaa:=fun D L (a0,a1,a2,a3,a4,a5)=>
 bif (decide ((wR (a5 - ((ByteArray.size a4):Int)))<0))then(some (-1))
 else(some (wR (a5 - ((ByteArray.size a4):Int))))
theorem Qol:OfF Qaa QeP:=ofF 161
def Qab:rL ZA:=fun D L (y0,y1,y2,y3,y4,y5)=>
 bif (decide (y1<(y2.length:Int)))then(bif inb y1 y2.length then
 let e1:=(rd1 Ya y2 y1);
 (xV D e1.1).bind fun r2=>
 (vV D (y0,r2)).bind fun r3=>
 bif r3 then(bif inb y1 y2.length then
 let e4:=(rd1 Ya y2 y1);
 bif fits (y4.length+ [e4].length) 56 then
 ZA L (y0,(wR (y1+1)),y2,y3,(y4++[e4]),y5)else none else none)
 else(ZA L (y0,(wR (y1+1)),y2,y3,y4,y5))else none)
 else(some (y0,y2,y3,y4,y5))
theorem QbK:OfL ZA Qab:=ofL 162 0
def yZ:rL Zx:=fun D L (y0,y1,y2,y3,y4,y5)=>
 bif (decide (y1<(y3.length:Int)))then(bif inb y1 y3.length then
 let e6:=(rd1 Xk y3 y1);
 (xV D e6.1).bind fun r7=>
 (vV D (y0,r7)).bind fun r8=>
 bif r8 then(bif inb y1 y3.length then
 let e9:=(rd1 Xk y3 y1);
 bif fits (y5.length+ [e9].length) 16 then
 Zx L (y0,(wR (y1+1)),y2,y3,y4,(y5++[e9]))else none else none)
 else(Zx L (y0,(wR (y1+1)),y2,y3,y4,y5))else none)
 else(some (y4,y5))
theorem Qb1:OfL Zx yZ:=ofL 162 2
def QeZ:rF vj:=fun D L (a0,a1,a2)=>
 (ZA L (a2,0,a0,a1,[],[])).bind fun z5=>
 (Zx L (z5.1,0,z5.2)).bind fun z10=>
 some z10
theorem Qmi:OfF vj QeZ:=ofF 162
def qX:rL V2:=fun D L (y0,y1)=>
 bif (decide (127<y0))then(bif decide ((128:Int)≠0)then
 bif fits (y1.length+ [(IntKind.wrap .u8 (wR ((Int.tmod y0 128)+128)))].length) 1 then
 bif decide ((128:Int)≠0)then
 V2 L ((wR (Int.tdiv y0 128)),(y1++[(IntKind.wrap .u8 (wR ((Int.tmod y0 128)+128)))]))else none else none else none)
 else(some (y0,y1))
theorem Qdi:OfL V2 qX:=ofL 163 0
def Qf8:rF Q7:=fun D L a0=>
 (QD D (a0,0,2147483647)).bind fun r1=>
 bif (!r1)then(some [])
 else((V2 L (a0,[])).bind fun z2=>
 bif fits (z2.2.length+ [(IntKind.wrap .u8 z2.1)].length) 1 then
 some (z2.2++[(IntKind.wrap .u8 z2.1)])else none)
theorem QoV:OfF Q7 Qf8:=ofF 163
def Qeb:rF vP:=fun D L (a0,a1,a2,a3,a4)=>
 some (a0,a1,a2,a3,a4)
theorem Qoo:OfF vP Qeb:=ofF 164
def Qhb:rL xW:=fun D L (y0,y1,y2,y3)=>
 bif (decide (y3<y2))then(bif inb y3 y1.length then
 (K8 L ((bits .xor .i64 y0 (wR (rd1 (0:Int) y1 y3))),y1,y2,y3,0)).bind fun z1=>
 xW L (z1.1,z1.2.1,z1.2.2.1,(wR (z1.2.2.2+1)))else none)
 else(some y0)
theorem QhM:OfL xW Qhb:=ofL 165 0
def Qhf:rL K8:=fun D L (y0,y1,y2,y3,y4)=>
 bif (decide (y4<8))then(bif decide ((2:Int)≠0)then
 bif decide ((2:Int)≠0)then
 bif (decide ((Int.tmod y0 2)=1))then(K8 L ((bits .xor .i64 (wR (Int.tdiv y0 2)) 3988292384),y1,y2,y3,(wR (y4+1))))
 else(K8 L ((wR (Int.tdiv y0 2)),y1,y2,y3,(wR (y4+1))))else none else none)
 else(some (y0,y1,y2,y3))
theorem Qhi:OfL K8 Qhf:=ofL 165 2
def QjE:rF zP:=fun D L a0=>
 (xW L (4294967295,a0,(a0.length:Int),0)).bind fun z2=>
 some (bits .xor .i64 z2 4294967295)
theorem QtI:OfF zP QjE:=ofF 165
def QcJ:rL Yt:=fun D L (y0,y1,y2,y3,y4,y5,y6,y7)=>
 bif (decide (y3<y2))then(bif inb y3 y1.length then
 let e2:=(rd1 Ya y1 y3);
 (xT D e2.1).bind fun r3=>
 (Za D (y0,r3)).bind fun r4=>
 bif r4 then(bif fits (y6.length+ [e2].length) 56 then
 Yt L (y0,y1,y2,(wR (y3+1)),y4,y5,(y6++[e2]),y7)else none)
 else(Yt L (y0,y1,y2,(wR (y3+1)),y4,y5,y6,y7))else none)
 else(some (y0,y4,y5,y6,y7))
theorem Qe6:OfL Yt QcJ:=ofL 166 0
def QcN:rL Yu:=fun D L (y0,y1,y2,y3,y4,y5)=>
 bif (decide (y3<y2))then(bif inb y3 y1.length then
 let e6:=(rd1 Xk y1 y3);
 (xT D e6.1).bind fun r7=>
 (Za D (y0,r7)).bind fun r8=>
 bif r8 then(bif fits (y5.length+ [e6].length) 16 then
 Yu L (y0,y1,y2,(wR (y3+1)),y4,(y5++[e6]))else none)
 else(Yu L (y0,y1,y2,(wR (y3+1)),y4,y5))else none)
 else(some (y4,y5))
theorem QeR:OfL Yu QcN:=ofL 166 2
def Qhs:rF Qdq:=fun D L (a0,a1,a2)=>
 (XK D (a0,a1)).bind fun r1=>
 bif (!r1)then(some ([],[]))
 else((Yt L (a2,a0,(a0.length:Int),0,a0,a1,[],[])).bind fun z5=>
 (Yu L (z5.1,z5.2.2.1,(z5.2.2.1.length:Int),0,z5.2.2.2)).bind fun z9=>
 some z9)
theorem QqX:OfF Qdq Qhs:=ofF 166
def QeB:rF jo:=fun D L (a0,a1,a2,a3,a4,a5,a6,a7,a8,a9)=>
 bif (!decide (a0=a5))then(some false)
 else(bif (!decide (a1=a6))then(some false)
 else(bif (!decide (a2=a7))then(some false)
 else(bif (!decide (a3=a8))then(some false)
 else(bif (!Xm a4 a9)then(some false)
 else(some true)))))
theorem Qmj:OfF jo QeB:=ofF 170
def QeX:rF vQ:=fun D L a0=>
 (Q7 D ((ByteArray.size a0):Int)).bind fun r1=>
 bif fits (r1.length+List.length (ofBytes a0)) 1 then
 some (r1++(ofBytes a0))else none
theorem Qmg:OfF vQ QeX:=ofF 171
def vi:rL KJ:=fun D L (y0,y1,y2)=>
 bif (decide (y1<(y0.length:Int)))then(bif inb y1 y0.length then
 (Q7 D (rd1 (0:Int) y0 y1)).bind fun r2=>
 bif fits (y2.length+r2.length) 1 then
 KJ L (y0,(wR (y1+1)),(y2++r2))else none else none)
 else(some y2)
theorem QbN:OfL KJ vi:=ofL 172 0
def QeK:rF VM:=fun D L a0=>
 (Q7 D (a0.length:Int)).bind fun r1=>
 (KJ L (a0,0,r1)).bind fun z3=>
 some z3
theorem Qn7:OfF VM QeK:=ofF 172
def QdY:rF yF:=fun D L (a0,a1)=>
 (xP D (a0,a1)).bind fun r1=>
 bif (!r1.2.2)then(some ((⟨#[]⟩:ByteArray),0,false))
 else(bif (decide ((wR ((a0.length:Int) - r1.2.1))<r1.1))then(some ((⟨#[]⟩:ByteArray),0,false))
 else(bif decide ((0:Int)<=r1.2.1/\r1.2.1<=((wR (r1.2.1+r1.1)):Int)/\(wR (r1.2.1+r1.1))<=(a0.length:Int))then
 some ((QA (List.take (Int.toNat ((wR (r1.2.1+r1.1)) - r1.2.1)) (List.drop (Int.toNat r1.2.1) a0))),(wR (r1.2.1+r1.1)),true)else none))
theorem Qoq:OfF yF QdY:=ofF 173
end
end Go.Proofs.YtameehmkoglkeaaGreatDoor.M
