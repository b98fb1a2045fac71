/- Plain forms of the functions that FnExactGiveAll reaches, part 5. No conditions. -/
import Derived.Test.YtiejfnbmficbmaaGreatFnExactGiveAllTab
set_option linter.all false
namespace Go.Proofs.YtiejfnbmficbmaaGreat.M
open Go Go.Eng Go.Proofs
set_option linter.unusedVariables false
noncomputable section
def Qmo:rF QcK:=fun D L (a0,a1)=>
 bif (decide ((wR (a1 - (a0.length:Int)))<0))then(some (-1))
 else(some (wR (a1 - (a0.length:Int))))
theorem QuN:OfF QcK Qmo:=ofF 141
def Qke:rF Qdl:=fun D L (a0,a1)=>
 bif (decide ((wR (a1 - (a0.length:Int)))<0))then(some (-1))
 else(some (wR (a1 - (a0.length:Int))))
theorem Qwe:OfF Qdl Qke:=ofF 142
def Qkn:rF Qcq:=fun D L (a0,a1,a2,a3)=>
 (Qgg D (a0,a2)).bind fun r1=>
 bif r1 then(some (decide (a1=a3)))
 else(some false)
theorem Qxr:OfF Qcq Qkn:=ofF 143
def QfG:rL V4:=fun D L (y0,y1,y2,y3,y4)=>
 bif (decide (y0<4))then((Qcm D (y1,y2,y0)).bind fun r2=>
 bif fits (y3.length+ [r2].length) 8 then
 V4 L ((wR (y0+1)),y1,y2,(y3++[r2]),y4)else none)
 else(some (y3,y4))
theorem Qi7:OfL V4 QfG:=ofL 144 0
def Qnw:rF yu:=fun D L (a0,a1)=>
 (Zo D (a0,a1)).bind fun r1=>
 bif (!r1)then(some ([],0))
 else((V4 L (0,a0,a1,[],0)).bind fun z3=>
 (Qf7 D z3.1).bind fun r4=>
 some (z3.1,r4))
theorem QyR:OfF yu Qnw:=ofF 144
def Qin:rL zU:=fun D L (y0,y1,y2,y3)=>
 bif (decide (y0<(y3.length:Int)))then(bif inb y0 y3.length then
 let e3:=(rd1 Y9 y3 y0);
 (Zo D e3).bind fun r4=>
 bif (!r4)then(some (Sum.inl false))
 else(zU L ((wR (y0+1)),y1,y2,y3))else none)
 else(some (Sum.inr ()))
theorem Qkt:OfL zU Qin:=ofL 145 0
def QoI:rF zK:=fun D L (a0,a1,a2)=>
 (QL D (a0,1,8)).bind fun r1=>
 bif (!r1)then(some false)
 else(bif (decide (a0<(a2.length:Int)))then(some false)
 else((QL D (a1,0,100000)).bind fun r2=>
 bif (!r2)then(some false)
 else(bif (decide (100000<(wR (a1+(a2.length:Int)))))then(some false)
 else((zU L (0,a0,a1,a2)).bind fun z5=>
 Qn z5 (fun u6=>
 some u6)
 (fun z7=>
 some true)))))
theorem QAF:OfF zK QoI:=ofF 145
def QiC:rL zR:=fun D L (y0,y1,y2)=>
 bif (decide (y2<y1))then(bif inb y2 y0.length then
 (QL D ((rd1 (0:Int) y0 y2),0,100000)).bind fun r2=>
 bif (!r2)then(some (Sum.inl false))
 else(zR L (y0,y1,(wR (y2+1))))else none)
 else(some (Sum.inr ()))
theorem Qkp:OfL zR QiC:=ofL 146 0
def Qfw:rF Qcs:=fun D L (a0,a1)=>
 (QL D (a1,1,5)).bind fun r1=>
 bif (!r1)then(some false)
 else(bif (!decide ((a0.length:Int)=a1))then(some false)
 else((zR L (a0,a1,0)).bind fun z3=>
 Qn z3 (fun u4=>
 some u4)
 (fun z5=>
 some true)))
theorem QAa:OfF Qcs Qfw:=ofF 146
def Qmr:rF xe:=fun D L (a0,a1,a2)=>
 (zK D (a0,a1,a2)).bind fun r1=>
 bif (!r1)then(some 0)
 else(some (wR (a1+(a2.length:Int))))
theorem Qyy:OfF xe Qmr:=ofF 147
def QeI:rL qI:=fun D L (y0,y1,y2)=>
 bif (decide (y2<y1))then(bif inb y2 y0.length then
 bif (!decide (((List.length (rd1 ([]:List Int) y0 y2)):Int)=5))then(some (Sum.inl false))
 else((K2 L (y0,y1,y2,0)).bind fun z3=>
 Qn z3 (fun u4=>
 some (Sum.inl u4))
 (fun z5=>
 qI L (z5.1,z5.2.1,(wR (z5.2.2+1)))))else none)
 else(some (Sum.inr ()))
theorem QgK:OfL qI QeI:=ofL 148 0
def Qen:rL K2:=fun D L (y0,y1,y2,y3)=>
 bif inb y2 y0.length then
 bif (decide (y3<((List.length (rd1 ([]:List Int) y0 y2)):Int)))then(bif inb y2 y0.length then
 bif inb y3 (List.length (rd1 ([]:List Int) y0 y2))then
 (QL D ((rd1 (0:Int) (rd1 ([]:List Int) y0 y2) y3),0,1000)).bind fun r2=>
 bif (!r2)then(some (Sum.inl false))
 else(K2 L (y0,y1,y2,(wR (y3+1))))else none else none)
 else(some (Sum.inr (y0,y1,y2)))else none
theorem Qh6:OfL K2 Qen:=ofL 148 2
def Qbo:rF Qb6:=fun D L (a0,a1)=>
 (QL D (a1,1,5)).bind fun r1=>
 bif (!r1)then(some false)
 else(bif (!decide ((a0.length:Int)=a1))then(some false)
 else((qI L (a0,a1,0)).bind fun z6=>
 Qn z6 (fun u7=>
 some u7)
 (fun z8=>
 some true)))
theorem QwY:OfF Qb6 Qbo:=ofF 148
def QdP:rL J2:=fun D L (y0,y1,y2,y3,y4,y5,y6,y7,y8,y9,y10,y11,y12,y13,y14,y15,y16,y17,y18,y19)=>
 bif (decide (y0<(y15.length:Int)))then(bif inb y0 y15.length then
 let e1:=(rd1 Zr y15 y0);
 (QL D (e1.1,0,(wR (y2 - 1)))).bind fun r2=>
 bif (!r2)then(some (Sum.inl false))
 else(bif (decide (e1.1=y1))then(some (Sum.inl false))
 else((QL D (e1.2.1,0,100000)).bind fun r3=>
 bif (!r3)then(some (Sum.inl false))
 else((QL D (e1.2.2.2,0,y16)).bind fun r4=>
 bif (!r4)then(some (Sum.inl false))
 else((YB L (y0,0,e1.1,y1,(decide (e1.1=y1)),e1.2.1,r3,(!r3),e1.2.2.2,y16,r4,(!r4),y1,y2,y3,y4,y5,y6,y7,y8,y9,y10,y11,y12,y13,y14,y15,y16,y17,y18,y19,e1)).bind fun z7=>
 Qn z7 (fun u8=>
 some (Sum.inl u8))
 (fun z9=>
 J2 L ((wR (z9.1+1)),z9.2.2.2.2.2.2.2.2.2.2.2.1,z9.2.2.2.2.2.2.2.2.2.2.2.2.1,z9.2.2.2.2.2.2.2.2.2.2.2.2.2.1,z9.2.2.2.2.2.2.2.2.2.2.2.2.2.2.1,z9.2.2.2.2.2.2.2.2.2.2.2.2.2.2.2.1,z9.2.2.2.2.2.2.2.2.2.2.2.2.2.2.2.2.1,z9.2.2.2.2.2.2.2.2.2.2.2.2.2.2.2.2.2.1,z9.2.2.2.2.2.2.2.2.2.2.2.2.2.2.2.2.2.2.1,z9.2.2.2.2.2.2.2.2.2.2.2.2.2.2.2.2.2.2.2.1,z9.2.2.2.2.2.2.2.2.2.2.2.2.2.2.2.2.2.2.2.2.1,z9.2.2.2.2.2.2.2.2.2.2.2.2.2.2.2.2.2.2.2.2.2.1,z9.2.2.2.2.2.2.2.2.2.2.2.2.2.2.2.2.2.2.2.2.2.2.1,z9.2.2.2.2.2.2.2.2.2.2.2.2.2.2.2.2.2.2.2.2.2.2.2.1,z9.2.2.2.2.2.2.2.2.2.2.2.2.2.2.2.2.2.2.2.2.2.2.2.2.1,z9.2.2.2.2.2.2.2.2.2.2.2.2.2.2.2.2.2.2.2.2.2.2.2.2.2.1,z9.2.2.2.2.2.2.2.2.2.2.2.2.2.2.2.2.2.2.2.2.2.2.2.2.2.2.1,z9.2.2.2.2.2.2.2.2.2.2.2.2.2.2.2.2.2.2.2.2.2.2.2.2.2.2.2.1,z9.2.2.2.2.2.2.2.2.2.2.2.2.2.2.2.2.2.2.2.2.2.2.2.2.2.2.2.2.1,z9.2.2.2.2.2.2.2.2.2.2.2.2.2.2.2.2.2.2.2.2.2.2.2.2.2.2.2.2.2.1))))))else none)
 else(some (Sum.inr ()))
theorem QhN:OfL J2 QdP:=ofL 149 0
def Qdx:rL YB:=fun D L (y0,y1,y2,y3,y4,y5,y6,y7,y8,y9,y10,y11,y12,y13,y14,y15,y16,y17,y18,y19,y20,y21,y22,y23,y24,y25,y26,y27,y28,y29,y30,y31,y32,y33,y34)=>
 bif (decide (y1<y0))then(bif inb y1 y26.length then
 let e5:=(rd1 Zr y26 y1);
 bif (decide (e5.1=y31))then(bif inb y1 y26.length then
 let e6:=(rd1 Zr y26 y1);
 bif (e6.2.2.1==y33)then(some (Sum.inl false))
 else(YB L (y0,(wR (y1+1)),y2,y3,y4,y5,y6,y7,y8,y9,y10,y11,y12,y13,y14,y15,y16,y17,y18,y19,y20,y21,y22,y23,y24,y25,y26,y27,y28,y29,y30,y31,y32,y33,y34))else none)
 else(YB L (y0,(wR (y1+1)),y2,y3,y4,y5,y6,y7,y8,y9,y10,y11,y12,y13,y14,y15,y16,y17,y18,y19,y20,y21,y22,y23,y24,y25,y26,y27,y28,y29,y30,y31,y32,y33,y34))else none)
 else(some (Sum.inr (y0,y2,y3,y4,y5,y6,y7,y8,y9,y10,y11,y12,y13,y14,y15,y16,y17,y18,y19,y20,y21,y22,y23,y24,y25,y26,y27,y28,y29,y30,y31,y32,y33,y34)))
theorem Qg7:OfL YB Qdx:=ofL 149 2
def QlO:rF Qec:=fun D L (a0,a1,a2,a3,a4,a5,a6,a7,a8,a9,a10,a11,a12,a13,a14,a15,a16,a17,a18)=>
 bif (decide (a13<(a14.length:Int)))then(some false)
 else((J2 L (0,a0,a1,a2,a3,a4,a5,a6,a7,a8,a9,a10,a11,a12,a13,a14,a15,a16,a17,a18)).bind fun z10=>
 Qn z10 (fun u11=>
 some u11)
 (fun z12=>
 some true))
theorem Qw8:OfF Qec QlO:=ofF 149
def QmZ:rF Kw:=fun D L a0=>
 (QL D (a0,0,4)).bind fun r1=>
 some r1
theorem QxO:OfF Kw QmZ:=ofF 150
def Qml:rF xX:=fun D L (a0,a1,a2,a3,a4)=>
 (QL D (a0,1,1000)).bind fun r1=>
 bif r1 then((QL D (a1,0,1)).bind fun r2=>
 bif r2 then((QL D (a2,0,100000)).bind fun r3=>
 bif r3 then((QL D (a3,0,1000)).bind fun r4=>
 bif r4 then(some (decide (((ByteArray.size a4):Int)<=8)))
 else(some false))
 else(some false))
 else(some false))
 else(some false)
theorem Qxj:OfF xX Qml:=ofF 151
def Qcb:rL qz:=fun D L (y0,y1,y2,y3)=>
 bif (decide (y1<(y3.length:Int)))then(bif inb y1 y3.length then
 let e1:=(rd1 Xx y3 y1);
 bif (decide (e1.1=y0))then(bif inb y1 y3.length then
 let e2:=(rd1 Xx y3 y1);
 some (Sum.inl e2.2)else none)
 else(qz L (y0,(wR (y1+1)),y2,y3))else none)
 else(some (Sum.inr ()))
theorem QhC:OfL qz Qcb:=ofL 152 0
def QlN:rF KI:=fun D L (a0,a1,a2)=>
 (qz L (a2,0,a0,a1)).bind fun z3=>
 Qn z3 (fun u4=>
 some u4)
 (fun z5=>
 some 0)
theorem Qu9:OfF KI QlN:=ofF 152
def Qob:rL QaE:=fun D L (y0,y1,y2)=>
 bif (decide (y2<(y0.length:Int)))then(bif inb y2 y0.length then
 (xi L (y0,(bits .xor .i64 y1 (wR (rd1 (0:Int) y0 y2))),y2,0)).bind fun z1=>
 QaE L (z1.1,z1.2.1,(wR (z1.2.2+1)))else none)
 else(some y1)
theorem QoU:OfL QaE Qob:=ofL 153 0
def Qoe:rL xi:=fun D L (y0,y1,y2,y3)=>
 bif (decide (y3<8))then(bif decide ((2:Int)≠0)then
 bif decide ((2:Int)≠0)then
 bif (decide ((Int.tmod y1 2)=1))then(xi L (y0,(bits .xor .i64 (wR (Int.tdiv y1 2)) 3988292384),y2,(wR (y3+1))))
 else(xi L (y0,(wR (Int.tdiv y1 2)),y2,(wR (y3+1))))else none else none)
 else(some (y0,y1,y2))
theorem Qpv:OfL xi Qoe:=ofL 153 2
def Qr3:rF Qa7:=fun D L a0=>
 (QaE L (a0,4294967295,0)).bind fun z2=>
 some (bits .xor .i64 z2 4294967295)
theorem QD8:OfF Qa7 Qr3:=ofF 153
def VT:rL XO:=fun D L (y0,y1,y2,y3)=>
 bif (decide (y3<5))then(bif (decide (y1<0))then(some (Sum.inl (0,0,false)))
 else(bif (decide ((wR ((y0.length:Int) - y3))<=y1))then(some (Sum.inl (0,0,false)))
 else(bif inb (wR (y1+y3)) y0.length then
 bif decide ((128:Int)≠0)then
 bif decide ((0:Int)<=(wR (7*y3)))then
 bif (decide ((wR (rd1 (0:Int) y0 (wR (y1+y3))))<128))then(bif (decide (0<y3))then(bif (decide ((wR (rd1 (0:Int) y0 (wR (y1+y3))))=0))then(some (Sum.inl (0,0,false)))
 else(bif (decide (2147483647<(bits .or .i64 y2 (Qbf .i64 (Int.tmod (wR (rd1 (0:Int) y0 (wR (y1+y3)))) 128) (wR (7*y3))))))then(some (Sum.inl (0,0,false)))
 else(some (Sum.inl ((bits .or .i64 y2 (Qbf .i64 (Int.tmod (wR (rd1 (0:Int) y0 (wR (y1+y3)))) 128) (wR (7*y3)))),(wR ((wR (y1+y3))+1)),true)))))
 else(bif (decide (2147483647<(bits .or .i64 y2 (Qbf .i64 (Int.tmod (wR (rd1 (0:Int) y0 (wR (y1+y3)))) 128) (wR (7*y3))))))then(some (Sum.inl (0,0,false)))
 else(some (Sum.inl ((bits .or .i64 y2 (Qbf .i64 (Int.tmod (wR (rd1 (0:Int) y0 (wR (y1+y3)))) 128) (wR (7*y3)))),(wR ((wR (y1+y3))+1)),true)))))
 else(XO L (y0,y1,(bits .or .i64 y2 (Qbf .i64 (Int.tmod (wR (rd1 (0:Int) y0 (wR (y1+y3)))) 128) (wR (7*y3)))),(wR (y3+1))))else none else none else none)))
 else(some (Sum.inr ()))
theorem Vv:OfL XO VT:=ofL 154 0
def Qnr:rF QaI:=fun D L (a0,a1)=>
 (XO L (a0,a1,0,0)).bind fun z1=>
 Qn z1 (fun u2=>
 some u2)
 (fun z3=>
 some (0,0,false))
theorem QxC:OfF QaI Qnr:=ofF 154
def Qk5:rF QeG:=fun D L (a0,a1)=>
 (QaI D (a0,a1)).bind fun r1=>
 bif (!r1.2.2)then(some ((⟨#[]⟩:ByteArray),0,false))
 else(bif (decide ((wR ((a0.length:Int) - r1.2.1))<r1.1))then(some ((⟨#[]⟩:ByteArray),0,false))
 else(bif decide ((0:Int)<=r1.2.1/\r1.2.1<=((wR (r1.2.1+r1.1)):Int)/\(wR (r1.2.1+r1.1))<=(a0.length:Int))then
 some ((QM (List.take (Int.toNat ((wR (r1.2.1+r1.1)) - r1.2.1)) (List.drop (Int.toNat r1.2.1) a0))),(wR (r1.2.1+r1.1)),true)else none))
theorem QwR:OfF QeG Qk5:=ofF 155
def Qb8:rL KS:=fun D L (y0,y1,y2,y3)=>
 bif (decide (y0<(y1.length:Int)))then(bif inb y0 y1.length then
 let e2:=(rd1 Zc y1 y0);
 bif inb y0 y1.length then
 let e3:=(rd1 Zc y1 y0);
 (Va L (y0,0,y1,y2,y3,e2.2.1,e2.2.2.1,e2.2.2.2.1,e2.2.2.2.2.1,e2.2.2.2.2.2,[e3.1,e2.2.1,e2.2.2.1,e2.2.2.2.1,e2.2.2.2.2.1])).bind fun z5=>
 (QdZ D z5.2.2.2.2.2.2.2.2).bind fun r6=>
 bif fits (z5.2.2.2.1.length+r6.length) 1 then
 KS L ((wR (z5.1+1)),z5.2.1,z5.2.2.1,(z5.2.2.2.1++r6))else none else none else none)
 else(some (y1,y2,y3))
theorem Qhp:OfL KS Qb8:=ofL 156 0
def Qcr:rL Va:=fun D L (y0,y1,y2,y3,y4,y5,y6,y7,y8,y9,y10)=>
 bif (decide (y1<(y10.length:Int)))then(bif inb y1 y10.length then
 (Xs D (rd1 (0:Int) y10 y1)).bind fun r4=>
 bif fits (y4.length+r4.length) 1 then
 Va L (y0,(wR (y1+1)),y2,y3,(y4++r4),y5,y6,y7,y8,y9,y10)else none else none)
 else(some (y0,y2,y3,y4,y5,y6,y7,y8,y9))
theorem QhX:OfL Va Qcr:=ofL 156 2
def Qd9:rL KV:=fun D L (y0,y1,y2,y3)=>
 bif (decide (y0<(y2.length:Int)))then(bif inb y0 y2.length then
 let e9:=(rd1 Xx y2 y0);
 (Xs D e9.1).bind fun r10=>
 bif fits (y3.length+r10.length) 1 then
 bif inb y0 y2.length then
 let e11:=(rd1 Xx y2 y0);
 (Xs D e11.2).bind fun r12=>
 bif fits (List.length (y3++r10)+r12.length) 1 then
 KV L ((wR (y0+1)),y1,y2,((y3++r10)++r12))else none else none else none else none)
 else(some y3)
theorem Qhw:OfL KV Qd9:=ofL 156 4
def Qla:rF xD:=fun D L (a0,a1)=>
 (Xs D (a0.length:Int)).bind fun r1=>
 (KS L (0,a0,a1,r1)).bind fun z7=>
 (Xs D (z7.2.1.length:Int)).bind fun r8=>
 bif fits (z7.2.2.length+r8.length) 1 then
 (KV L (0,z7.1,z7.2.1,(z7.2.2++r8))).bind fun z13=>
 some z13 else none
theorem Qu5:OfF xD Qla:=ofF 156
def Qlg:rF Qek:=fun D L (a0,a1)=>
 bif (decide ((a0.length:Int)=0))then(some (decide (a1=0)))
 else(bif (decide ((a0.length:Int)=4))then((zb D (a0,4,1023)).bind fun r1=>
 bif r1 then((QL D (a1,0,1023)).bind fun r2=>
 some r2)
 else(some false))
 else(some false))
theorem QvH:OfF Qek Qlg:=ofF 157
def QeK:rL J7:=fun D L (y0,y1,y2)=>
 bif (decide (y2<(y0.length:Int)))then(bif inb y2 y0.length then
 (QL D ((rd1 (0:Int) y0 y2),0,y1)).bind fun r1=>
 bif (!r1)then(some (Sum.inl false))
 else(J7 L (y0,y1,(wR (y2+1))))else none)
 else(some (Sum.inr ()))
theorem Qh9:OfL J7 QeK:=ofL 158 0
def Qmq:rF zb:=fun D L (a0,a1,a2)=>
 bif (decide (a1<(a0.length:Int)))then(some false)
 else((J7 L (a0,a2,0)).bind fun z2=>
 Qn z2 (fun u3=>
 some u3)
 (fun z4=>
 some true))
theorem QvY:OfF zb Qmq:=ofF 158
def QbW:rL K9:=fun D L (y0,y1)=>
 bif (decide (y1<(y0.length:Int)))then(bif inb y1 y0.length then
 let e1:=(rd1 Xx y0 y1);
 (Kw D e1.1).bind fun r2=>
 bif (!r2)then(some (Sum.inl false))
 else(bif (decide (0<y1))then(bif inb y1 y0.length then
 let e3:=(rd1 Xx y0 y1);
 bif inb (wR (y1 - 1)) y0.length then
 let e4:=(rd1 Xx y0 (wR (y1 - 1)));
 bif (decide (e3.1<=e4.1))then(some (Sum.inl false))
 else(bif inb y1 y0.length then
 let e5:=(rd1 Xx y0 y1);
 (QL D (e5.2,1,1000)).bind fun r6=>
 bif (!r6)then(some (Sum.inl false))
 else(K9 L (y0,(wR (y1+1))))else none)else none else none)
 else(bif inb y1 y0.length then
 let e7:=(rd1 Xx y0 y1);
 (QL D (e7.2,1,1000)).bind fun r8=>
 bif (!r8)then(some (Sum.inl false))
 else(K9 L (y0,(wR (y1+1))))else none))else none)
 else(some (Sum.inr ()))
theorem Qh3:OfL K9 QbW:=ofL 159 0
def Qk7:rF jW:=fun D L a0=>
 (K9 L (a0,0)).bind fun z9=>
 Qn z9 (fun u10=>
 some u10)
 (fun z11=>
 some true)
theorem Qwl:OfF jW Qk7:=ofF 159
def Ql4:rF xS:=fun D L (a0,a1)=>
 (Qew D a0).bind fun r1=>
 (QaK D a1).bind fun r2=>
 some (r1,r2)
theorem QvR:OfF xS Ql4:=ofF 160
def QmE:rF Qgn:=fun D L (a0,a1)=>
 (Z3 D a0).bind fun r1=>
 some (r1,a1)
theorem Qyj:OfF Qgn QmE:=ofF 161
def Qot:rF QjL:=fun D L (a0,a1,a2)=>
 (QaR D a2).bind fun r1=>
 some (a0,a1,r1)
theorem QAx:OfF QjL Qot:=ofF 162
def QdX:rL qw:=fun D L (y0,y1,y2)=>
 bif (decide (y1<(y0.length:Int)))then(bif inb y1 y0.length then
 (Z3 D (rd1 ([]:List Int) y0 y1)).bind fun r1=>
 bif inb y1 y2.length then
 let l2:=List.set y2 (Int.toNat y1) r1;
 qw L (y0,(wR (y1+1)),l2)else none else none)
 else(some y2)
theorem Qhe:OfL qw QdX:=ofL 163 0
def QlH:rF QcY:=fun D L a0=>
 bif (decide ((0:Int)<=(a0.length:Int)/\((a0.length:Int):Int)=(a0.length:Int))&&fits (Int.toNat (a0.length:Int)) 24)then
 (qw L (a0,0,(List.replicate (Int.toNat (a0.length:Int)) []))).bind fun z3=>
 some z3 else none
theorem Qwt:OfF QcY QlH:=ofF 163
def Qeo:rL qB:=fun D L (y0,y1,y2)=>
 bif (decide (y1<(y0.length:Int)))then(bif inb y1 y0.length then
 let e1:=(rd1 Zr y0 y1);
 (Qgf D e1).bind fun r2=>
 bif inb y1 y2.length then
 let l3:=List.set y2 (Int.toNat y1) r2;
 qB L (y0,(wR (y1+1)),l3)else none else none)
 else(some y2)
theorem Qhi:OfL qB Qeo:=ofL 164 0
def Qme:rF QcW:=fun D L a0=>
 bif (decide ((0:Int)<=(a0.length:Int)/\((a0.length:Int):Int)=(a0.length:Int))&&fits (Int.toNat (a0.length:Int)) 32)then
 (qB L (a0,0,(List.replicate (Int.toNat (a0.length:Int)) (0,0,false,0)))).bind fun z4=>
 some z4 else none
theorem QvT:OfF QcW Qme:=ofF 164
def Qda:rL qC:=fun D L (y0,y1,y2)=>
 bif (decide (y1<(y0.length:Int)))then(bif inb y1 y0.length then
 let e1:=(rd1 Zq y0 y1);
 (Qgd D e1).bind fun r2=>
 bif inb y1 y2.length then
 let l3:=List.set y2 (Int.toNat y1) r2;
 qC L (y0,(wR (y1+1)),l3)else none else none)
 else(some y2)
theorem Qif:OfL qC Qda:=ofL 165 0
def QlW:rF Qb4:=fun D L a0=>
 bif (decide ((0:Int)<=(a0.length:Int)/\((a0.length:Int):Int)=(a0.length:Int))&&fits (Int.toNat (a0.length:Int)) 24)then
 (qC L (a0,0,(List.replicate (Int.toNat (a0.length:Int)) (0,0,0)))).bind fun z4=>
 some z4 else none
theorem Qwv:OfF Qb4 QlW:=ofF 165
def Qb7:rL qn:=fun D L (y0,y1,y2)=>
 bif (decide (y1<(y0.length:Int)))then(bif inb y1 y0.length then
 bif inb y1 y2.length then
 let l1:=List.set y2 (Int.toNat y1) (rd1 (0:Int) y0 y1);
 qn L (y0,(wR (y1+1)),l1)else none else none)
 else(some y2)
theorem Qhm:OfL qn Qb7:=ofL 166 0
def Qmd:rF Qce:=fun D L a0=>
 bif (decide ((0:Int)<=(a0.length:Int)/\((a0.length:Int):Int)=(a0.length:Int))&&fits (Int.toNat (a0.length:Int)) 1)then
 (qn L (a0,0,(List.replicate (Int.toNat (a0.length:Int)) 0))).bind fun z2=>
 some z2 else none
theorem QwA:OfF Qce Qmd:=ofF 166
def VU:rL XP:=fun D L (y0,y1,y2,y3)=>
 bif (decide (y3<5))then(bif (decide ((wR (y1+y3))<(y0.length:Int)))then(bif inb (wR (y1+y3)) y0.length then
 bif decide ((128:Int)≠0)then
 bif decide ((0:Int)<=(wR (7*y3)))then
 bif (decide (128<=(wR (rd1 (0:Int) y0 (wR (y1+y3))))))then(XP L (y0,y1,(wR (y2+(Qbf .i64 (Int.tmod (wR (rd1 (0:Int) y0 (wR (y1+y3)))) 128) (wR (7*y3))))),(wR (y3+1))))
 else(bif (decide (0<y3))then(bif (decide ((wR (rd1 (0:Int) y0 (wR (y1+y3))))=0))then(some (Sum.inl (0,0,false)))
 else(bif (decide (2147483647<(wR (y2+(Qbf .i64 (Int.tmod (wR (rd1 (0:Int) y0 (wR (y1+y3)))) 128) (wR (7*y3)))))))then(some (Sum.inl (0,0,false)))
 else(some (Sum.inl ((wR (y2+(Qbf .i64 (Int.tmod (wR (rd1 (0:Int) y0 (wR (y1+y3)))) 128) (wR (7*y3))))),(wR ((wR (y1+y3))+1)),true)))))
 else(bif (decide (2147483647<(wR (y2+(Qbf .i64 (Int.tmod (wR (rd1 (0:Int) y0 (wR (y1+y3)))) 128) (wR (7*y3)))))))then(some (Sum.inl (0,0,false)))
 else(some (Sum.inl ((wR (y2+(Qbf .i64 (Int.tmod (wR (rd1 (0:Int) y0 (wR (y1+y3)))) 128) (wR (7*y3))))),(wR ((wR (y1+y3))+1)),true)))))else none else none else none)
 else(some (Sum.inr ())))
 else(some (Sum.inr ()))
theorem VB:OfL XP VU:=ofL 167 0
def Qmu:rF QaB:=fun D L (a0,a1)=>
 bif (decide (a1<0))then(some (0,0,false))
 else(bif (decide ((a0.length:Int)<=a1))then(some (0,0,false))
 else((XP L (a0,a1,0,0)).bind fun z1=>
 Qn z1 (fun u2=>
 some u2)
 (fun z3=>
 some (0,0,false))))
theorem QyV:OfF QaB Qmu:=ofF 167
def Qev:rF Jo:=fun D L (a0,a1,a2)=>
 (Qdi D (a0,a1)).bind fun r1=>
 bif a2 then(some ((⟨#[]⟩:ByteArray),a1,true))
 else(bif (!r1.2.2)then(some ((⟨#[]⟩:ByteArray),a1,true))
 else(some (r1.1,r1.2.1,a2)))
theorem QqR:OfF Jo Qev:=ofF 168
def jn:rL Yf:=fun D L (y0,y1,y2,y3,y4,y5)=>
 bif (decide (y2<y1))then(bif inb y2 y0.length then
 let e3:=(rd1 Zc y0 y2);
 (Q2 D e3.1).bind fun r4=>
 (Q2 D e3.2.1).bind fun r5=>
 (Q2 D e3.2.2.1).bind fun r6=>
 (Q2 D e3.2.2.2.1).bind fun r7=>
 (Q2 D e3.2.2.2.2.1).bind fun r8=>
 (QcA D e3.2.2.2.2.2).bind fun r9=>
 (Zu D [y5,r4,r5,r6,r7,r8,r9]).bind fun r10=>
 Yf L (y0,y1,(wR (y2+1)),y3,y4,r10)else none)
 else(some (y3,y4,y5))
theorem Qbv:OfL Yf jn:=ofL 169 0
def jC:rL Ym:=fun D L (y0,y1,y2,y3)=>
 bif (decide (y2<y1))then(bif inb y2 y0.length then
 let e14:=(rd1 Xx y0 y2);
 (Q2 D e14.1).bind fun r15=>
 (Q2 D e14.2).bind fun r16=>
 (Zu D [y3,r15,r16]).bind fun r17=>
 Ym L (y0,y1,(wR (y2+1)),r17)else none)
 else(some y3)
theorem QbA:OfL Ym jC:=ofL 169 2
def Qe6:rF Vd:=fun D L (a0,a1)=>
 (XB D (a0,a1)).bind fun r1=>
 bif (!r1)then(some [])
 else((Q2 D (a0.length:Int)).bind fun r2=>
 (Yf L (a0,(a0.length:Int),0,a0,a1,r2)).bind fun z11=>
 (Q2 D (z11.2.1.length:Int)).bind fun r12=>
 (Zu D [z11.2.2,r12]).bind fun r13=>
 (Ym L (z11.2.1,(z11.2.1.length:Int),0,r13)).bind fun z18=>
 some z18)
theorem QqX:OfF Vd Qe6:=ofF 169
end
end Go.Proofs.YtiejfnbmficbmaaGreat.M
