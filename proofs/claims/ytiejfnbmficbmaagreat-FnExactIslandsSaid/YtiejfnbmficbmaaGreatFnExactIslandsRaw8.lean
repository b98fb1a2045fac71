/- Plain forms of the functions that FnExactIslands reaches, part 8. No conditions. -/
import Derived.Test.YtiejfnbmficbmaaGreatFnExactIslandsTab
set_option linter.all false
namespace Go.Proofs.YtiejfnbmficbmaaGreat.M
open Go Go.Eng Go.Proofs
set_option linter.unusedVariables false
noncomputable section
def jc:rL qT:=fun D L (y0,y1,y2)=>
 bif (decide (y2<(y0.length:Int)))then(bif inb y2 y0.length then
 bif inb y2 y1.length then
 bif (!decide ((rd1 (0:Int) y0 y2)=(rd1 (0:Int) y1 y2)))then(some (Sum.inl false))
 else(qT L (y0,y1,(wR (y2+1))))else none else none)
 else(some (Sum.inr ()))
theorem jO:OfL qT jc:=ofL 237 0
def Qde:rF QeV:=fun D L (a0,a1)=>
 bif (!decide ((a0.length:Int)=(a1.length:Int)))then(some false)
 else((qT L (a0,a1,0)).bind fun z1=>
 Qp z1 (fun u2=>
 some u2)
 (fun z3=>
 some true))
theorem QwH:OfF QeV Qde:=ofF 237
def Qku:rF QaV:=fun D L (a0,a1,a2)=>
 (Zw D (a0,a1)).bind fun r1=>
 bif (!r1)then(some 0)
 else((QE D (a2,0,3)).bind fun r2=>
 bif (!r2)then(some 0)
 else((qZ D (a0,a1,[a2])).bind fun r3=>
 (QbV D r3).bind fun r4=>
 (QdX D r4).bind fun r5=>
 bif decide ((1024:Int)≠0)then
 some (Int.tmod r5 1024)else none))
theorem Quv:OfF QaV Qku:=ofF 238
def Qek:rL qL:=fun D L (y0,y1,y2)=>
 bif (decide (y1<(y0.length:Int)))then(bif inb y1 y0.length then
 (ZK D (rd1 (0:Int) y0 y1)).bind fun r1=>
 bif fits (y2.length+r1.length) 1 then
 qL L (y0,(wR (y1+1)),(y2++r1))else none else none)
 else(some y2)
theorem Qhy:OfL qL Qek:=ofL 239 0
def QlM:rF QeR:=fun D L a0=>
 (qL L (a0,0,[])).bind fun z2=>
 (QdX D z2).bind fun r3=>
 bif decide ((1024:Int)≠0)then
 some (Int.tmod r3 1024)else none
theorem QvB:OfF QeR QlM:=ofF 239
def Qjp:rF Qc3:=fun D L a0=>
 (ZK D ((ByteArray.size a0):Int)).bind fun r1=>
 bif fits (r1.length+List.length (ofBytes a0)) 1 then
 some (r1++(ofBytes a0))else none
theorem QtP:OfF Qc3 Qjp:=ofF 240
def Qbs:rL qd:=fun D L (y0,y1,y2)=>
 bif (decide (y1<(y0.length:Int)))then(bif inb y1 y0.length then
 let e1:=(rd1 XZ y0 y1);
 (QeJ D e1).bind fun r2=>
 bif inb y1 y2.length then
 let l3:=List.set y2 (Int.toNat y1) r2;
 qd L (y0,(wR (y1+1)),l3)else none else none)
 else(some y2)
theorem QfS:OfL qd Qbs:=ofL 241 0
def QiI:rF Qdc:=fun D L a0=>
 bif (decide ((0:Int)<=(a0.length:Int)/\((a0.length:Int):Int)=(a0.length:Int))&&fits (Int.toNat (a0.length:Int)) 56)then
 (qd L (a0,0,(List.replicate (Int.toNat (a0.length:Int)) (0,0,0,0,0,ByteArray.empty)))).bind fun z4=>
 some z4 else none
theorem Qts:OfF Qdc QiI:=ofF 241
def Qaf:rL VD:=fun D L (y0,y1,y2)=>
 bif (decide (y1<(y0.length:Int)))then(bif inb y1 y0.length then
 let e1:=(rd1 XF y0 y1);
 (QbA D e1).bind fun r2=>
 bif inb y1 y2.length then
 let l3:=List.set y2 (Int.toNat y1) r2;
 VD L (y0,(wR (y1+1)),l3)else none else none)
 else(some y2)
theorem QdD:OfL VD Qaf:=ofL 242 0
def Qhe:rF vK:=fun D L a0=>
 bif (decide ((0:Int)<=(a0.length:Int)/\((a0.length:Int):Int)=(a0.length:Int))&&fits (Int.toNat (a0.length:Int)) 16)then
 (VD L (a0,0,(List.replicate (Int.toNat (a0.length:Int)) (0,0)))).bind fun z4=>
 some z4 else none
theorem QsF:OfF vK Qhe:=ofF 242
def Qad:rL VO:=fun D L (y0,y1,y2)=>
 bif (decide (y1<(y0.length:Int)))then(bif inb y1 y0.length then
 let e1:=(rd1 YU y0 y1);
 (xl D e1).bind fun r2=>
 bif inb y1 y2.length then
 let l3:=List.set y2 (Int.toNat y1) r2;
 VO L (y0,(wR (y1+1)),l3)else none else none)
 else(some y2)
theorem Qdz:OfL VO Qad:=ofL 243 0
def Qhm:rF vO:=fun D L a0=>
 bif (decide ((0:Int)<=(a0.length:Int)/\((a0.length:Int):Int)=(a0.length:Int))&&fits (Int.toNat (a0.length:Int)) 48)then
 (VO L (a0,0,(List.replicate (Int.toNat (a0.length:Int)) ([],[])))).bind fun z4=>
 some z4 else none
theorem Qsv:OfF vO Qhm:=ofF 243
def QkO:rF Qeo:=fun D L (a0,a1,a2,a3)=>
 some (a0,a1,a2,a3)
theorem Qwb:OfF Qeo QkO:=ofF 244
def QlZ:rF QeF:=fun D L (a0,a1,a2)=>
 some (a0,a1,a2)
theorem QwF:OfF QeF QlZ:=ofF 245
def Qjv:rF QcQ:=fun D L a0=>
 (XN D ((ByteArray.size a0):Int)).bind fun r1=>
 (Kj D [r1,(ofBytes a0)]).bind fun r2=>
 some r2
theorem Quw:OfF QcQ Qjv:=ofF 247
def QmB:rL vr:=fun D L (y0,y1,y2,y3)=>
 bif (decide (y3<y2))then(bif inb y3 y1.length then
 (qA L ((bits .xor .i64 y0 (wR (rd1 (0:Int) y1 y3))),y1,y2,y3,0)).bind fun z1=>
 vr L (z1.1,z1.2.1,z1.2.2.1,(wR (z1.2.2.2+1)))else none)
 else(some y0)
theorem QmZ:OfL vr QmB:=ofL 248 0
def QmJ:rL qA:=fun D L (y0,y1,y2,y3,y4)=>
 bif (decide (y4<8))then(bif decide ((2:Int)≠0)then
 bif decide ((2:Int)≠0)then
 bif (decide ((Int.tmod y0 2)=1))then(qA L ((bits .xor .i64 (wR (Int.tdiv y0 2)) 3988292384),y1,y2,y3,(wR (y4+1))))
 else(qA L ((wR (Int.tdiv y0 2)),y1,y2,y3,(wR (y4+1))))else none else none)
 else(some (y0,y1,y2,y3))
theorem Qm1:OfL qA QmJ:=ofL 248 2
def QpY:rF Qee:=fun D L a0=>
 (vr L (4294967295,a0,(a0.length:Int),0)).bind fun z2=>
 some (bits .xor .i64 z2 4294967295)
theorem QBD:OfF Qee QpY:=ofF 248
def Ke:rL ZQ:=fun D L (y0,y1,y2,y3)=>
 bif (decide (y3<y2))then(bif inb y3 y0.length then
 bif inb y3 y1.length then
 bif (!decide ((rd1 (0:Int) y0 y3)=(rd1 (0:Int) y1 y3)))then(some (Sum.inl false))
 else(ZQ L (y0,y1,y2,(wR (y3+1))))else none else none)
 else(some (Sum.inr ()))
theorem Vc:OfL ZQ Ke:=ofL 249 0
def Ja:rF V2:=fun D L (a0,a1)=>
 bif (!decide ((a0.length:Int)=(a1.length:Int)))then(some false)
 else((ZQ L (a0,a1,(a0.length:Int),0)).bind fun z1=>
 Qp z1 (fun u2=>
 some u2)
 (fun z3=>
 some true))
theorem QmH:OfF V2 Ja:=ofF 249
def Qjt:rF QaL:=fun D L (a0,a1,a2)=>
 (XG D (a0,a1)).bind fun r1=>
 bif (!r1)then(some 0)
 else((QC D (a2,0,3)).bind fun r2=>
 bif (!r2)then(some 0)
 else((yU D (a0,a1,[a2])).bind fun r3=>
 (ya D r3).bind fun r4=>
 (Qee D r4).bind fun r5=>
 bif decide ((1024:Int)≠0)then
 some (Int.tmod r5 1024)else none))
theorem QsO:OfF QaL Qjt:=ofF 250
def Qej:rL xy:=fun D L (y0,y1,y2,y3)=>
 bif (decide (y2<y1))then(bif inb y2 y0.length then
 (XN D (rd1 (0:Int) y0 y2)).bind fun r1=>
 (Kj D [y3,r1]).bind fun r2=>
 xy L (y0,y1,(wR (y2+1)),r2)else none)
 else(some y3)
theorem QhF:OfL xy Qej:=ofL 251 0
def Ql6:rF QeW:=fun D L a0=>
 (xy L (a0,(a0.length:Int),0,[])).bind fun z3=>
 (Qee D z3).bind fun r4=>
 bif decide ((1024:Int)≠0)then
 some (Int.tmod r4 1024)else none
theorem QvZ:OfF QeW Ql6:=ofF 251
def QjQ:rL qF:=fun D L (y0,y1,y2,y3,y4)=>
 bif (decide (y4<y3))then(bif inb y4 y2.length then
 let e1:=(rd1 XX y2 y4);
 bif (decide (e1.1=y0))then(bif (e1.2.2.1==y1)then(some (Sum.inl y4))
 else(qF L (y0,y1,y2,y3,(wR (y4+1)))))
 else(qF L (y0,y1,y2,y3,(wR (y4+1))))else none)
 else(some (Sum.inr ()))
theorem Qlv:OfL qF QjQ:=ofL 252 0
def Qo0:rF xF:=fun D L (a0,a1,a2,a3,a4,a5,a6,a7,a8,a9,a10,a11,a12,a13,a14,a15,a16,a17,a18,a19,a20)=>
 (qF L (a19,a20,a14,(a14.length:Int),0)).bind fun z2=>
 Qp z2 (fun u3=>
 some u3)
 (fun z4=>
 some (-1))
theorem Qzc:OfF xF Qo0:=ofF 252
def Qcq:rL JV:=fun D L (y0,y1,y2)=>
 bif (decide (y2<(y0.length:Int)))then(bif inb y2 y0.length then
 let e1:=(rd1 XZ y0 y2);
 bif inb y2 y1.length then
 let e2:=(rd1 XZ y1 y2);
 (QeE D (e1.1,e1.2.1,e1.2.2.1,e1.2.2.2.1,e1.2.2.2.2.1,e1.2.2.2.2.2,e2)).bind fun r3=>
 bif (!r3)then(some (Sum.inl false))
 else(JV L (y0,y1,(wR (y2+1))))else none else none)
 else(some (Sum.inr ()))
theorem Qff:OfL JV Qcq:=ofL 253 0
def Qiz:rF Qdd:=fun D L (a0,a1)=>
 bif (!decide ((a0.length:Int)=(a1.length:Int)))then(some false)
 else((JV L (a0,a1,0)).bind fun z4=>
 Qp z4 (fun u5=>
 some u5)
 (fun z6=>
 some true))
theorem QuW:OfF Qdd Qiz:=ofF 253
def Qai:rL Vx:=fun D L (y0,y1,y2)=>
 bif (decide (y2<(y0.length:Int)))then(bif inb y2 y0.length then
 let e1:=(rd1 XF y0 y2);
 bif inb y2 y1.length then
 let e2:=(rd1 XF y1 y2);
 (QaP D (e1.1,e1.2,e2)).bind fun r3=>
 bif (!r3)then(some (Sum.inl false))
 else(Vx L (y0,y1,(wR (y2+1))))else none else none)
 else(some (Sum.inr ()))
theorem Qdu:OfL Vx Qai:=ofL 254 0
def QhE:rF vN:=fun D L (a0,a1)=>
 bif (!decide ((a0.length:Int)=(a1.length:Int)))then(some false)
 else((Vx L (a0,a1,0)).bind fun z4=>
 Qp z4 (fun u5=>
 some u5)
 (fun z6=>
 some true))
theorem QsE:OfF vN QhE:=ofF 254
def vT:rL VK:=fun D L (y0,y1,y2)=>
 bif (decide (y2<(y0.length:Int)))then(bif inb y2 y0.length then
 let e1:=(rd1 YU y0 y2);
 bif inb y2 y1.length then
 let e2:=(rd1 YU y1 y2);
 (xp D (e1.1,e1.2,e2)).bind fun r3=>
 bif (!r3)then(some (Sum.inl false))
 else(VK L (y0,y1,(wR (y2+1))))else none else none)
 else(some (Sum.inr ()))
theorem Qdx:OfL VK vT:=ofL 255 0
def Qht:rF vB:=fun D L (a0,a1)=>
 bif (!decide ((a0.length:Int)=(a1.length:Int)))then(some false)
 else((VK L (a0,a1,0)).bind fun z4=>
 Qp z4 (fun u5=>
 some u5)
 (fun z6=>
 some true))
theorem Qr0:OfF vB Qht:=ofF 255
def Qll:rF Qet:=fun D L (a0,a1,a2,a3,a4,a5,a6,a7)=>
 bif (!decide (a0=a4))then(some false)
 else(bif (!decide (a1=a5))then(some false)
 else(bif (!(a2==a6))then(some false)
 else(bif (!decide (a3=a7))then(some false)
 else(some true))))
theorem QvM:OfF Qet Qll:=ofF 256
def Qla:rF Qer:=fun D L (a0,a1,a2,a3,a4,a5)=>
 bif (!decide (a0=a3))then(some false)
 else(bif (!decide (a1=a4))then(some false)
 else(bif (!decide (a2=a5))then(some false)
 else(some true)))
theorem QvT:OfF Qer Qla:=ofF 257
def Qec:rL Qx:=fun D L (y0,y1,y2,y3,y4,y5,y6)=>
 bif (decide (y0<5))then((Ku D (y1,y2,y0)).bind fun r1=>
 (Ku D (y3,y4,y0)).bind fun r2=>
 (Qa7 D (r1,r2)).bind fun r3=>
 bif (decide (0<r3))then(bif fits (y6.length+ [(y0,r3)].length) 16 then
 (Kt D (y1,y2,y0)).bind fun r4=>
 (Kt D (y3,y4,y0)).bind fun r5=>
 bif (!r4.2.2.2.2.2)then(bif (!r5.2.2.2.2.2)then(Qx L ((wR (y0+1)),y1,y2,y3,y4,y5,(y6++[(y0,r3)])))
 else(bif (!r4.2.2.2.2.2)then(bif (decide (r3<r5.1))then(bif fits (y5.length+ [(y0,r5.1,r5.2.1,r5.2.2.1,r5.2.2.2.1,r5.2.2.2.2.1)].length) 56 then
 Qx L ((wR (y0+1)),y1,y2,y3,y4,(y5++[(y0,r5.1,r5.2.1,r5.2.2.1,r5.2.2.2.1,r5.2.2.2.2.1)]),(y6++[(y0,r3)]))else none)
 else(Qx L ((wR (y0+1)),y1,y2,y3,y4,y5,(y6++[(y0,r3)]))))
 else(bif r5.2.2.2.2.2 then((KY D (r5.1,r5.2.1,r5.2.2.1,r5.2.2.2.1,r5.2.2.2.2.1,r4.1,r4.2.1,r4.2.2.1,r4.2.2.2.1,r4.2.2.2.2.1)).bind fun r6=>
 bif (decide (0<r6))then(bif (decide (r3<r5.1))then(bif fits (y5.length+ [(y0,r5.1,r5.2.1,r5.2.2.1,r5.2.2.2.1,r5.2.2.2.2.1)].length) 56 then
 Qx L ((wR (y0+1)),y1,y2,y3,y4,(y5++[(y0,r5.1,r5.2.1,r5.2.2.1,r5.2.2.2.1,r5.2.2.2.2.1)]),(y6++[(y0,r3)]))else none)
 else(Qx L ((wR (y0+1)),y1,y2,y3,y4,y5,(y6++[(y0,r3)]))))
 else(bif (decide (r3<r4.1))then(bif fits (y5.length+ [(y0,r4.1,r4.2.1,r4.2.2.1,r4.2.2.2.1,r4.2.2.2.2.1)].length) 56 then
 Qx L ((wR (y0+1)),y1,y2,y3,y4,(y5++[(y0,r4.1,r4.2.1,r4.2.2.1,r4.2.2.2.1,r4.2.2.2.2.1)]),(y6++[(y0,r3)]))else none)
 else(Qx L ((wR (y0+1)),y1,y2,y3,y4,y5,(y6++[(y0,r3)])))))
 else(bif (decide (r3<r4.1))then(bif fits (y5.length+ [(y0,r4.1,r4.2.1,r4.2.2.1,r4.2.2.2.1,r4.2.2.2.2.1)].length) 56 then
 Qx L ((wR (y0+1)),y1,y2,y3,y4,(y5++[(y0,r4.1,r4.2.1,r4.2.2.1,r4.2.2.2.1,r4.2.2.2.2.1)]),(y6++[(y0,r3)]))else none)
 else(Qx L ((wR (y0+1)),y1,y2,y3,y4,y5,(y6++[(y0,r3)])))))))
 else(bif (!r4.2.2.2.2.2)then(bif (decide (r3<r5.1))then(bif fits (y5.length+ [(y0,r5.1,r5.2.1,r5.2.2.1,r5.2.2.2.1,r5.2.2.2.2.1)].length) 56 then
 Qx L ((wR (y0+1)),y1,y2,y3,y4,(y5++[(y0,r5.1,r5.2.1,r5.2.2.1,r5.2.2.2.1,r5.2.2.2.2.1)]),(y6++[(y0,r3)]))else none)
 else(Qx L ((wR (y0+1)),y1,y2,y3,y4,y5,(y6++[(y0,r3)]))))
 else(bif r5.2.2.2.2.2 then((KY D (r5.1,r5.2.1,r5.2.2.1,r5.2.2.2.1,r5.2.2.2.2.1,r4.1,r4.2.1,r4.2.2.1,r4.2.2.2.1,r4.2.2.2.2.1)).bind fun r7=>
 bif (decide (0<r7))then(bif (decide (r3<r5.1))then(bif fits (y5.length+ [(y0,r5.1,r5.2.1,r5.2.2.1,r5.2.2.2.1,r5.2.2.2.2.1)].length) 56 then
 Qx L ((wR (y0+1)),y1,y2,y3,y4,(y5++[(y0,r5.1,r5.2.1,r5.2.2.1,r5.2.2.2.1,r5.2.2.2.2.1)]),(y6++[(y0,r3)]))else none)
 else(Qx L ((wR (y0+1)),y1,y2,y3,y4,y5,(y6++[(y0,r3)]))))
 else(bif (decide (r3<r4.1))then(bif fits (y5.length+ [(y0,r4.1,r4.2.1,r4.2.2.1,r4.2.2.2.1,r4.2.2.2.2.1)].length) 56 then
 Qx L ((wR (y0+1)),y1,y2,y3,y4,(y5++[(y0,r4.1,r4.2.1,r4.2.2.1,r4.2.2.2.1,r4.2.2.2.2.1)]),(y6++[(y0,r3)]))else none)
 else(Qx L ((wR (y0+1)),y1,y2,y3,y4,y5,(y6++[(y0,r3)])))))
 else(bif (decide (r3<r4.1))then(bif fits (y5.length+ [(y0,r4.1,r4.2.1,r4.2.2.1,r4.2.2.2.1,r4.2.2.2.2.1)].length) 56 then
 Qx L ((wR (y0+1)),y1,y2,y3,y4,(y5++[(y0,r4.1,r4.2.1,r4.2.2.1,r4.2.2.2.1,r4.2.2.2.2.1)]),(y6++[(y0,r3)]))else none)
 else(Qx L ((wR (y0+1)),y1,y2,y3,y4,y5,(y6++[(y0,r3)]))))))else none)
 else((Kt D (y1,y2,y0)).bind fun r8=>
 (Kt D (y3,y4,y0)).bind fun r9=>
 bif (!r8.2.2.2.2.2)then(bif (!r9.2.2.2.2.2)then(Qx L ((wR (y0+1)),y1,y2,y3,y4,y5,y6))
 else(bif (!r8.2.2.2.2.2)then(bif (decide (r3<r9.1))then(bif fits (y5.length+ [(y0,r9.1,r9.2.1,r9.2.2.1,r9.2.2.2.1,r9.2.2.2.2.1)].length) 56 then
 Qx L ((wR (y0+1)),y1,y2,y3,y4,(y5++[(y0,r9.1,r9.2.1,r9.2.2.1,r9.2.2.2.1,r9.2.2.2.2.1)]),y6)else none)
 else(Qx L ((wR (y0+1)),y1,y2,y3,y4,y5,y6)))
 else(bif r9.2.2.2.2.2 then((KY D (r9.1,r9.2.1,r9.2.2.1,r9.2.2.2.1,r9.2.2.2.2.1,r8.1,r8.2.1,r8.2.2.1,r8.2.2.2.1,r8.2.2.2.2.1)).bind fun r10=>
 bif (decide (0<r10))then(bif (decide (r3<r9.1))then(bif fits (y5.length+ [(y0,r9.1,r9.2.1,r9.2.2.1,r9.2.2.2.1,r9.2.2.2.2.1)].length) 56 then
 Qx L ((wR (y0+1)),y1,y2,y3,y4,(y5++[(y0,r9.1,r9.2.1,r9.2.2.1,r9.2.2.2.1,r9.2.2.2.2.1)]),y6)else none)
 else(Qx L ((wR (y0+1)),y1,y2,y3,y4,y5,y6)))
 else(bif (decide (r3<r8.1))then(bif fits (y5.length+ [(y0,r8.1,r8.2.1,r8.2.2.1,r8.2.2.2.1,r8.2.2.2.2.1)].length) 56 then
 Qx L ((wR (y0+1)),y1,y2,y3,y4,(y5++[(y0,r8.1,r8.2.1,r8.2.2.1,r8.2.2.2.1,r8.2.2.2.2.1)]),y6)else none)
 else(Qx L ((wR (y0+1)),y1,y2,y3,y4,y5,y6))))
 else(bif (decide (r3<r8.1))then(bif fits (y5.length+ [(y0,r8.1,r8.2.1,r8.2.2.1,r8.2.2.2.1,r8.2.2.2.2.1)].length) 56 then
 Qx L ((wR (y0+1)),y1,y2,y3,y4,(y5++[(y0,r8.1,r8.2.1,r8.2.2.1,r8.2.2.2.1,r8.2.2.2.2.1)]),y6)else none)
 else(Qx L ((wR (y0+1)),y1,y2,y3,y4,y5,y6))))))
 else(bif (!r8.2.2.2.2.2)then(bif (decide (r3<r9.1))then(bif fits (y5.length+ [(y0,r9.1,r9.2.1,r9.2.2.1,r9.2.2.2.1,r9.2.2.2.2.1)].length) 56 then
 Qx L ((wR (y0+1)),y1,y2,y3,y4,(y5++[(y0,r9.1,r9.2.1,r9.2.2.1,r9.2.2.2.1,r9.2.2.2.2.1)]),y6)else none)
 else(Qx L ((wR (y0+1)),y1,y2,y3,y4,y5,y6)))
 else(bif r9.2.2.2.2.2 then((KY D (r9.1,r9.2.1,r9.2.2.1,r9.2.2.2.1,r9.2.2.2.2.1,r8.1,r8.2.1,r8.2.2.1,r8.2.2.2.1,r8.2.2.2.2.1)).bind fun r11=>
 bif (decide (0<r11))then(bif (decide (r3<r9.1))then(bif fits (y5.length+ [(y0,r9.1,r9.2.1,r9.2.2.1,r9.2.2.2.1,r9.2.2.2.2.1)].length) 56 then
 Qx L ((wR (y0+1)),y1,y2,y3,y4,(y5++[(y0,r9.1,r9.2.1,r9.2.2.1,r9.2.2.2.1,r9.2.2.2.2.1)]),y6)else none)
 else(Qx L ((wR (y0+1)),y1,y2,y3,y4,y5,y6)))
 else(bif (decide (r3<r8.1))then(bif fits (y5.length+ [(y0,r8.1,r8.2.1,r8.2.2.1,r8.2.2.2.1,r8.2.2.2.2.1)].length) 56 then
 Qx L ((wR (y0+1)),y1,y2,y3,y4,(y5++[(y0,r8.1,r8.2.1,r8.2.2.1,r8.2.2.2.1,r8.2.2.2.2.1)]),y6)else none)
 else(Qx L ((wR (y0+1)),y1,y2,y3,y4,y5,y6))))
 else(bif (decide (r3<r8.1))then(bif fits (y5.length+ [(y0,r8.1,r8.2.1,r8.2.2.1,r8.2.2.2.1,r8.2.2.2.2.1)].length) 56 then
 Qx L ((wR (y0+1)),y1,y2,y3,y4,(y5++[(y0,r8.1,r8.2.1,r8.2.2.1,r8.2.2.2.1,r8.2.2.2.2.1)]),y6)else none)
 else(Qx L ((wR (y0+1)),y1,y2,y3,y4,y5,y6)))))))
 else(some (y5,y6))
theorem QhP:OfL Qx Qec:=ofL 262 0
def Qlq:rF Yf:=fun D L (a0,a1,a2,a3)=>
 (Qx L (0,a0,a1,a2,a3,[],[])).bind fun z12=>
 some z12
theorem Qwd:OfF Yf Qlq:=ofF 262
def vZ:rL VT:=fun D L (y0,y1,y2,y3)=>
 bif (decide (y2<(y1.length:Int)))then(bif inb y0 y3.length then
 bif inb y2 y1.length then
 let e4:=(rd1 XF y1 y2);
 bif inb y0 y3.length then
 bif inb y2 y1.length then
 let e5:=(rd1 XF y1 y2);
 bif inb e5.1 (List.length (rd1 ([]:List Int) y3 y0))then
 bif inb y2 y1.length then
 let e6:=(rd1 XF y1 y2);
 (Qa7 D ((rd1 (0:Int) (rd1 ([]:List Int) y3 y0) e5.1),e6.2)).bind fun r7=>
 bif inb e4.1 (List.length (rd1 ([]:List Int) y3 y0))then
 let l8:=List.set (rd1 ([]:List Int) y3 y0) (Int.toNat e4.1) r7;
 let l9:=List.set y3 (Int.toNat y0) l8;
 VT L (y0,y1,(wR (y2+1)),l9)else none else none else none else none else none else none else none)
 else(some y3)
theorem QdA:OfL VT vZ:=ofL 263 0
def Qho:rF K1:=fun D L (a0,a1,a2)=>
 (vp D a0).bind fun r1=>
 (QE D (a1,0,(wR ((a0.length:Int) - 1)))).bind fun r2=>
 bif (!r2)then(some r1)
 else((yn D a2).bind fun r3=>
 bif (!r3)then(some r1)
 else(bif inb a1 a0.length then
 bif (decide (((List.length (rd1 ([]:List Int) a0 a1)):Int)<5))then(some r1)
 else((VT L (a1,a2,0,r1)).bind fun z10=>
 some z10)else none))
theorem Qr4:OfF K1 Qho:=ofF 263
def Qg7:rL Je:=fun D L (y0,y1,y2,y3,y4,y5)=>
 bif (decide (y1<5))then((Qe5 D (y0,y1)).bind fun r3=>
 (vo D (y2,y3,y1)).bind fun r4=>
 (QbM D (r3,r4)).bind fun r5=>
 bif (decide (0<r5))then(bif fits (y5.length+ [(y1,r5)].length) 16 then
 Je L (y0,(wR (y1+1)),y2,y3,y4,(y5++[(y1,r5)]))else none)
 else(Je L (y0,(wR (y1+1)),y2,y3,y4,y5)))
 else(some (y2,y3,y4,y5))
theorem QiG:OfL Je Qg7:=ofL 264 0
def QmY:rF Qa9:=fun D L (a0,a1,a2)=>
 (Zw D (a0,a1)).bind fun r1=>
 bif (!r1)then((Kd D (a0,a1)).bind fun r2=>
 some r2)
 else((Je L (a2,0,a0,a1,[],[])).bind fun z6=>
 (Yf D z6).bind fun r7=>
 some r7)
theorem QxJ:OfF Qa9 QmY:=ofF 264
def vd:rL Zj:=fun D L (y0,y1,y2,y3,y4,y5,y6)=>
 bif (decide (y0<5))then((xe D (y1,y2,y0)).bind fun r1=>
 (xe D (y3,y4,y0)).bind fun r2=>
 (vI D (r1.1,r1.2.1,r1.2.2.1,r1.2.2.2.1,r1.2.2.2.2.1,r2.1,r2.2.1,r2.2.2.1,r2.2.2.2.1,r2.2.2.2.2.1)).bind fun r3=>
 (VP D (y1,y2,y0)).bind fun r4=>
 (VP D (y3,y4,y0)).bind fun r5=>
 bif (decide ((mxI r4 r5)<r3.1))then(bif fits (y5.length+ [(y0,r3)].length) 56 then
 bif (decide (0<(mxI r4 r5)))then(bif fits (y6.length+ [(y0,(mxI r4 r5))].length) 16 then
 Zj L ((wR (y0+1)),y1,y2,y3,y4,(y5++[(y0,r3)]),(y6++[(y0,(mxI r4 r5))]))else none)
 else(Zj L ((wR (y0+1)),y1,y2,y3,y4,(y5++[(y0,r3)]),y6))else none)
 else(bif (decide (0<(mxI r4 r5)))then(bif fits (y6.length+ [(y0,(mxI r4 r5))].length) 16 then
 Zj L ((wR (y0+1)),y1,y2,y3,y4,y5,(y6++[(y0,(mxI r4 r5))]))else none)
 else(Zj L ((wR (y0+1)),y1,y2,y3,y4,y5,y6))))
 else(some (y5,y6))
theorem QcM:OfL Zj vd:=ofL 269 0
def Qgk:rF Zi:=fun D L (a0,a1,a2,a3)=>
 (Zj L (0,a0,a1,a2,a3,[],[])).bind fun z6=>
 some z6
theorem Qq8:OfF Zi Qgk:=ofF 269
def vY:rL VZ:=fun D L (y0,y1,y2,y3,y4)=>
 bif (decide (y3<y2))then(bif inb y3 y1.length then
 let e4:=(rd1 XF y1 y3);
 bif inb y0 y4.length then
 bif inb y0 y4.length then
 bif inb e4.1 (List.length (rd1 ([]:List Int) y4 y0))then
 bif inb e4.1 (List.length (rd1 ([]:List Int) y4 y0))then
 let l5:=List.set (rd1 ([]:List Int) y4 y0) (Int.toNat e4.1) (mxI (rd1 (0:Int) (rd1 ([]:List Int) y4 y0) e4.1) e4.2);
 let l6:=List.set y4 (Int.toNat y0) l5;
 VZ L (y0,y1,y2,(wR (y3+1)),l6)else none else none else none else none else none)
 else(some y4)
theorem QdE:OfL VZ vY:=ofL 270 0
def Qhl:rF KZ:=fun D L (a0,a1,a2)=>
 (qU D a0).bind fun r1=>
 (QC D (a1,0,(wR ((a0.length:Int) - 1)))).bind fun r2=>
 bif (!r2)then(some r1)
 else((yG D a2).bind fun r3=>
 bif (!r3)then(some r1)
 else(bif inb a1 a0.length then
 bif (decide (((List.length (rd1 ([]:List Int) a0 a1)):Int)<5))then(some r1)
 else((VZ L (a1,a2,(a2.length:Int),0,r1)).bind fun z7=>
 some z7)else none))
theorem Qsl:OfF KZ Qhl:=ofF 270
def Qg5:rL Ji:=fun D L (y0,y1,y2,y3,y4,y5)=>
 bif (decide (y1<5))then((Qez D (y0,y1)).bind fun r3=>
 (vx D (y2,y3,y1)).bind fun r4=>
 bif (decide (0<(mnI r3 r4)))then(bif fits (y5.length+ [(y1,(mnI r3 r4))].length) 16 then
 Ji L (y0,(wR (y1+1)),y2,y3,y4,(y5++[(y1,(mnI r3 r4))]))else none)
 else(Ji L (y0,(wR (y1+1)),y2,y3,y4,y5)))
 else(some (y2,y3,y4,y5))
theorem QiM:OfL Ji Qg5:=ofL 271 0
def Qm4:rF Qc0:=fun D L (a0,a1,a2)=>
 (XG D (a0,a1)).bind fun r1=>
 bif (!r1)then((Zy D (a0,a1)).bind fun r2=>
 some r2)
 else((Ji L (a2,0,a0,a1,[],[])).bind fun z5=>
 (Zi D z5).bind fun r6=>
 some r6)
theorem QxP:OfF Qc0 Qm4:=ofF 271
end
end Go.Proofs.YtiejfnbmficbmaaGreat.M
