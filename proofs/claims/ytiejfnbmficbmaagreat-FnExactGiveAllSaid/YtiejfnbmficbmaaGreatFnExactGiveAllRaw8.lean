/- Plain forms of the functions that FnExactGiveAll reaches, part 8. No conditions. -/
import Derived.Test.YtiejfnbmficbmaaGreatFnExactGiveAllTab
set_option linter.all false
namespace Go.Proofs.YtiejfnbmficbmaaGreat.M
open Go Go.Eng Go.Proofs
set_option linter.unusedVariables false
noncomputable section
def QeQ:rF yS:=fun D L (a0,a1,a2,a3,a4,a5,a6,a7,a8,a9,a10,a11,a12,a13,a14,a15,a16,a17,a18,a19,a20,a21,a22,a23,a24,a25,a26,a27,a28,a29,a30)=>
 (js D (a0,a1,a2,a3,a4,a5,a6,a7,a8,a9,a10,a11,a12,a13,a14,a15,a16,a17,a18,a20,true)).bind fun r1=>
 bif (decide (0<=r1))then(bif inb r1 a14.length then
 let e2:=(rd1 Zr a14 r1);
 let l3:=List.set a14 (Int.toNat r1) (e2.1,a22,e2.2.2);
 bif inb r1 l3.length then
 let e4:=(rd1 Zr l3 r1);
 let l5:=List.set l3 (Int.toNat r1) (e4.1,e4.2.1,e4.2.2.1,0);
 (ZE D (a0,a1,a2,a3,a4,a5,a6,a7,a8,a9,a10,a11,a12,a13,l5,a15,a16,a17,a18,a19,a20,a21,a22,a23,a24,a25,a26,a27,a28,a29,a30)).bind fun r6=>
 (YF D (n11T r6 (3,a20,a22))).bind fun r7=>
 (Vs D (r6.2.2.2.2.1,r6.2.2.2.2.2.1)).bind fun r8=>
 (Qap D (r6.2.2.2.2.1,r6.2.2.2.2.2.1,a24,a25)).bind fun r9=>
 (KD D (n11T r6 (r9,a19,a20,a21,a22,a23,a24,a25,a26,a27,a28,a29,a30))).bind fun r10=>
 some (n11T r6 ([(r7.1,r7.2.1,r7.2.2.1,r7.2.2.2.1,r7.2.2.2.2.1,r8.1,r8.2,r7.2.2.2.2.2.2.2.1,r9,r10.1,r10.2,r7.2.2.2.2.2.2.2.2.2.2.2)],0))else none else none)
 else(bif (decide (a13<=(a14.length:Int)))then((YF D (a0,a1,a2,a3,a4,a5,a6,a7,a8,a9,a10,a11,a12,a13,a14,a15,a16,a17,a18,5,a20,a22)).bind fun r11=>
 some (a0,a1,a2,a3,a4,a5,a6,a7,a8,a9,a10,a11,a12,a13,a14,a15,a16,a17,a18,[r11],3))
 else(bif fits (a14.length+ [(a20,a22,true,0)].length) 32 then
 (ZE D (a0,a1,a2,a3,a4,a5,a6,a7,a8,a9,a10,a11,a12,a13,(a14++[(a20,a22,true,0)]),a15,a16,a17,a18,a19,a20,a21,a22,a23,a24,a25,a26,a27,a28,a29,a30)).bind fun r12=>
 (YF D (n11T r12 (3,a20,a22))).bind fun r13=>
 (Vs D (r12.2.2.2.2.1,r12.2.2.2.2.2.1)).bind fun r14=>
 (Qap D (r12.2.2.2.2.1,r12.2.2.2.2.2.1,a24,a25)).bind fun r15=>
 (KD D (n11T r12 (r15,a19,a20,a21,a22,a23,a24,a25,a26,a27,a28,a29,a30))).bind fun r16=>
 some (n11T r12 ([(r13.1,r13.2.1,r13.2.2.1,r13.2.2.2.1,r13.2.2.2.2.1,r14.1,r14.2,r13.2.2.2.2.2.2.2.1,r15,r16.1,r16.2,r13.2.2.2.2.2.2.2.2.2.2.2)],0))else none))
theorem QqT:OfF yS QeQ:=ofF 231
def Qkw:rF xL:=fun D L (a0,a1,a2,a3,a4,a5,a6,a7,a8,a9,a10,a11,a12,a13,a14,a15,a16,a17,a18,a19,a20,a21,a22,a23,a24,a25,a26,a27,a28,a29,a30,a31)=>
 (js D (a0,a1,a2,a3,a4,a5,a6,a7,a8,a9,a10,a11,a12,a13,a14,a15,a16,a17,a18,a20,a31)).bind fun r1=>
 bif (decide (r1<0))then(some (a0,a1,a2,a3,a4,a5,a6,a7,a8,a9,a10,a11,a12,a13,a14,a15,a16,a17,a18,false))
 else(bif inb r1 a14.length then
 let e2:=(rd1 Zr a14 r1);
 bif (!decide (e2.2.1=a22))then(some (a0,a1,a2,a3,a4,a5,a6,a7,a8,a9,a10,a11,a12,a13,a14,a15,a16,a17,a18,false))
 else(bif decide ((0:Int)<=0/\0<=(r1:Int)/\r1<=(a14.length:Int))then
 bif fits (List.length ([]:List QB)+List.length (List.take (Int.toNat (r1 - 0)) (List.drop (Int.toNat 0) a14))) 32 then
 bif decide ((0:Int)<=(wR (r1+1))/\(wR (r1+1))<=((a14.length:Int):Int)/\(a14.length:Int)<=(a14.length:Int))then
 bif fits (List.length (([]:List QB)++List.take (Int.toNat (r1 - 0)) (List.drop (Int.toNat 0) a14))+List.length (List.take (Int.toNat ((a14.length:Int) - (wR (r1+1)))) (List.drop (Int.toNat (wR (r1+1))) a14))) 32 then
 some (a0,a1,a2,a3,a4,a5,a6,a7,a8,a9,a10,a11,a12,a13,((([]:List QB)++List.take (Int.toNat (r1 - 0)) (List.drop (Int.toNat 0) a14))++List.take (Int.toNat ((a14.length:Int) - (wR (r1+1)))) (List.drop (Int.toNat (wR (r1+1))) a14)),a15,a16,a17,a18,true)else none else none else none else none)else none)
theorem Qxk:OfF xL Qkw:=ofF 232
def QlF:rF KD:=fun D L (a0,a1,a2,a3,a4,a5,a6,a7,a8,a9,a10,a11,a12,a13,a14,a15,a16,a17,a18,a19,a20,a21,a22,a23,a24,a25,a26,a27,a28,a29,a30,a31)=>
 bif inb a0 a27.length then
 (QnO D (a0,a1,a2,a3,a4,a5,a6,a7,a8,a9,a10,a11,a12,a13,a14,a15,a16,a17,a18,(rd1 (0:Int) a27 a0))).bind fun r1=>
 (vx D (a2,a3,a19)).bind fun r2=>
 (Zs D (r2.1,r2.2,r1.1,r1.2.1)).bind fun r3=>
 some r3 else none
theorem Qwq:OfF KD QlF:=ofF 233
def yP:rL qK:=fun D L (y0,y1,y2)=>
 bif (decide (y2<(y0.length:Int)))then(bif inb y2 y0.length then
 let e1:=(rd1 Zc y0 y2);
 (Qgr D (n13T e1 (y1))).bind fun r2=>
 bif (decide (r2<0))then(some (Sum.inl (-1)))
 else(qK L (y0,r2,(wR (y2+1))))else none)
 else(some (Sum.inr y1))
theorem jt:OfL qK yP:=ofL 234 0
def Qk9:rF Qdb:=fun D L (a0,a1)=>
 bif (decide ((wR (a1 - (a0.length:Int)))<0))then(some (-1))
 else((qK L (a0,(wR (a1 - (a0.length:Int))),0)).bind fun z3=>
 Qn z3 (fun u4=>
 some u4)
 (fun z5=>
 some z5))
theorem Qvj:OfF Qdb Qk9:=ofF 234
def Qi4:rF QaU:=fun D L (a0,a1)=>
 bif (decide ((wR (a1 - (a0.length:Int)))<0))then(some (-1))
 else(some (wR (a1 - (a0.length:Int))))
theorem Qub:OfF QaU Qi4:=ofF 235
def zE:rL Jm:=fun D L (y0,y1,y2)=>
 bif (decide (y2<(y0.length:Int)))then(bif inb y2 y0.length then
 let e1:=(rd1 Y9 y0 y2);
 (zd D (e1.1,e1.2,y1)).bind fun r2=>
 bif (decide (r2<0))then(some (Sum.inl (-1)))
 else(Jm L (y0,r2,(wR (y2+1))))else none)
 else(some (Sum.inr y1))
theorem yz:OfL Jm zE:=ofL 236 0
def QiG:rF QaZ:=fun D L (a0,a1)=>
 bif (decide ((wR (a1 - (a0.length:Int)))<0))then(some (-1))
 else((Jm L (a0,(wR (a1 - (a0.length:Int))),0)).bind fun z3=>
 Qn z3 (fun u4=>
 some u4)
 (fun z5=>
 some z5))
theorem Qul:OfF QaZ QiG:=ofF 236
def vB:rL xO:=fun D L (y0,y1,y2)=>
 bif (decide (y2<(y0.length:Int)))then(bif inb y2 y0.length then
 bif inb y2 y1.length then
 bif (!decide ((rd1 (0:Int) y0 y2)=(rd1 (0:Int) y1 y2)))then(some (Sum.inl false))
 else(xO L (y0,y1,(wR (y2+1))))else none else none)
 else(some (Sum.inr ()))
theorem vX:OfL xO vB:=ofL 237 0
def Qb2:rF Qgg:=fun D L (a0,a1)=>
 bif (!decide ((a0.length:Int)=(a1.length:Int)))then(some false)
 else((xO L (a0,a1,0)).bind fun z1=>
 Qn z1 (fun u2=>
 some u2)
 (fun z3=>
 some true))
theorem Qyi:OfF Qgg Qb2:=ofF 237
def Qk6:rF Qcm:=fun D L (a0,a1,a2)=>
 (Zo D (a0,a1)).bind fun r1=>
 bif (!r1)then(some 0)
 else((QL D (a2,0,3)).bind fun r2=>
 bif (!r2)then(some 0)
 else((xG D (a0,a1,[a2])).bind fun r3=>
 (xD D r3).bind fun r4=>
 (Qa7 D r4).bind fun r5=>
 bif decide ((1024:Int)≠0)then
 some (Int.tmod r5 1024)else none))
theorem Qu0:OfF Qcm Qk6:=ofF 238
def Qfy:rL xJ:=fun D L (y0,y1,y2)=>
 bif (decide (y1<(y0.length:Int)))then(bif inb y1 y0.length then
 (Xs D (rd1 (0:Int) y0 y1)).bind fun r1=>
 bif fits (y2.length+r1.length) 1 then
 xJ L (y0,(wR (y1+1)),(y2++r1))else none else none)
 else(some y2)
theorem QiT:OfL xJ Qfy:=ofL 239 0
def QnT:rF Qf7:=fun D L a0=>
 (xJ L (a0,0,[])).bind fun z2=>
 (Qa7 D z2).bind fun r3=>
 bif decide ((1024:Int)≠0)then
 some (Int.tmod r3 1024)else none
theorem QyU:OfF Qf7 QnT:=ofF 239
def QlB:rF QdZ:=fun D L a0=>
 (Xs D ((ByteArray.size a0):Int)).bind fun r1=>
 bif fits (r1.length+List.length (ofBytes a0)) 1 then
 some (r1++(ofBytes a0))else none
theorem Qws:OfF QdZ QlB:=ofF 240
def QdT:rL qs:=fun D L (y0,y1,y2)=>
 bif (decide (y1<(y0.length:Int)))then(bif inb y1 y0.length then
 let e1:=(rd1 Zc y0 y1);
 (Qgq D e1).bind fun r2=>
 bif inb y1 y2.length then
 let l3:=List.set y2 (Int.toNat y1) r2;
 qs L (y0,(wR (y1+1)),l3)else none else none)
 else(some y2)
theorem QgY:OfL qs QdT:=ofL 241 0
def QkF:rF Qew:=fun D L a0=>
 bif (decide ((0:Int)<=(a0.length:Int)/\((a0.length:Int):Int)=(a0.length:Int))&&fits (Int.toNat (a0.length:Int)) 56)then
 (qs L (a0,0,(List.replicate (Int.toNat (a0.length:Int)) (0,0,0,0,0,ByteArray.empty)))).bind fun z4=>
 some z4 else none
theorem Qwg:OfF Qew QkF:=ofF 241
def Qbl:rL V6:=fun D L (y0,y1,y2)=>
 bif (decide (y1<(y0.length:Int)))then(bif inb y1 y0.length then
 let e1:=(rd1 Xx y0 y1);
 (QcG D e1).bind fun r2=>
 bif inb y1 y2.length then
 let l3:=List.set y2 (Int.toNat y1) r2;
 V6 L (y0,(wR (y1+1)),l3)else none else none)
 else(some y2)
theorem Qe0:OfL V6 Qbl:=ofL 242 0
def QiZ:rF QaK:=fun D L a0=>
 bif (decide ((0:Int)<=(a0.length:Int)/\((a0.length:Int):Int)=(a0.length:Int))&&fits (Int.toNat (a0.length:Int)) 16)then
 (V6 L (a0,0,(List.replicate (Int.toNat (a0.length:Int)) (0,0)))).bind fun z4=>
 some z4 else none
theorem QtN:OfF QaK QiZ:=ofF 242
def Qa5:rL Ja:=fun D L (y0,y1,y2)=>
 bif (decide (y1<(y0.length:Int)))then(bif inb y1 y0.length then
 let e1:=(rd1 Y9 y0 y1);
 (xS D e1).bind fun r2=>
 bif inb y1 y2.length then
 let l3:=List.set y2 (Int.toNat y1) r2;
 Ja L (y0,(wR (y1+1)),l3)else none else none)
 else(some y2)
theorem Qe3:OfL Ja Qa5:=ofL 243 0
def Qje:rF QaR:=fun D L a0=>
 bif (decide ((0:Int)<=(a0.length:Int)/\((a0.length:Int):Int)=(a0.length:Int))&&fits (Int.toNat (a0.length:Int)) 48)then
 (Ja L (a0,0,(List.replicate (Int.toNat (a0.length:Int)) ([],[])))).bind fun z4=>
 some z4 else none
theorem Qt6:OfF QaR Qje:=ofF 243
def QnG:rF Qgf:=fun D L (a0,a1,a2,a3)=>
 some (a0,a1,a2,a3)
theorem QxL:OfF Qgf QnG:=ofF 244
def Qmy:rF Qgd:=fun D L (a0,a1,a2)=>
 some (a0,a1,a2)
theorem Qyd:OfF Qgd Qmy:=ofF 245
def Ql0:rF Qdi:=fun D L (a0,a1)=>
 (QaB D (a0,a1)).bind fun r1=>
 bif (!r1.2.2)then(some ((⟨#[]⟩:ByteArray),0,false))
 else(bif (decide ((wR ((a0.length:Int) - r1.2.1))<r1.1))then(some ((⟨#[]⟩:ByteArray),0,false))
 else(bif decide ((0:Int)<=r1.2.1/\r1.2.1<=((wR (r1.2.1+r1.1)):Int)/\(wR (r1.2.1+r1.1))<=(a0.length:Int))then
 some ((QM (List.take (Int.toNat ((wR (r1.2.1+r1.1)) - r1.2.1)) (List.drop (Int.toNat r1.2.1) a0))),(wR (r1.2.1+r1.1)),true)else none))
theorem QuK:OfF Qdi Ql0:=ofF 246
def QkM:rF QcA:=fun D L a0=>
 (Q2 D ((ByteArray.size a0):Int)).bind fun r1=>
 (Zu D [r1,(ofBytes a0)]).bind fun r2=>
 some r2
theorem QvE:OfF QcA QkM:=ofF 247
def Qn8:rL Qaq:=fun D L (y0,y1,y2,y3)=>
 bif (decide (y3<y2))then(bif inb y3 y1.length then
 (xa L ((bits .xor .i64 y0 (wR (rd1 (0:Int) y1 y3))),y1,y2,y3,0)).bind fun z1=>
 Qaq L (z1.1,z1.2.1,z1.2.2.1,(wR (z1.2.2.2+1)))else none)
 else(some y0)
theorem Qpp:OfL Qaq Qn8:=ofL 248 0
def Qog:rL xa:=fun D L (y0,y1,y2,y3,y4)=>
 bif (decide (y4<8))then(bif decide ((2:Int)≠0)then
 bif decide ((2:Int)≠0)then
 bif (decide ((Int.tmod y0 2)=1))then(xa L ((bits .xor .i64 (wR (Int.tdiv y0 2)) 3988292384),y1,y2,y3,(wR (y4+1))))
 else(xa L ((wR (Int.tdiv y0 2)),y1,y2,y3,(wR (y4+1))))else none else none)
 else(some (y0,y1,y2,y3))
theorem Qoq:OfL xa Qog:=ofL 248 2
def Qq8:rF Qbn:=fun D L a0=>
 (Qaq L (4294967295,a0,(a0.length:Int),0)).bind fun z2=>
 some (bits .xor .i64 z2 4294967295)
theorem QEi:OfF Qbn Qq8:=ofF 248
def Kq:rL Z4:=fun D L (y0,y1,y2,y3)=>
 bif (decide (y3<y2))then(bif inb y3 y0.length then
 bif inb y3 y1.length then
 bif (!decide ((rd1 (0:Int) y0 y3)=(rd1 (0:Int) y1 y3)))then(some (Sum.inl false))
 else(Z4 L (y0,y1,y2,(wR (y3+1))))else none else none)
 else(some (Sum.inr ()))
theorem VE:OfL Z4 Kq:=ofL 249 0
def JL:rF JE:=fun D L (a0,a1)=>
 bif (!decide ((a0.length:Int)=(a1.length:Int)))then(some false)
 else((Z4 L (a0,a1,(a0.length:Int),0)).bind fun z1=>
 Qn z1 (fun u2=>
 some u2)
 (fun z3=>
 some true))
theorem QnZ:OfF JE JL:=ofF 249
def QlY:rF QcC:=fun D L (a0,a1,a2)=>
 (XB D (a0,a1)).bind fun r1=>
 bif (!r1)then(some 0)
 else((QA D (a2,0,3)).bind fun r2=>
 bif (!r2)then(some 0)
 else((vx D (a0,a1,[a2])).bind fun r3=>
 (Vd D r3).bind fun r4=>
 (Qbn D r4).bind fun r5=>
 bif decide ((1024:Int)≠0)then
 some (Int.tmod r5 1024)else none))
theorem Qwz:OfF QcC QlY:=ofF 250
def Qfp:rL zf:=fun D L (y0,y1,y2,y3)=>
 bif (decide (y2<y1))then(bif inb y2 y0.length then
 (Q2 D (rd1 (0:Int) y0 y2)).bind fun r1=>
 (Zu D [y3,r1]).bind fun r2=>
 zf L (y0,y1,(wR (y2+1)),r2)else none)
 else(some y3)
theorem QiO:OfL zf Qfp:=ofL 251 0
def QmB:rF Qgo:=fun D L a0=>
 (zf L (a0,(a0.length:Int),0,[])).bind fun z3=>
 (Qbn D z3).bind fun r4=>
 bif decide ((1024:Int)≠0)then
 some (Int.tmod r4 1024)else none
theorem QxM:OfF Qgo QmB:=ofF 251
def Qlk:rL xK:=fun D L (y0,y1,y2,y3,y4)=>
 bif (decide (y4<y3))then(bif inb y4 y2.length then
 let e1:=(rd1 Zr y2 y4);
 bif (decide (e1.1=y0))then(bif (e1.2.2.1==y1)then(some (Sum.inl y4))
 else(xK L (y0,y1,y2,y3,(wR (y4+1)))))
 else(xK L (y0,y1,y2,y3,(wR (y4+1))))else none)
 else(some (Sum.inr ()))
theorem Qnf:OfL xK Qlk:=ofL 252 0
def QqH:rF js:=fun D L (a0,a1,a2,a3,a4,a5,a6,a7,a8,a9,a10,a11,a12,a13,a14,a15,a16,a17,a18,a19,a20)=>
 (xK L (a19,a20,a14,(a14.length:Int),0)).bind fun z2=>
 Qn z2 (fun u3=>
 some u3)
 (fun z4=>
 some (-1))
theorem QCr:OfF js QqH:=ofF 252
def Qdw:rL qo:=fun D L (y0,y1,y2)=>
 bif (decide (y2<(y0.length:Int)))then(bif inb y2 y0.length then
 let e1:=(rd1 Zc y0 y2);
 bif inb y2 y1.length then
 let e2:=(rd1 Zc y1 y2);
 (Qf4 D (n13T e1 (e2))).bind fun r3=>
 bif (!r3)then(some (Sum.inl false))
 else(qo L (y0,y1,(wR (y2+1))))else none else none)
 else(some (Sum.inr ()))
theorem QgB:OfL qo Qdw:=ofL 253 0
def QkN:rF QdM:=fun D L (a0,a1)=>
 bif (!decide ((a0.length:Int)=(a1.length:Int)))then(some false)
 else((qo L (a0,a1,0)).bind fun z4=>
 Qn z4 (fun u5=>
 some u5)
 (fun z6=>
 some true))
theorem QwZ:OfF QdM QkN:=ofF 253
def Qbd:rL Ju:=fun D L (y0,y1,y2)=>
 bif (decide (y2<(y0.length:Int)))then(bif inb y2 y0.length then
 let e1:=(rd1 Xx y0 y2);
 bif inb y2 y1.length then
 let e2:=(rd1 Xx y1 y2);
 (QdI D (e1.1,e1.2,e2)).bind fun r3=>
 bif (!r3)then(some (Sum.inl false))
 else(Ju L (y0,y1,(wR (y2+1))))else none else none)
 else(some (Sum.inr ()))
theorem QeO:OfL Ju Qbd:=ofL 254 0
def Qi0:rF Qa0:=fun D L (a0,a1)=>
 bif (!decide ((a0.length:Int)=(a1.length:Int)))then(some false)
 else((Ju L (a0,a1,0)).bind fun z4=>
 Qn z4 (fun u5=>
 some u5)
 (fun z6=>
 some true))
theorem QtV:OfF Qa0 Qi0:=ofF 254
def Qbe:rL Jy:=fun D L (y0,y1,y2)=>
 bif (decide (y2<(y0.length:Int)))then(bif inb y2 y0.length then
 let e1:=(rd1 Y9 y0 y2);
 bif inb y2 y1.length then
 let e2:=(rd1 Y9 y1 y2);
 (xY D (e1.1,e1.2,e2)).bind fun r3=>
 bif (!r3)then(some (Sum.inl false))
 else(Jy L (y0,y1,(wR (y2+1))))else none else none)
 else(some (Sum.inr ()))
theorem QeR:OfL Jy Qbe:=ofL 255 0
def QiH:rF QaT:=fun D L (a0,a1)=>
 bif (!decide ((a0.length:Int)=(a1.length:Int)))then(some false)
 else((Jy L (a0,a1,0)).bind fun z4=>
 Qn z4 (fun u5=>
 some u5)
 (fun z6=>
 some true))
theorem Qt2:OfF QaT QiH:=ofF 255
def Qnp:rF QfX:=fun D L (a0,a1,a2,a3,a4,a5,a6,a7)=>
 bif (!decide (a0=a4))then(some false)
 else(bif (!decide (a1=a5))then(some false)
 else(bif (!(a2==a6))then(some false)
 else(bif (!decide (a3=a7))then(some false)
 else(some true))))
theorem QyC:OfF QfX Qnp:=ofF 256
def Qno:rF QfT:=fun D L (a0,a1,a2,a3,a4,a5)=>
 bif (!decide (a0=a3))then(some false)
 else(bif (!decide (a1=a4))then(some false)
 else(bif (!decide (a2=a5))then(some false)
 else(some true)))
theorem QyI:OfF QfT Qno:=ofF 257
def Qfm:rL Qx:=fun D L (y0,y1,y2,y3,y4,y5,y6)=>
 bif (decide (y0<5))then((KI D (y1,y2,y0)).bind fun r1=>
 (KI D (y3,y4,y0)).bind fun r2=>
 (QeJ D (r1,r2)).bind fun r3=>
 bif (decide (0<r3))then(bif fits (y6.length+ [(y0,r3)].length) 16 then
 (KH D (y1,y2,y0)).bind fun r4=>
 (KH D (y3,y4,y0)).bind fun r5=>
 bif (!r4.2.2.2.2.2)then(bif (!r5.2.2.2.2.2)then(Qx L ((wR (y0+1)),y1,y2,y3,y4,y5,(y6++[(y0,r3)])))
 else(bif (!r4.2.2.2.2.2)then(bif (decide (r3<r5.1))then(bif fits (y5.length+ [(y0,r5.1,r5.2.1,r5.2.2.1,r5.2.2.2.1,r5.2.2.2.2.1)].length) 56 then
 Qx L ((wR (y0+1)),y1,y2,y3,y4,(y5++[(y0,r5.1,r5.2.1,r5.2.2.1,r5.2.2.2.1,r5.2.2.2.2.1)]),(y6++[(y0,r3)]))else none)
 else(Qx L ((wR (y0+1)),y1,y2,y3,y4,y5,(y6++[(y0,r3)]))))
 else(bif r5.2.2.2.2.2 then((Vj D (r5.1,r5.2.1,r5.2.2.1,r5.2.2.2.1,r5.2.2.2.2.1,r4.1,r4.2.1,r4.2.2.1,r4.2.2.2.1,r4.2.2.2.2.1)).bind fun r6=>
 bif (decide (0<r6))then(bif (decide (r3<r5.1))then(bif fits (y5.length+ [(y0,r5.1,r5.2.1,r5.2.2.1,r5.2.2.2.1,r5.2.2.2.2.1)].length) 56 then
 Qx L ((wR (y0+1)),y1,y2,y3,y4,(y5++[(y0,r5.1,r5.2.1,r5.2.2.1,r5.2.2.2.1,r5.2.2.2.2.1)]),(y6++[(y0,r3)]))else none)
 else(Qx L ((wR (y0+1)),y1,y2,y3,y4,y5,(y6++[(y0,r3)]))))
 else(bif (decide (r3<r4.1))then(bif fits (y5.length+ [(y0,r4.1,r4.2.1,r4.2.2.1,r4.2.2.2.1,r4.2.2.2.2.1)].length) 56 then
 Qx L ((wR (y0+1)),y1,y2,y3,y4,(y5++[(y0,r4.1,r4.2.1,r4.2.2.1,r4.2.2.2.1,r4.2.2.2.2.1)]),(y6++[(y0,r3)]))else none)
 else(Qx L ((wR (y0+1)),y1,y2,y3,y4,y5,(y6++[(y0,r3)])))))
 else(bif (decide (r3<r4.1))then(bif fits (y5.length+ [(y0,r4.1,r4.2.1,r4.2.2.1,r4.2.2.2.1,r4.2.2.2.2.1)].length) 56 then
 Qx L ((wR (y0+1)),y1,y2,y3,y4,(y5++[(y0,r4.1,r4.2.1,r4.2.2.1,r4.2.2.2.1,r4.2.2.2.2.1)]),(y6++[(y0,r3)]))else none)
 else(Qx L ((wR (y0+1)),y1,y2,y3,y4,y5,(y6++[(y0,r3)])))))))
 else(bif (!r4.2.2.2.2.2)then(bif (decide (r3<r5.1))then(bif fits (y5.length+ [(y0,r5.1,r5.2.1,r5.2.2.1,r5.2.2.2.1,r5.2.2.2.2.1)].length) 56 then
 Qx L ((wR (y0+1)),y1,y2,y3,y4,(y5++[(y0,r5.1,r5.2.1,r5.2.2.1,r5.2.2.2.1,r5.2.2.2.2.1)]),(y6++[(y0,r3)]))else none)
 else(Qx L ((wR (y0+1)),y1,y2,y3,y4,y5,(y6++[(y0,r3)]))))
 else(bif r5.2.2.2.2.2 then((Vj D (r5.1,r5.2.1,r5.2.2.1,r5.2.2.2.1,r5.2.2.2.2.1,r4.1,r4.2.1,r4.2.2.1,r4.2.2.2.1,r4.2.2.2.2.1)).bind fun r7=>
 bif (decide (0<r7))then(bif (decide (r3<r5.1))then(bif fits (y5.length+ [(y0,r5.1,r5.2.1,r5.2.2.1,r5.2.2.2.1,r5.2.2.2.2.1)].length) 56 then
 Qx L ((wR (y0+1)),y1,y2,y3,y4,(y5++[(y0,r5.1,r5.2.1,r5.2.2.1,r5.2.2.2.1,r5.2.2.2.2.1)]),(y6++[(y0,r3)]))else none)
 else(Qx L ((wR (y0+1)),y1,y2,y3,y4,y5,(y6++[(y0,r3)]))))
 else(bif (decide (r3<r4.1))then(bif fits (y5.length+ [(y0,r4.1,r4.2.1,r4.2.2.1,r4.2.2.2.1,r4.2.2.2.2.1)].length) 56 then
 Qx L ((wR (y0+1)),y1,y2,y3,y4,(y5++[(y0,r4.1,r4.2.1,r4.2.2.1,r4.2.2.2.1,r4.2.2.2.2.1)]),(y6++[(y0,r3)]))else none)
 else(Qx L ((wR (y0+1)),y1,y2,y3,y4,y5,(y6++[(y0,r3)])))))
 else(bif (decide (r3<r4.1))then(bif fits (y5.length+ [(y0,r4.1,r4.2.1,r4.2.2.1,r4.2.2.2.1,r4.2.2.2.2.1)].length) 56 then
 Qx L ((wR (y0+1)),y1,y2,y3,y4,(y5++[(y0,r4.1,r4.2.1,r4.2.2.1,r4.2.2.2.1,r4.2.2.2.2.1)]),(y6++[(y0,r3)]))else none)
 else(Qx L ((wR (y0+1)),y1,y2,y3,y4,y5,(y6++[(y0,r3)]))))))else none)
 else((KH D (y1,y2,y0)).bind fun r8=>
 (KH D (y3,y4,y0)).bind fun r9=>
 bif (!r8.2.2.2.2.2)then(bif (!r9.2.2.2.2.2)then(Qx L ((wR (y0+1)),y1,y2,y3,y4,y5,y6))
 else(bif (!r8.2.2.2.2.2)then(bif (decide (r3<r9.1))then(bif fits (y5.length+ [(y0,r9.1,r9.2.1,r9.2.2.1,r9.2.2.2.1,r9.2.2.2.2.1)].length) 56 then
 Qx L ((wR (y0+1)),y1,y2,y3,y4,(y5++[(y0,r9.1,r9.2.1,r9.2.2.1,r9.2.2.2.1,r9.2.2.2.2.1)]),y6)else none)
 else(Qx L ((wR (y0+1)),y1,y2,y3,y4,y5,y6)))
 else(bif r9.2.2.2.2.2 then((Vj D (r9.1,r9.2.1,r9.2.2.1,r9.2.2.2.1,r9.2.2.2.2.1,r8.1,r8.2.1,r8.2.2.1,r8.2.2.2.1,r8.2.2.2.2.1)).bind fun r10=>
 bif (decide (0<r10))then(bif (decide (r3<r9.1))then(bif fits (y5.length+ [(y0,r9.1,r9.2.1,r9.2.2.1,r9.2.2.2.1,r9.2.2.2.2.1)].length) 56 then
 Qx L ((wR (y0+1)),y1,y2,y3,y4,(y5++[(y0,r9.1,r9.2.1,r9.2.2.1,r9.2.2.2.1,r9.2.2.2.2.1)]),y6)else none)
 else(Qx L ((wR (y0+1)),y1,y2,y3,y4,y5,y6)))
 else(bif (decide (r3<r8.1))then(bif fits (y5.length+ [(y0,r8.1,r8.2.1,r8.2.2.1,r8.2.2.2.1,r8.2.2.2.2.1)].length) 56 then
 Qx L ((wR (y0+1)),y1,y2,y3,y4,(y5++[(y0,r8.1,r8.2.1,r8.2.2.1,r8.2.2.2.1,r8.2.2.2.2.1)]),y6)else none)
 else(Qx L ((wR (y0+1)),y1,y2,y3,y4,y5,y6))))
 else(bif (decide (r3<r8.1))then(bif fits (y5.length+ [(y0,r8.1,r8.2.1,r8.2.2.1,r8.2.2.2.1,r8.2.2.2.2.1)].length) 56 then
 Qx L ((wR (y0+1)),y1,y2,y3,y4,(y5++[(y0,r8.1,r8.2.1,r8.2.2.1,r8.2.2.2.1,r8.2.2.2.2.1)]),y6)else none)
 else(Qx L ((wR (y0+1)),y1,y2,y3,y4,y5,y6))))))
 else(bif (!r8.2.2.2.2.2)then(bif (decide (r3<r9.1))then(bif fits (y5.length+ [(y0,r9.1,r9.2.1,r9.2.2.1,r9.2.2.2.1,r9.2.2.2.2.1)].length) 56 then
 Qx L ((wR (y0+1)),y1,y2,y3,y4,(y5++[(y0,r9.1,r9.2.1,r9.2.2.1,r9.2.2.2.1,r9.2.2.2.2.1)]),y6)else none)
 else(Qx L ((wR (y0+1)),y1,y2,y3,y4,y5,y6)))
 else(bif r9.2.2.2.2.2 then((Vj D (r9.1,r9.2.1,r9.2.2.1,r9.2.2.2.1,r9.2.2.2.2.1,r8.1,r8.2.1,r8.2.2.1,r8.2.2.2.1,r8.2.2.2.2.1)).bind fun r11=>
 bif (decide (0<r11))then(bif (decide (r3<r9.1))then(bif fits (y5.length+ [(y0,r9.1,r9.2.1,r9.2.2.1,r9.2.2.2.1,r9.2.2.2.2.1)].length) 56 then
 Qx L ((wR (y0+1)),y1,y2,y3,y4,(y5++[(y0,r9.1,r9.2.1,r9.2.2.1,r9.2.2.2.1,r9.2.2.2.2.1)]),y6)else none)
 else(Qx L ((wR (y0+1)),y1,y2,y3,y4,y5,y6)))
 else(bif (decide (r3<r8.1))then(bif fits (y5.length+ [(y0,r8.1,r8.2.1,r8.2.2.1,r8.2.2.2.1,r8.2.2.2.2.1)].length) 56 then
 Qx L ((wR (y0+1)),y1,y2,y3,y4,(y5++[(y0,r8.1,r8.2.1,r8.2.2.1,r8.2.2.2.1,r8.2.2.2.2.1)]),y6)else none)
 else(Qx L ((wR (y0+1)),y1,y2,y3,y4,y5,y6))))
 else(bif (decide (r3<r8.1))then(bif fits (y5.length+ [(y0,r8.1,r8.2.1,r8.2.2.1,r8.2.2.2.1,r8.2.2.2.2.1)].length) 56 then
 Qx L ((wR (y0+1)),y1,y2,y3,y4,(y5++[(y0,r8.1,r8.2.1,r8.2.2.1,r8.2.2.2.1,r8.2.2.2.2.1)]),y6)else none)
 else(Qx L ((wR (y0+1)),y1,y2,y3,y4,y5,y6)))))))
 else(some (y5,y6))
theorem QiL:OfL Qx Qfm:=ofL 262 0
def Qm0:rF Yt:=fun D L (a0,a1,a2,a3)=>
 (Qx L (0,a0,a1,a2,a3,[],[])).bind fun z12=>
 some z12
theorem Qy5:OfF Yt Qm0:=ofF 262
end
end Go.Proofs.YtiejfnbmficbmaaGreat.M
