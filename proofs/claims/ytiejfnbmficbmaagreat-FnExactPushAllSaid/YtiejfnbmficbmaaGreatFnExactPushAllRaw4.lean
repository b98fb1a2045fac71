/- Plain forms of the functions that FnExactPushAll reaches, part 4. No conditions. -/
import Derived.Test.YtiejfnbmficbmaaGreatFnExactPushAllTab
set_option linter.all false
namespace Go.Proofs.YtiejfnbmficbmaaGreat.M
open Go Go.Eng Go.Proofs
set_option linter.unusedVariables false
noncomputable section
def Qh7:rF qf:=fun D L (a0,a1)=>
 (vE D a0).bind fun r1=>
 (jb D a1).bind fun r2=>
 some (r1,r2)
theorem Qrs:OfF qf Qh7:=ofF 160
def QiN:rF QcP:=fun D L (a0,a1)=>
 (JI D a0).bind fun r1=>
 some (r1,a1)
theorem Qsc:OfF QcP QiN:=ofF 161
def Qkf:rF Qgi:=fun D L (a0,a1,a2)=>
 (yO D a2).bind fun r1=>
 some (a0,a1,r1)
theorem QtW:OfF Qgi Qkf:=ofF 162
def vV:rL Jm:=fun D L (y0,y1,y2)=>
 bif (decide (y1<(y0.length:Int)))then(bif inb y1 y0.length then
 (JI D (rd1 ([]:List Int) y0 y1)).bind fun r1=>
 bif inb y1 y2.length then
 let l2:=List.set y2 (Int.toNat y1) r1;
 Jm L (y0,(wR (y1+1)),l2)else none else none)
 else(some y2)
theorem QdH:OfL Jm vV:=ofL 163 0
def Qh4:rF vv:=fun D L a0=>
 bif (decide ((0:Int)<=(a0.length:Int)/\((a0.length:Int):Int)=(a0.length:Int))&&fits (Int.toNat (a0.length:Int)) 24)then
 (Jm L (a0,0,(List.replicate (Int.toNat (a0.length:Int)) []))).bind fun z3=>
 some z3 else none
theorem QqK:OfF vv Qh4:=ofF 163
def QbH:rL VG:=fun D L (y0,y1,y2)=>
 bif (decide (y1<(y0.length:Int)))then(bif inb y1 y0.length then
 let e1:=(rd1 Kr y0 y1);
 (Qdc D e1).bind fun r2=>
 bif inb y1 y2.length then
 let l3:=List.set y2 (Int.toNat y1) r2;
 VG L (y0,(wR (y1+1)),l3)else none else none)
 else(some y2)
theorem Qeo:OfL VG QbH:=ofL 164 0
def Qh9:rF vU:=fun D L a0=>
 bif (decide ((0:Int)<=(a0.length:Int)/\((a0.length:Int):Int)=(a0.length:Int))&&fits (Int.toNat (a0.length:Int)) 32)then
 (VG L (a0,0,(List.replicate (Int.toNat (a0.length:Int)) (0,0,false,0)))).bind fun z4=>
 some z4 else none
theorem QqP:OfF vU Qh9:=ofF 164
def QbB:rL Jp:=fun D L (y0,y1,y2)=>
 bif (decide (y1<(y0.length:Int)))then(bif inb y1 y0.length then
 let e1:=(rd1 Y9 y0 y1);
 (Qc6 D e1).bind fun r2=>
 bif inb y1 y2.length then
 let l3:=List.set y2 (Int.toNat y1) r2;
 Jp L (y0,(wR (y1+1)),l3)else none else none)
 else(some y2)
theorem QeE:OfL Jp QbB:=ofL 165 0
def Qho:rF Qam:=fun D L a0=>
 bif (decide ((0:Int)<=(a0.length:Int)/\((a0.length:Int):Int)=(a0.length:Int))&&fits (Int.toNat (a0.length:Int)) 24)then
 (Jp L (a0,0,(List.replicate (Int.toNat (a0.length:Int)) (0,0,0)))).bind fun z4=>
 some z4 else none
theorem QqW:OfF Qam Qho:=ofF 165
def QbF:rL Vt:=fun D L (y0,y1,y2)=>
 bif (decide (y1<(y0.length:Int)))then(bif inb y1 y0.length then
 bif inb y1 y2.length then
 let l1:=List.set y2 (Int.toNat y1) (rd1 (0:Int) y0 y1);
 Vt L (y0,(wR (y1+1)),l1)else none else none)
 else(some y2)
theorem Qd5:OfL Vt QbF:=ofL 166 0
def QgU:rF QbQ:=fun D L a0=>
 bif (decide ((0:Int)<=(a0.length:Int)/\((a0.length:Int):Int)=(a0.length:Int))&&fits (Int.toNat (a0.length:Int)) 1)then
 (Vt L (a0,0,(List.replicate (Int.toNat (a0.length:Int)) 0))).bind fun z2=>
 some z2 else none
theorem Qpr:OfF QbQ QgU:=ofF 166
def xV:rL Zx:=fun D L (y0,y1,y2,y3,y4,y5)=>
 bif (decide (y2<y1))then(bif inb y2 y0.length then
 let e3:=(rd1 XU y0 y2);
 (QU D e3.1).bind fun r4=>
 (QU D e3.2.1).bind fun r5=>
 (QU D e3.2.2.1).bind fun r6=>
 (QU D e3.2.2.2.1).bind fun r7=>
 (QU D e3.2.2.2.2.1).bind fun r8=>
 (Qbt D e3.2.2.2.2.2).bind fun r9=>
 (X0 D [y5,r4,r5,r6,r7,r8,r9]).bind fun r10=>
 Zx L (y0,y1,(wR (y2+1)),y3,y4,r10)else none)
 else(some (y3,y4,y5))
theorem jK:OfL Zx xV:=ofL 169 0
def zl:rL ZC:=fun D L (y0,y1,y2,y3)=>
 bif (decide (y2<y1))then(bif inb y2 y0.length then
 let e14:=(rd1 Xy y0 y2);
 (QU D e14.1).bind fun r15=>
 (QU D e14.2).bind fun r16=>
 (X0 D [y3,r15,r16]).bind fun r17=>
 ZC L (y0,y1,(wR (y2+1)),r17)else none)
 else(some y3)
theorem jS:OfL ZC zl:=ofL 169 2
def Qb0:rF Jr:=fun D L (a0,a1)=>
 (XT D (a0,a1)).bind fun r1=>
 bif (!r1)then(some [])
 else((QU D (a0.length:Int)).bind fun r2=>
 (Zx L (a0,(a0.length:Int),0,a0,a1,r2)).bind fun z11=>
 (QU D (z11.2.1.length:Int)).bind fun r12=>
 (X0 D [z11.2.2,r12]).bind fun r13=>
 (ZC L (z11.2.1,(z11.2.1.length:Int),0,r13)).bind fun z18=>
 some z18)
theorem Qml:OfF Jr Qb0:=ofF 169
def QjO:rF Yy:=fun D L a0=>
 (QA D (a0,0,4)).bind fun r1=>
 some r1
theorem QsS:OfF Yy QjO:=ofF 170
def Qcr:rL qn:=fun D L (y0,y1,y2,y3,y4)=>
 bif (decide (y2<y1))then(bif inb y2 y0.length then
 (QA D ((rd1 (0:Int) y0 y2),0,1023)).bind fun r1=>
 bif (!r1)then(some (Sum.inl false))
 else(qn L (y0,y1,(wR (y2+1)),y3,y4))else none)
 else(some (Sum.inr (y3,y4)))
theorem Qfv:OfL qn Qcr:=ofL 171 0
def QiQ:rF Qdg:=fun D L (a0,a1)=>
 bif (decide ((a0.length:Int)=0))then(some (decide (a1=0)))
 else((qn L (a0,(a0.length:Int),0,a0,a1)).bind fun z2=>
 Qq z2 (fun u3=>
 some u3)
 (fun z4=>
 bif (decide ((z4.1.length:Int)=4))then((QA D (z4.2,0,1023)).bind fun r5=>
 some r5)
 else(some false)))
theorem Qsw:OfF Qdg QiQ:=ofF 171
def vc:rL YS:=fun D L (y0,y1,y2,y3)=>
 bif (decide (y3<y2))then(bif inb y3 y1.length then
 let e1:=(rd1 Xy y1 y3);
 (Yy D e1.1).bind fun r2=>
 bif (!r2)then(some (Sum.inl false))
 else((QA D (e1.2,1,1000)).bind fun r3=>
 bif (!r3)then(some (Sum.inl false))
 else(bif (decide (0<y3))then(bif inb (wR (y3 - 1)) y0.length then
 let e4:=(rd1 Xy y0 (wR (y3 - 1)));
 bif (decide (e1.1<=e4.1))then(some (Sum.inl false))
 else(YS L (y0,y1,y2,(wR (y3+1))))else none)
 else(YS L (y0,y1,y2,(wR (y3+1))))))else none)
 else(some (Sum.inr ()))
theorem QdX:OfL YS vc:=ofL 172 0
def QgJ:rF Qbc:=fun D L a0=>
 (YS L (a0,a0,(a0.length:Int),0)).bind fun z5=>
 Qq z5 (fun u6=>
 some u6)
 (fun z7=>
 some true)
theorem Qp1:OfF Qbc QgJ:=ofF 172
def Qcd:rL J2:=fun D L (y0,y1,y2,y3)=>
 bif (decide (y2<y1))then(bif inb y2 y0.length then
 bif fits (y3.length+List.length (rd1 ([]:List Int) y0 y2)) 1 then
 J2 L (y0,y1,(wR (y2+1)),(y3++(rd1 ([]:List Int) y0 y2)))else none else none)
 else(some y3)
theorem QfO:OfL J2 Qcd:=ofL 173 0
def Qjr:rF X0:=fun D L a0=>
 (J2 L (a0,(a0.length:Int),0,[])).bind fun z1=>
 some z1
theorem Qr7:OfF X0 Qjr:=ofF 173
def zy:rL qc:=fun D L (y0,y1)=>
 bif (decide (128<=y0))then(bif decide ((128:Int)≠0)then
 bif fits (y1.length+ [(IntKind.wrap .u8 (wR ((Int.tmod y0 128)+128)))].length) 1 then
 bif decide ((128:Int)≠0)then
 qc L ((wR (Int.tdiv y0 128)),(y1++[(IntKind.wrap .u8 (wR ((Int.tmod y0 128)+128)))]))else none else none else none)
 else(some (y0,y1))
theorem QfC:OfL qc zy:=ofL 174 0
def QjG:rF QU:=fun D L a0=>
 (QA D (a0,0,2147483647)).bind fun r1=>
 bif (!r1)then(some [])
 else((qc L (a0,[])).bind fun z2=>
 bif fits (z2.2.length+ [(IntKind.wrap .u8 z2.1)].length) 1 then
 some (z2.2++[(IntKind.wrap .u8 z2.1)])else none)
theorem QsL:OfF QU QjG:=ofF 174
def vS:rL VP:=fun D L (y0,y1,y2,y3)=>
 bif (decide (y2<y1))then(bif inb y2 y0.length then
 (QU D (rd1 (0:Int) y0 y2)).bind fun r2=>
 (X0 D [y3,r2]).bind fun r3=>
 VP L (y0,y1,(wR (y2+1)),r3)else none)
 else(some y3)
theorem Qd1:OfL VP vS:=ofL 175 0
def QhV:rF J5:=fun D L a0=>
 (QU D (a0.length:Int)).bind fun r1=>
 (VP L (a0,(a0.length:Int),0,r1)).bind fun z4=>
 some z4
theorem QqY:OfF J5 QhV:=ofF 175
def Qfl:rF yS:=fun D L a0=>
 (ji D a0).bind fun r1=>
 bif decide ((0:Int)<=24)then
 bif decide ((0:Int)<=16)then
 bif decide ((0:Int)<=8)then
 some [(IntKind.wrap .u8 (bits .and .i64 (QaV .i64 r1 24) 255)),(IntKind.wrap .u8 (bits .and .i64 (QaV .i64 r1 16) 255)),(IntKind.wrap .u8 (bits .and .i64 (QaV .i64 r1 8) 255)),(IntKind.wrap .u8 (bits .and .i64 r1 255))]else none else none else none
theorem Qpa:OfF yS Qfl:=ofF 176
def QfQ:rF je:=fun D L (a0,a1,a2,a3)=>
 (Vg D (a0,a2)).bind fun r1=>
 bif r1 then(some (decide (a1=a3)))
 else(some false)
theorem QoZ:OfF je QfQ:=ofF 177
def Qcv:rL KN:=fun D L (y0,y1,y2,y3,y4)=>
 bif (decide (y0<4))then((Qa5 D (y1,y2,y0)).bind fun r2=>
 bif fits (y3.length+ [r2].length) 8 then
 KN L ((wR (y0+1)),y1,y2,(y3++[r2]),y4)else none)
 else(some (y3,y4))
theorem Qft:OfL KN Qcv:=ofL 178 0
def QjK:rF Qc1:=fun D L (a0,a1)=>
 (XT D (a0,a1)).bind fun r1=>
 bif (!r1)then(some ([],0))
 else((KN L (0,a0,a1,[],0)).bind fun z3=>
 (Qdk D z3.1).bind fun r4=>
 some (z3.1,r4))
theorem QsM:OfF Qc1 QjK:=ofF 178
def Qje:rF JJ:=fun D L (a0,a1,a2)=>
 (qv D (a0,a1,a2)).bind fun r1=>
 bif (!r1)then(some 0)
 else(some (wR (a1+(a2.length:Int))))
theorem Qsf:OfF JJ Qje:=ofF 179
def Qe4:rL qR:=fun D L (y0,y1,y2,y3,y4,y5)=>
 bif (decide (y2<y1))then(bif inb y2 y0.length then
 let e1:=(rd1 Yk y0 y2);
 (XT D e1).bind fun r2=>
 bif (!r2)then(some (Sum.inl false))
 else(qR L (y0,y1,(wR (y2+1)),y3,y4,y5))else none)
 else(some (Sum.inr (y3,y4,y5)))
theorem Qif:OfL qR Qe4:=ofL 180 0
def Qkc:rF qv:=fun D L (a0,a1,a2)=>
 (qR L (a2,(a2.length:Int),0,a0,a1,a2)).bind fun z3=>
 Qq z3 (fun u4=>
 some u4)
 (fun z5=>
 (QA D (z5.1,1,8)).bind fun r6=>
 bif r6 then(bif (decide ((z5.2.2.length:Int)<=z5.1))then((QA D (z5.2.1,0,100000)).bind fun r7=>
 bif r7 then(some (decide ((wR (z5.2.1+(z5.2.2.length:Int)))<=100000)))
 else(some false))
 else(some false))
 else(some false))
theorem QtT:OfF qv Qkc:=ofF 180
def Qe8:rL qW:=fun D L (y0,y1,y2,y3,y4)=>
 bif (decide (y4<y3))then(bif inb y4 y2.length then
 (QA D ((rd1 (0:Int) y2 y4),0,100000)).bind fun r1=>
 bif (!r1)then(some (Sum.inl false))
 else(qW L (y0,y1,y2,y3,(wR (y4+1))))else none)
 else(some (Sum.inr (y0,y1)))
theorem Qhx:OfL qW Qe8:=ofL 181 0
def QkK:rF Qaj:=fun D L (a0,a1)=>
 (qW L (a0,a1,a0,(a0.length:Int),0)).bind fun z2=>
 Qq z2 (fun u3=>
 some u3)
 (fun z4=>
 (QA D (z4.2,1,5)).bind fun r5=>
 bif r5 then(some (decide ((z4.1.length:Int)=z4.2)))
 else(some false))
theorem QtU:OfF Qaj QkK:=ofF 181
def qy:rL Zb:=fun D L (y0,y1,y2)=>
 bif (decide (y2<(y0.length:Int)))then(bif inb y2 y0.length then
 Zb L (y0,(mxI y1 (rd1 (0:Int) y0 y2)),(wR (y2+1)))else none)
 else(some y1)
theorem zX:OfL Zb qy:=ofL 182 0
def jC:rF Ko:=fun D L a0=>
 bif (decide ((a0.length:Int)<1))then(none)
 else(bif inb 0 a0.length then
 (Zb L (a0,(rd1 (0:Int) a0 0),1)).bind fun z1=>
 some z1 else none)
theorem Qlg:OfF Ko jC:=ofF 182
def Qa6:rL Jo:=fun D L (y0,y1,y2,y3,y4)=>
 bif (decide (y4<y3))then(bif inb y4 y2.length then
 (YO L (y0,y1,(rd1 ([]:List Int) y2 y4),y2,y3,y4,(rd1 ([]:List Int) y2 y4),((List.length (rd1 ([]:List Int) y2 y4)):Int),0)).bind fun z2=>
 Qq z2 (fun u3=>
 some (Sum.inl u3))
 (fun z4=>
 bif (!decide ((z4.2.2.1.length:Int)=5))then(some (Sum.inl false))
 else(Jo L (z4.1,z4.2.1,z4.2.2.2.1,z4.2.2.2.2.1,(wR (z4.2.2.2.2.2+1)))))else none)
 else(some (Sum.inr (y0,y1)))
theorem Qdx:OfL Jo Qa6:=ofL 183 0
def va:rL YO:=fun D L (y0,y1,y2,y3,y4,y5,y6,y7,y8)=>
 bif (decide (y8<y7))then(bif inb y8 y6.length then
 (QA D ((rd1 (0:Int) y6 y8),0,1000)).bind fun r1=>
 bif (!r1)then(some (Sum.inl false))
 else(YO L (y0,y1,y2,y3,y4,y5,y6,y7,(wR (y8+1))))else none)
 else(some (Sum.inr (y0,y1,y2,y3,y4,y5)))
theorem QeL:OfL YO va:=ofL 183 2
def QgA:rF vQ:=fun D L (a0,a1)=>
 (Jo L (a0,a1,a0,(a0.length:Int),0)).bind fun z5=>
 Qq z5 (fun u6=>
 some u6)
 (fun z7=>
 (QA D (z7.2,1,5)).bind fun r8=>
 bif r8 then(some (decide ((z7.1.length:Int)=z7.2)))
 else(some false))
theorem Qqg:OfF vQ QgA:=ofF 183
def Qcc:rL J3:=fun D L (y0,y1,y2,y3,y4,y5,y6,y7,y8,y9,y10,y11,y12,y13,y14,y15,y16,y17,y18,y19,y20,y21)=>
 bif (decide (y2<y1))then(bif inb y2 y0.length then
 let e1:=(rd1 Kr y0 y2);
 (xe D (y3,y4,y5,y6,y7,y8,y9,y10,y11,y12,y13,y14,y15,y16,y17,y18,y19,y20,y21,e1.1)).bind fun r2=>
 bif (!r2)then(some (Sum.inl false))
 else((QA D (e1.2.1,0,100000)).bind fun r3=>
 bif (!r3)then(some (Sum.inl false))
 else((QA D (e1.2.2.2,0,y18)).bind fun r4=>
 bif (!r4)then(some (Sum.inl false))
 else((Qi9 D (y3,y4,y5,y6,y7,y8,y9,y10,y11,y12,y13,y14,y15,y16,y17,y18,y19,y20,y21,e1.1,e1.2.2.1)).bind fun r5=>
 bif (!decide (r5=y2))then(some (Sum.inl false))
 else(J3 L (y0,y1,(wR (y2+1)),y3,y4,y5,y6,y7,y8,y9,y10,y11,y12,y13,y14,y15,y16,y17,y18,y19,y20,y21)))))else none)
 else(some (Sum.inr (y3,y4,y5,y6,y7,y8,y9,y10,y11,y12,y13,y14,y15,y16,y17,y18,y19,y20,y21)))
theorem Qfk:OfL J3 Qcc:=ofL 184 0
def Qi3:rF QcU:=fun D L (a0,a1,a2,a3,a4,a5,a6,a7,a8,a9,a10,a11,a12,a13,a14,a15,a16,a17,a18)=>
 (J3 L (a14,(a14.length:Int),0,a0,a1,a2,a3,a4,a5,a6,a7,a8,a9,a10,a11,a12,a13,a14,a15,a16,a17,a18)).bind fun z6=>
 Qq z6 (fun u7=>
 some u7)
 (fun z8=>
 (QA D (z8.2.2.2.2.2.2.2.2.2.2.2.2.2.1,1,4)).bind fun r9=>
 bif r9 then(some (decide ((z8.2.2.2.2.2.2.2.2.2.2.2.2.2.2.1.length:Int)<=z8.2.2.2.2.2.2.2.2.2.2.2.2.2.1)))
 else(some false))
theorem Qsm:OfF QcU Qi3:=ofF 184
def QaM:rL VZ:=fun D L (y0,y1,y2,y3,y4,y5,y6,y7,y8,y9,y10,y11,y12,y13,y14,y15,y16,y17,y18,y19,y20,y21)=>
 bif (decide (y2<y1))then(bif inb y2 y0.length then
 let e1:=(rd1 Y9 y0 y2);
 (QA D (e1.1,0,1000)).bind fun r2=>
 bif (!r2)then(some (Sum.inl false))
 else((QA D (e1.2.1,0,100000)).bind fun r3=>
 bif (!r3)then(some (Sum.inl false))
 else((QA D (e1.2.2,0,y20)).bind fun r4=>
 bif (!r4)then(some (Sum.inl false))
 else(VZ L (y0,y1,(wR (y2+1)),y3,y4,y5,y6,y7,y8,y9,y10,y11,y12,y13,y14,y15,y16,y17,y18,y19,y20,y21))))else none)
 else(some (Sum.inr (y3,y4,y5,y6,y7,y8,y9,y10,y11,y12,y13,y14,y15,y16,y17,y18,y19,y20,y21)))
theorem Qe1:OfL VZ QaM:=ofL 185 0
def Qg2:rF Qa8:=fun D L (a0,a1,a2,a3,a4,a5,a6,a7,a8,a9,a10,a11,a12,a13,a14,a15,a16,a17,a18)=>
 (VZ L (a18,(a18.length:Int),0,a0,a1,a2,a3,a4,a5,a6,a7,a8,a9,a10,a11,a12,a13,a14,a15,a16,a17,a18)).bind fun z5=>
 Qq z5 (fun u6=>
 some u6)
 (fun z7=>
 some (decide ((z7.2.2.2.2.2.2.2.2.2.2.2.2.2.2.2.2.2.2.length:Int)=5)))
theorem Qrc:OfF Qa8 Qg2:=ofF 185
def QgC:rF xU:=fun D L (a0,a1,a2,a3,a4)=>
 (QA D (a0,1,1000)).bind fun r1=>
 bif r1 then((QA D (a1,0,1)).bind fun r2=>
 bif r2 then((QA D (a2,0,100000)).bind fun r3=>
 bif r3 then((QA D (a3,0,1000)).bind fun r4=>
 bif r4 then(some (decide (((ByteArray.size a4):Int)<=8)))
 else(some false))
 else(some false))
 else(some false))
 else(some false)
theorem Qrv:OfF xU QgC:=ofF 186
def QbM:rL V6:=fun D L (y0,y1,y2,y3)=>
 bif (decide (y3<y2))then(bif inb y3 y1.length then
 let e1:=(rd1 Xy y1 y3);
 bif (decide (e1.1=y0))then(some (Sum.inl e1.2))
 else(V6 L (y0,y1,y2,(wR (y3+1))))else none)
 else(some (Sum.inr ()))
theorem QdD:OfL V6 QbM:=ofL 187 0
def Qis:rF Ve:=fun D L (a0,a1,a2)=>
 (V6 L (a2,a1,(a1.length:Int),0)).bind fun z2=>
 Qq z2 (fun u3=>
 some u3)
 (fun z4=>
 some 0)
theorem QqA:OfF Ve Qis:=ofF 187
def QgF:rF J1:=fun D L (a0,a1,a2,a3)=>
 (Qbk D (a0,a2)).bind fun r1=>
 bif (!r1)then(some false)
 else((yW D (a1,a3)).bind fun r2=>
 bif (!r2)then(some false)
 else(some true))
theorem Qp8:OfF J1 QgF:=ofF 188
def Qjv:rF Qc3:=fun D L (a0,a1,a2,a3)=>
 (Jz D (a0,a2)).bind fun r1=>
 bif (!r1)then(some false)
 else(bif (!decide (a1=a3))then(some false)
 else(some true))
theorem Qsp:OfF Qc3 Qjv:=ofF 189
def QkP:rF Qgb:=fun D L (a0,a1,a2,a3,a4,a5)=>
 bif (!decide (a0=a3))then(some false)
 else(bif (!decide (a1=a4))then(some false)
 else((yQ D (a2,a5)).bind fun r1=>
 bif (!r1)then(some false)
 else(some true)))
theorem Qt9:OfF Qgb QkP:=ofF 190
def v8:rL VU:=fun D L (y0,y1,y2)=>
 bif (decide (y2<(y0.length:Int)))then(bif inb y2 y0.length then
 bif inb y2 y1.length then
 (Jz D ((rd1 ([]:List Int) y0 y2),(rd1 ([]:List Int) y1 y2))).bind fun r1=>
 bif (!r1)then(some (Sum.inl false))
 else(VU L (y0,y1,(wR (y2+1))))else none else none)
 else(some (Sum.inr ()))
theorem Qet:OfL VU v8:=ofL 191 0
def Qg1:rF vo:=fun D L (a0,a1)=>
 bif (!decide ((a0.length:Int)=(a1.length:Int)))then(some false)
 else((VU L (a0,a1,0)).bind fun z2=>
 Qq z2 (fun u3=>
 some u3)
 (fun z4=>
 some true))
theorem Qqt:OfF vo Qg1:=ofF 191
def vr:rL VJ:=fun D L (y0,y1,y2)=>
 bif (decide (y2<(y0.length:Int)))then(bif inb y2 y0.length then
 let e1:=(rd1 Kr y0 y2);
 bif inb y2 y1.length then
 let e2:=(rd1 Kr y1 y2);
 (QcX D (e1.1,e1.2.1,e1.2.2.1,e1.2.2.2,e2)).bind fun r3=>
 bif (!r3)then(some (Sum.inl false))
 else(VJ L (y0,y1,(wR (y2+1))))else none else none)
 else(some (Sum.inr ()))
theorem Qd7:OfL VJ vr:=ofL 192 0
def Qh5:rF Qbw:=fun D L (a0,a1)=>
 bif (!decide ((a0.length:Int)=(a1.length:Int)))then(some false)
 else((VJ L (a0,a1,0)).bind fun z4=>
 Qq z4 (fun u5=>
 some u5)
 (fun z6=>
 some true))
theorem Qq6:OfF Qbw Qh5:=ofF 192
def Qbx:rL VT:=fun D L (y0,y1,y2)=>
 bif (decide (y2<(y0.length:Int)))then(bif inb y2 y0.length then
 let e1:=(rd1 Y9 y0 y2);
 bif inb y2 y1.length then
 let e2:=(rd1 Y9 y1 y2);
 (Qdo D (e1.1,e1.2.1,e1.2.2,e2)).bind fun r3=>
 bif (!r3)then(some (Sum.inl false))
 else(VT L (y0,y1,(wR (y2+1))))else none else none)
 else(some (Sum.inr ()))
theorem Qdv:OfL VT Qbx:=ofL 193 0
def QgS:rF QbC:=fun D L (a0,a1)=>
 bif (!decide ((a0.length:Int)=(a1.length:Int)))then(some false)
 else((VT L (a0,a1,0)).bind fun z4=>
 Qq z4 (fun u5=>
 some u5)
 (fun z6=>
 some true))
theorem Qrk:OfF QbC QgS:=ofF 193
def QaR:rL V2:=fun D L (y0,y1,y2)=>
 bif (decide (y2<(y0.length:Int)))then(bif inb y2 y0.length then
 bif inb y2 y1.length then
 bif (!decide ((rd1 (0:Int) y0 y2)=(rd1 (0:Int) y1 y2)))then(some (Sum.inl false))
 else(V2 L (y0,y1,(wR (y2+1))))else none else none)
 else(some (Sum.inr ()))
theorem Qed:OfL V2 QaR:=ofL 194 0
def QhL:rF Qbp:=fun D L (a0,a1)=>
 bif (!decide ((a0.length:Int)=(a1.length:Int)))then(some false)
 else((V2 L (a0,a1,0)).bind fun z1=>
 Qq z1 (fun u2=>
 some u2)
 (fun z3=>
 some true))
theorem Qqy:OfF Qbp QhL:=ofF 194
def Qjn:rF Qdf:=fun D L (a0,a1)=>
 bif fits (List.length ([]:List Int)+a0.length) 8 then
 some ((([]:List Int)++a0),a1)else none
theorem QrU:OfF Qdf Qjn:=ofF 195
def Qck:rL ql:=fun D L (y0,y1,y2,y3,y4,y5,y6)=>
 bif (decide (y0<(y3.length:Int)))then(bif inb y0 y3.length then
 let e1:=(rd1 Yk y3 y0);
 (KE D e1).bind fun r2=>
 bif fits (y6.length+ [r2].length) 48 then
 ql L ((wR (y0+1)),y1,y2,y3,y4,y5,(y6++[r2]))else none else none)
 else(some (y4,y5,y6))
theorem Qfr:OfL ql Qck:=ofL 196 0
def Qjt:rF QcN:=fun D L (a0,a1,a2)=>
 (ql L (0,a0,a1,a2,a0,a1,[])).bind fun z3=>
 some z3
theorem QsC:OfF QcN Qjt:=ofF 196
def Qcs:rL JV:=fun D L (y0,y1,y2)=>
 bif (decide (y1<(y0.length:Int)))then(bif inb y1 y0.length then
 bif fits (List.length ([]:List Int)+List.length (rd1 ([]:List Int) y0 y1)) 8 then
 bif fits (y2.length+List.length ([(([]:List Int)++(rd1 ([]:List Int) y0 y1))]:List (List Int))) 24 then
 JV L (y0,(wR (y1+1)),(y2++([(([]:List Int)++(rd1 ([]:List Int) y0 y1))]:List (List Int))))else none else none else none)
 else(some y2)
theorem Qfo:OfL JV Qcs:=ofL 197 0
def QiI:rF QcR:=fun D L a0=>
 (JV L (a0,0,[])).bind fun z1=>
 some z1
theorem QrQ:OfF QcR QiI:=ofF 197
def jV:rL Ji:=fun D L (y0,y1,y2,y3)=>
 bif (decide (y1<(y2.length:Int)))then(bif inb y1 y2.length then
 let e1:=(rd1 XU y2 y1);
 bif (decide (e1.1=y0))then(bif inb y1 y2.length then
 let e2:=(rd1 XU y2 y1);
 some (Sum.inl (true,e2.2))else none)
 else(Ji L (y0,(wR (y1+1)),y2,y3))else none)
 else(some (Sum.inr ()))
theorem QdS:OfL Ji jV:=ofL 198 0
def Qhr:rF YE:=fun D L (a0,a1,a2)=>
 (Ji L (a2,0,a0,a1)).bind fun z3=>
 Qq z3 (fun u4=>
 some (u4.2.1,u4.2.2.1,u4.2.2.2.1,u4.2.2.2.2.1,u4.2.2.2.2.2,u4.1))
 (fun z5=>
 some (0,0,0,0,ByteArray.empty,false))
theorem QqE:OfF YE Qhr:=ofF 198
end
end Go.Proofs.YtiejfnbmficbmaaGreat.M
