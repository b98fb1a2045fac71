/- Plain forms of the functions that FnExactIslands reaches, part 5. No conditions. -/
import Derived.Test.YtiejfnbmficbmaaGreatFnExactIslandsTab
set_option linter.all false
namespace Go.Proofs.YtiejfnbmficbmaaGreat.M
open Go Go.Eng Go.Proofs
set_option linter.unusedVariables false
noncomputable section
def Qb5:rL KL:=fun D L (y0,y1,y2,y3)=>
 bif (decide (y0<(y1.length:Int)))then(bif inb y0 y1.length then
 let e2:=(rd1 XZ y1 y0);
 bif inb y0 y1.length then
 let e3:=(rd1 XZ y1 y0);
 (KC L (y0,0,y1,y2,y3,e2.2.1,e2.2.2.1,e2.2.2.2.1,e2.2.2.2.2.1,e2.2.2.2.2.2,[e3.1,e2.2.1,e2.2.2.1,e2.2.2.2.1,e2.2.2.2.2.1])).bind fun z5=>
 (Qc3 D z5.2.2.2.2.2.2.2.2).bind fun r6=>
 bif fits (z5.2.2.2.1.length+r6.length) 1 then
 KL L ((wR (z5.1+1)),z5.2.1,z5.2.2.1,(z5.2.2.2.1++r6))else none else none else none)
 else(some (y1,y2,y3))
theorem Qfz:OfL KL Qb5:=ofL 156 0
def QbT:rL KC:=fun D L (y0,y1,y2,y3,y4,y5,y6,y7,y8,y9,y10)=>
 bif (decide (y1<(y10.length:Int)))then(bif inb y1 y10.length then
 (ZK D (rd1 (0:Int) y10 y1)).bind fun r4=>
 bif fits (y4.length+r4.length) 1 then
 KC L (y0,(wR (y1+1)),y2,y3,(y4++r4),y5,y6,y7,y8,y9,y10)else none else none)
 else(some (y0,y2,y3,y4,y5,y6,y7,y8,y9))
theorem QgF:OfL KC QbT:=ofL 156 2
def Qa6:rL KB:=fun D L (y0,y1,y2,y3)=>
 bif (decide (y0<(y2.length:Int)))then(bif inb y0 y2.length then
 let e9:=(rd1 XF y2 y0);
 (ZK D e9.1).bind fun r10=>
 bif fits (y3.length+r10.length) 1 then
 bif inb y0 y2.length then
 let e11:=(rd1 XF y2 y0);
 (ZK D e11.2).bind fun r12=>
 bif fits (List.length (y3++r10)+r12.length) 1 then
 KB L ((wR (y0+1)),y1,y2,((y3++r10)++r12))else none else none else none else none)
 else(some y3)
theorem QfK:OfL KB Qa6:=ofL 156 4
def Qj9:rF QbV:=fun D L (a0,a1)=>
 (ZK D (a0.length:Int)).bind fun r1=>
 (KL L (0,a0,a1,r1)).bind fun z7=>
 (ZK D (z7.2.1.length:Int)).bind fun r8=>
 bif fits (z7.2.2.length+r8.length) 1 then
 (KB L (0,z7.1,z7.2.1,(z7.2.2++r8))).bind fun z13=>
 some z13 else none
theorem QtF:OfF QbV Qj9:=ofF 156
def QiA:rF Qdo:=fun D L (a0,a1)=>
 bif (decide ((a0.length:Int)=0))then(some (decide (a1=0)))
 else(bif (decide ((a0.length:Int)=4))then((xm D (a0,4,1023)).bind fun r1=>
 bif r1 then((QE D (a1,0,1023)).bind fun r2=>
 some r2)
 else(some false))
 else(some false))
theorem Qua:OfF Qdo QiA:=ofF 157
def Qcv:rL JJ:=fun D L (y0,y1,y2)=>
 bif (decide (y2<(y0.length:Int)))then(bif inb y2 y0.length then
 (QE D ((rd1 (0:Int) y0 y2),0,y1)).bind fun r1=>
 bif (!r1)then(some (Sum.inl false))
 else(JJ L (y0,y1,(wR (y2+1))))else none)
 else(some (Sum.inr ()))
theorem Qgz:OfL JJ Qcv:=ofL 158 0
def QjN:rF xm:=fun D L (a0,a1,a2)=>
 bif (decide (a1<(a0.length:Int)))then(some false)
 else((JJ L (a0,a2,0)).bind fun z2=>
 Qp z2 (fun u3=>
 some u3)
 (fun z4=>
 some true))
theorem Quq:OfF xm QjN:=ofF 158
def QcB:rL KU:=fun D L (y0,y1)=>
 bif (decide (y1<(y0.length:Int)))then(bif inb y1 y0.length then
 let e1:=(rd1 XF y0 y1);
 (Kb D e1.1).bind fun r2=>
 bif (!r2)then(some (Sum.inl false))
 else(bif (decide (0<y1))then(bif inb y1 y0.length then
 let e3:=(rd1 XF y0 y1);
 bif inb (wR (y1 - 1)) y0.length then
 let e4:=(rd1 XF y0 (wR (y1 - 1)));
 bif (decide (e3.1<=e4.1))then(some (Sum.inl false))
 else(bif inb y1 y0.length then
 let e5:=(rd1 XF y0 y1);
 (QE D (e5.2,1,1000)).bind fun r6=>
 bif (!r6)then(some (Sum.inl false))
 else(KU L (y0,(wR (y1+1))))else none)else none else none)
 else(bif inb y1 y0.length then
 let e7:=(rd1 XF y0 y1);
 (QE D (e7.2,1,1000)).bind fun r8=>
 bif (!r8)then(some (Sum.inl false))
 else(KU L (y0,(wR (y1+1))))else none))else none)
 else(some (Sum.inr ()))
theorem QfR:OfL KU QcB:=ofL 159 0
def QjE:rF yn:=fun D L a0=>
 (KU L (a0,0)).bind fun z9=>
 Qp z9 (fun u10=>
 some u10)
 (fun z11=>
 some true)
theorem Qug:OfF yn QjE:=ofF 159
def Qit:rF xl:=fun D L (a0,a1)=>
 (Qdc D a0).bind fun r1=>
 (vK D a1).bind fun r2=>
 some (r1,r2)
theorem Qun:OfF xl Qit:=ofF 160
def Qml:rF Qe8:=fun D L (a0,a1)=>
 (ZM D a0).bind fun r1=>
 some (r1,a1)
theorem Qvk:OfF Qe8 Qml:=ofF 161
def Qna:rF Qid:=fun D L (a0,a1,a2)=>
 (vO D a2).bind fun r1=>
 some (a0,a1,r1)
theorem QxX:OfF Qid Qna:=ofF 162
def QcF:rL JM:=fun D L (y0,y1,y2)=>
 bif (decide (y1<(y0.length:Int)))then(bif inb y1 y0.length then
 (ZM D (rd1 ([]:List Int) y0 y1)).bind fun r1=>
 bif inb y1 y2.length then
 let l2:=List.set y2 (Int.toNat y1) r1;
 JM L (y0,(wR (y1+1)),l2)else none else none)
 else(some y2)
theorem Qgg:OfL JM QcF:=ofL 163 0
def Qiy:rF Qcw:=fun D L a0=>
 bif (decide ((0:Int)<=(a0.length:Int)/\((a0.length:Int):Int)=(a0.length:Int))&&fits (Int.toNat (a0.length:Int)) 24)then
 (JM L (a0,0,(List.replicate (Int.toNat (a0.length:Int)) []))).bind fun z3=>
 some z3 else none
theorem QtN:OfF Qcw Qiy:=ofF 163
def QbX:rL JB:=fun D L (y0,y1,y2)=>
 bif (decide (y1<(y0.length:Int)))then(bif inb y1 y0.length then
 let e1:=(rd1 XX y0 y1);
 (Qeo D e1).bind fun r2=>
 bif inb y1 y2.length then
 let l3:=List.set y2 (Int.toNat y1) r2;
 JB L (y0,(wR (y1+1)),l3)else none else none)
 else(some y2)
theorem QfU:OfL JB QbX:=ofL 164 0
def QjI:rF QcV:=fun D L a0=>
 bif (decide ((0:Int)<=(a0.length:Int)/\((a0.length:Int):Int)=(a0.length:Int))&&fits (Int.toNat (a0.length:Int)) 32)then
 (JB L (a0,0,(List.replicate (Int.toNat (a0.length:Int)) (0,0,false,0)))).bind fun z4=>
 some z4 else none
theorem Qtw:OfF QcV QjI:=ofF 164
def Qdk:rL Jm:=fun D L (y0,y1,y2)=>
 bif (decide (y1<(y0.length:Int)))then(bif inb y1 y0.length then
 let e1:=(rd1 Zc y0 y1);
 (QeF D e1).bind fun r2=>
 bif inb y1 y2.length then
 let l3:=List.set y2 (Int.toNat y1) r2;
 Jm L (y0,(wR (y1+1)),l3)else none else none)
 else(some y2)
theorem Qgf:OfL Jm Qdk:=ofL 165 0
def QkI:rF Qc4:=fun D L a0=>
 bif (decide ((0:Int)<=(a0.length:Int)/\((a0.length:Int):Int)=(a0.length:Int))&&fits (Int.toNat (a0.length:Int)) 24)then
 (Jm L (a0,0,(List.replicate (Int.toNat (a0.length:Int)) (0,0,0)))).bind fun z4=>
 some z4 else none
theorem Quz:OfF Qc4 QkI:=ofF 165
def QbS:rL JX:=fun D L (y0,y1,y2)=>
 bif (decide (y1<(y0.length:Int)))then(bif inb y1 y0.length then
 bif inb y1 y2.length then
 let l1:=List.set y2 (Int.toNat y1) (rd1 (0:Int) y0 y1);
 JX L (y0,(wR (y1+1)),l1)else none else none)
 else(some y2)
theorem QfG:OfL JX QbS:=ofL 166 0
def Qkp:rF QcX:=fun D L a0=>
 bif (decide ((0:Int)<=(a0.length:Int)/\((a0.length:Int):Int)=(a0.length:Int))&&fits (Int.toNat (a0.length:Int)) 1)then
 (JX L (a0,0,(List.replicate (Int.toNat (a0.length:Int)) 0))).bind fun z2=>
 some z2 else none
theorem Qu8:OfF QcX Qkp:=ofF 166
def yA:rL Z5:=fun D L (y0,y1,y2,y3,y4,y5)=>
 bif (decide (y2<y1))then(bif inb y2 y0.length then
 let e3:=(rd1 XZ y0 y2);
 (XN D e3.1).bind fun r4=>
 (XN D e3.2.1).bind fun r5=>
 (XN D e3.2.2.1).bind fun r6=>
 (XN D e3.2.2.2.1).bind fun r7=>
 (XN D e3.2.2.2.2.1).bind fun r8=>
 (QcQ D e3.2.2.2.2.2).bind fun r9=>
 (Kj D [y5,r4,r5,r6,r7,r8,r9]).bind fun r10=>
 Z5 L (y0,y1,(wR (y2+1)),y3,y4,r10)else none)
 else(some (y3,y4,y5))
theorem Qar:OfL Z5 yA:=ofL 169 0
def yS:rL Z6:=fun D L (y0,y1,y2,y3)=>
 bif (decide (y2<y1))then(bif inb y2 y0.length then
 let e14:=(rd1 XF y0 y2);
 (XN D e14.1).bind fun r15=>
 (XN D e14.2).bind fun r16=>
 (Kj D [y3,r15,r16]).bind fun r17=>
 Z6 L (y0,y1,(wR (y2+1)),r17)else none)
 else(some y3)
theorem QaF:OfL Z6 yS:=ofL 169 2
def Qdv:rF ya:=fun D L (a0,a1)=>
 (XG D (a0,a1)).bind fun r1=>
 bif (!r1)then(some [])
 else((XN D (a0.length:Int)).bind fun r2=>
 (Z5 L (a0,(a0.length:Int),0,a0,a1,r2)).bind fun z11=>
 (XN D (z11.2.1.length:Int)).bind fun r12=>
 (Kj D [z11.2.2,r12]).bind fun r13=>
 (Z6 L (z11.2.1,(z11.2.1.length:Int),0,r13)).bind fun z18=>
 some z18)
theorem Qqg:OfF ya Qdv:=ofF 169
def Qmi:rF Kf:=fun D L a0=>
 (QC D (a0,0,4)).bind fun r1=>
 some r1
theorem Qv3:OfF Kf Qmi:=ofF 170
def Qd7:rL qH:=fun D L (y0,y1,y2,y3,y4)=>
 bif (decide (y2<y1))then(bif inb y2 y0.length then
 (QC D ((rd1 (0:Int) y0 y2),0,1023)).bind fun r1=>
 bif (!r1)then(some (Sum.inl false))
 else(qH L (y0,y1,(wR (y2+1)),y3,y4))else none)
 else(some (Sum.inr (y3,y4)))
theorem Qhf:OfL qH Qd7:=ofL 171 0
def Ql5:rF Qeu:=fun D L (a0,a1)=>
 bif (decide ((a0.length:Int)=0))then(some (decide (a1=0)))
 else((qH L (a0,(a0.length:Int),0,a0,a1)).bind fun z2=>
 Qp z2 (fun u3=>
 some u3)
 (fun z4=>
 bif (decide ((z4.1.length:Int)=4))then((QC D (z4.2,0,1023)).bind fun r5=>
 some r5)
 else(some false)))
theorem QwL:OfF Qeu Ql5:=ofF 171
def Qdj:rL KM:=fun D L (y0,y1,y2,y3)=>
 bif (decide (y3<y2))then(bif inb y3 y1.length then
 let e1:=(rd1 XF y1 y3);
 (Kf D e1.1).bind fun r2=>
 bif (!r2)then(some (Sum.inl false))
 else((QC D (e1.2,1,1000)).bind fun r3=>
 bif (!r3)then(some (Sum.inl false))
 else(bif (decide (0<y3))then(bif inb (wR (y3 - 1)) y0.length then
 let e4:=(rd1 XF y0 (wR (y3 - 1)));
 bif (decide (e1.1<=e4.1))then(some (Sum.inl false))
 else(KM L (y0,y1,y2,(wR (y3+1))))else none)
 else(KM L (y0,y1,y2,(wR (y3+1))))))else none)
 else(some (Sum.inr ()))
theorem Qf5:OfL KM Qdj:=ofL 172 0
def Qks:rF yG:=fun D L a0=>
 (KM L (a0,a0,(a0.length:Int),0)).bind fun z5=>
 Qp z5 (fun u6=>
 some u6)
 (fun z7=>
 some true)
theorem Qs3:OfF yG Qks:=ofF 172
def QdN:rL qW:=fun D L (y0,y1,y2,y3)=>
 bif (decide (y2<y1))then(bif inb y2 y0.length then
 bif fits (y3.length+List.length (rd1 ([]:List Int) y0 y2)) 1 then
 qW L (y0,y1,(wR (y2+1)),(y3++(rd1 ([]:List Int) y0 y2)))else none else none)
 else(some y3)
theorem Qhn:OfL qW QdN:=ofL 173 0
def Qk0:rF Kj:=fun D L a0=>
 (qW L (a0,(a0.length:Int),0,[])).bind fun z1=>
 some z1
theorem Qwt:OfF Kj Qk0:=ofF 173
def yY:rL xA:=fun D L (y0,y1)=>
 bif (decide (128<=y0))then(bif decide ((128:Int)≠0)then
 bif fits (y1.length+ [(IntKind.wrap .u8 (wR ((Int.tmod y0 128)+128)))].length) 1 then
 bif decide ((128:Int)≠0)then
 xA L ((wR (Int.tdiv y0 128)),(y1++[(IntKind.wrap .u8 (wR ((Int.tmod y0 128)+128)))]))else none else none else none)
 else(some (y0,y1))
theorem Qhg:OfL xA yY:=ofL 174 0
def Qmo:rF XN:=fun D L a0=>
 (QC D (a0,0,2147483647)).bind fun r1=>
 bif (!r1)then(some [])
 else((xA L (a0,[])).bind fun z2=>
 bif fits (z2.2.length+ [(IntKind.wrap .u8 z2.1)].length) 1 then
 some (z2.2++[(IntKind.wrap .u8 z2.1)])else none)
theorem QvS:OfF XN Qmo:=ofF 174
def QhB:rF vP:=fun D L (a0,a1,a2,a3)=>
 (V2 D (a0,a2)).bind fun r1=>
 bif r1 then(some (decide (a1=a3)))
 else(some false)
theorem Qsk:OfF vP QhB:=ofF 177
def QdT:rL Vs:=fun D L (y0,y1,y2,y3,y4)=>
 bif (decide (y0<4))then((QaL D (y1,y2,y0)).bind fun r2=>
 bif fits (y3.length+ [r2].length) 8 then
 Vs L ((wR (y0+1)),y1,y2,(y3++[r2]),y4)else none)
 else(some (y3,y4))
theorem QhN:OfL Vs QdT:=ofL 178 0
def QlW:rF zm:=fun D L (a0,a1)=>
 (XG D (a0,a1)).bind fun r1=>
 bif (!r1)then(some ([],0))
 else((Vs L (0,a0,a1,[],0)).bind fun z3=>
 (QeW D z3.1).bind fun r4=>
 some (z3.1,r4))
theorem Qv9:OfF zm QlW:=ofF 178
def QlI:rF Vf:=fun D L (a0,a1,a2)=>
 (xJ D (a0,a1,a2)).bind fun r1=>
 bif (!r1)then(some 0)
 else(some (wR (a1+(a2.length:Int))))
theorem Qwl:OfF Vf QlI:=ofF 179
def Qg3:rL zk:=fun D L (y0,y1,y2,y3,y4,y5)=>
 bif (decide (y2<y1))then(bif inb y2 y0.length then
 let e1:=(rd1 YU y0 y2);
 (XG D e1).bind fun r2=>
 bif (!r2)then(some (Sum.inl false))
 else(zk L (y0,y1,(wR (y2+1)),y3,y4,y5))else none)
 else(some (Sum.inr (y3,y4,y5)))
theorem Qja:OfL zk Qg3:=ofL 180 0
def QnE:rF xJ:=fun D L (a0,a1,a2)=>
 (zk L (a2,(a2.length:Int),0,a0,a1,a2)).bind fun z3=>
 Qp z3 (fun u4=>
 some u4)
 (fun z5=>
 (QC D (z5.1,1,8)).bind fun r6=>
 bif r6 then(bif (decide ((z5.2.2.length:Int)<=z5.1))then((QC D (z5.2.1,0,100000)).bind fun r7=>
 bif r7 then(some (decide ((wR (z5.2.1+(z5.2.2.length:Int)))<=100000)))
 else(some false))
 else(some false))
 else(some false))
theorem QxO:OfF xJ QnE:=ofF 180
def QgW:rL zc:=fun D L (y0,y1,y2,y3,y4)=>
 bif (decide (y4<y3))then(bif inb y4 y2.length then
 (QC D ((rd1 (0:Int) y2 y4),0,100000)).bind fun r1=>
 bif (!r1)then(some (Sum.inl false))
 else(zc L (y0,y1,y2,y3,(wR (y4+1))))else none)
 else(some (Sum.inr (y0,y1)))
theorem Qi1:OfL zc QgW:=ofL 181 0
def QnU:rF Qbe:=fun D L (a0,a1)=>
 (zc L (a0,a1,a0,(a0.length:Int),0)).bind fun z2=>
 Qp z2 (fun u3=>
 some u3)
 (fun z4=>
 (QC D (z4.2,1,5)).bind fun r5=>
 bif r5 then(some (decide ((z4.1.length:Int)=z4.2)))
 else(some false))
theorem QxF:OfF Qbe QnU:=ofF 181
def xM:rL ZA:=fun D L (y0,y1,y2)=>
 bif (decide (y2<(y0.length:Int)))then(bif inb y2 y0.length then
 ZA L (y0,(mxI y1 (rd1 (0:Int) y0 y2)),(wR (y2+1)))else none)
 else(some y1)
theorem jJ:OfL ZA xM:=ofL 182 0
def Qav:rF K4:=fun D L a0=>
 bif (decide ((a0.length:Int)<1))then(none)
 else(bif inb 0 a0.length then
 (ZA L (a0,(rd1 (0:Int) a0 0),1)).bind fun z1=>
 some z1 else none)
theorem Qot:OfF K4 Qav:=ofF 182
def QcU:rL J3:=fun D L (y0,y1,y2,y3,y4)=>
 bif (decide (y4<y3))then(bif inb y4 y2.length then
 (KD L (y0,y1,(rd1 ([]:List Int) y2 y4),y2,y3,y4,(rd1 ([]:List Int) y2 y4),((List.length (rd1 ([]:List Int) y2 y4)):Int),0)).bind fun z2=>
 Qp z2 (fun u3=>
 some (Sum.inl u3))
 (fun z4=>
 bif (!decide ((z4.2.2.1.length:Int)=5))then(some (Sum.inl false))
 else(J3 L (z4.1,z4.2.1,z4.2.2.2.1,z4.2.2.2.2.1,(wR (z4.2.2.2.2.2+1)))))else none)
 else(some (Sum.inr (y0,y1)))
theorem QfT:OfL J3 QcU:=ofL 183 0
def QcW:rL KD:=fun D L (y0,y1,y2,y3,y4,y5,y6,y7,y8)=>
 bif (decide (y8<y7))then(bif inb y8 y6.length then
 (QC D ((rd1 (0:Int) y6 y8),0,1000)).bind fun r1=>
 bif (!r1)then(some (Sum.inl false))
 else(KD L (y0,y1,y2,y3,y4,y5,y6,y7,(wR (y8+1))))else none)
 else(some (Sum.inr (y0,y1,y2,y3,y4,y5)))
theorem QfD:OfL KD QcW:=ofL 183 2
def Qke:rF Qcp:=fun D L (a0,a1)=>
 (J3 L (a0,a1,a0,(a0.length:Int),0)).bind fun z5=>
 Qp z5 (fun u6=>
 some u6)
 (fun z7=>
 (QC D (z7.2,1,5)).bind fun r8=>
 bif r8 then(some (decide ((z7.1.length:Int)=z7.2)))
 else(some false))
theorem QtL:OfF Qcp Qke:=ofF 183
def Qen:rL qQ:=fun D L (y0,y1,y2,y3,y4,y5,y6,y7,y8,y9,y10,y11,y12,y13,y14,y15,y16,y17,y18,y19,y20,y21)=>
 bif (decide (y2<y1))then(bif inb y2 y0.length then
 let e1:=(rd1 XX y0 y2);
 (zu D (y3,y4,y5,y6,y7,y8,y9,y10,y11,y12,y13,y14,y15,y16,y17,y18,y19,y20,y21,e1.1)).bind fun r2=>
 bif (!r2)then(some (Sum.inl false))
 else((QC D (e1.2.1,0,100000)).bind fun r3=>
 bif (!r3)then(some (Sum.inl false))
 else((QC D (e1.2.2.2,0,y18)).bind fun r4=>
 bif (!r4)then(some (Sum.inl false))
 else((xF D (y3,y4,y5,y6,y7,y8,y9,y10,y11,y12,y13,y14,y15,y16,y17,y18,y19,y20,y21,e1.1,e1.2.2.1)).bind fun r5=>
 bif (!decide (r5=y2))then(some (Sum.inl false))
 else(qQ L (y0,y1,(wR (y2+1)),y3,y4,y5,y6,y7,y8,y9,y10,y11,y12,y13,y14,y15,y16,y17,y18,y19,y20,y21)))))else none)
 else(some (Sum.inr (y3,y4,y5,y6,y7,y8,y9,y10,y11,y12,y13,y14,y15,y16,y17,y18,y19,y20,y21)))
theorem Qhk:OfL qQ Qen:=ofL 184 0
def Qmd:rF QeY:=fun D L (a0,a1,a2,a3,a4,a5,a6,a7,a8,a9,a10,a11,a12,a13,a14,a15,a16,a17,a18)=>
 (qQ L (a14,(a14.length:Int),0,a0,a1,a2,a3,a4,a5,a6,a7,a8,a9,a10,a11,a12,a13,a14,a15,a16,a17,a18)).bind fun z6=>
 Qp z6 (fun u7=>
 some u7)
 (fun z8=>
 (QC D (z8.2.2.2.2.2.2.2.2.2.2.2.2.2.1,1,4)).bind fun r9=>
 bif r9 then(some (decide ((z8.2.2.2.2.2.2.2.2.2.2.2.2.2.2.1.length:Int)<=z8.2.2.2.2.2.2.2.2.2.2.2.2.2.1)))
 else(some false))
theorem QvI:OfF QeY Qmd:=ofF 184
def QaR:rL J2:=fun D L (y0,y1,y2,y3,y4,y5,y6,y7,y8,y9,y10,y11,y12,y13,y14,y15,y16,y17,y18,y19,y20,y21)=>
 bif (decide (y2<y1))then(bif inb y2 y0.length then
 let e1:=(rd1 Zc y0 y2);
 (QC D (e1.1,0,1000)).bind fun r2=>
 bif (!r2)then(some (Sum.inl false))
 else((QC D (e1.2.1,0,100000)).bind fun r3=>
 bif (!r3)then(some (Sum.inl false))
 else((QC D (e1.2.2,0,y20)).bind fun r4=>
 bif (!r4)then(some (Sum.inl false))
 else(J2 L (y0,y1,(wR (y2+1)),y3,y4,y5,y6,y7,y8,y9,y10,y11,y12,y13,y14,y15,y16,y17,y18,y19,y20,y21))))else none)
 else(some (Sum.inr (y3,y4,y5,y6,y7,y8,y9,y10,y11,y12,y13,y14,y15,y16,y17,y18,y19,y20,y21)))
theorem QfQ:OfL J2 QaR:=ofL 185 0
def QkC:rF Qcu:=fun D L (a0,a1,a2,a3,a4,a5,a6,a7,a8,a9,a10,a11,a12,a13,a14,a15,a16,a17,a18)=>
 (J2 L (a18,(a18.length:Int),0,a0,a1,a2,a3,a4,a5,a6,a7,a8,a9,a10,a11,a12,a13,a14,a15,a16,a17,a18)).bind fun z5=>
 Qp z5 (fun u6=>
 some u6)
 (fun z7=>
 some (decide ((z7.2.2.2.2.2.2.2.2.2.2.2.2.2.2.2.2.2.2.length:Int)=5)))
theorem QsL:OfF Qcu QkC:=ofF 185
def QjH:rF yl:=fun D L (a0,a1,a2,a3,a4)=>
 (QC D (a0,1,1000)).bind fun r1=>
 bif r1 then((QC D (a1,0,1)).bind fun r2=>
 bif r2 then((QC D (a2,0,100000)).bind fun r3=>
 bif r3 then((QC D (a3,0,1000)).bind fun r4=>
 bif r4 then(some (decide (((ByteArray.size a4):Int)<=8)))
 else(some false))
 else(some false))
 else(some false))
 else(some false)
theorem QsZ:OfF yl QjH:=ofF 186
def Qa3:rL qc:=fun D L (y0,y1,y2,y3)=>
 bif (decide (y3<y2))then(bif inb y3 y1.length then
 let e1:=(rd1 XF y1 y3);
 bif (decide (e1.1=y0))then(some (Sum.inl e1.2))
 else(qc L (y0,y1,y2,(wR (y3+1))))else none)
 else(some (Sum.inr ()))
theorem QgP:OfL qc Qa3:=ofL 187 0
def QjG:rF VP:=fun D L (a0,a1,a2)=>
 (qc L (a2,a1,(a1.length:Int),0)).bind fun z2=>
 Qp z2 (fun u3=>
 some u3)
 (fun z4=>
 some 0)
theorem QuK:OfF VP QjG:=ofF 187
def Qj7:rF xp:=fun D L (a0,a1,a2,a3)=>
 (Qdd D (a0,a2)).bind fun r1=>
 bif (!r1)then(some false)
 else((vN D (a1,a3)).bind fun r2=>
 bif (!r2)then(some false)
 else(some true))
theorem Qs6:OfF xp Qj7:=ofF 188
def QlV:rF Qep:=fun D L (a0,a1,a2,a3)=>
 (Vn D (a0,a2)).bind fun r1=>
 bif (!r1)then(some false)
 else(bif (!decide (a1=a3))then(some false)
 else(some true))
theorem QvX:OfF Qep QlV:=ofF 189
def Qng:rF QhV:=fun D L (a0,a1,a2,a3,a4,a5)=>
 bif (!decide (a0=a3))then(some false)
 else(bif (!decide (a1=a4))then(some false)
 else((vB D (a2,a5)).bind fun r1=>
 bif (!r1)then(some false)
 else(some true)))
theorem QxU:OfF QhV Qng:=ofF 190
def Qct:rL JP:=fun D L (y0,y1,y2)=>
 bif (decide (y2<(y0.length:Int)))then(bif inb y2 y0.length then
 bif inb y2 y1.length then
 (Vn D ((rd1 ([]:List Int) y0 y2),(rd1 ([]:List Int) y1 y2))).bind fun r1=>
 bif (!r1)then(some (Sum.inl false))
 else(JP L (y0,y1,(wR (y2+1))))else none else none)
 else(some (Sum.inr ()))
theorem Qfv:OfL JP Qct:=ofL 191 0
def QiF:rF QcH:=fun D L (a0,a1)=>
 bif (!decide ((a0.length:Int)=(a1.length:Int)))then(some false)
 else((JP L (a0,a1,0)).bind fun z2=>
 Qp z2 (fun u3=>
 some u3)
 (fun z4=>
 some true))
theorem Qtc:OfF QcH QiF:=ofF 191
def QbQ:rL JZ:=fun D L (y0,y1,y2)=>
 bif (decide (y2<(y0.length:Int)))then(bif inb y2 y0.length then
 let e1:=(rd1 XX y0 y2);
 bif inb y2 y1.length then
 let e2:=(rd1 XX y1 y2);
 (Qet D (e1.1,e1.2.1,e1.2.2.1,e1.2.2.2,e2)).bind fun r3=>
 bif (!r3)then(some (Sum.inl false))
 else(JZ L (y0,y1,(wR (y2+1))))else none else none)
 else(some (Sum.inr ()))
theorem Qf0:OfL JZ QbQ:=ofL 192 0
def QjP:rF Qbn:=fun D L (a0,a1)=>
 bif (!decide ((a0.length:Int)=(a1.length:Int)))then(some false)
 else((JZ L (a0,a1,0)).bind fun z4=>
 Qp z4 (fun u5=>
 some u5)
 (fun z6=>
 some true))
theorem QuA:OfF Qbn QjP:=ofF 192
def Qbc:rL JC:=fun D L (y0,y1,y2)=>
 bif (decide (y2<(y0.length:Int)))then(bif inb y2 y0.length then
 let e1:=(rd1 Zc y0 y2);
 bif inb y2 y1.length then
 let e2:=(rd1 Zc y1 y2);
 (Qer D (e1.1,e1.2.1,e1.2.2,e2)).bind fun r3=>
 bif (!r3)then(some (Sum.inl false))
 else(JC L (y0,y1,(wR (y2+1))))else none else none)
 else(some (Sum.inr ()))
theorem QfO:OfL JC Qbc:=ofL 193 0
def Qki:rF QbY:=fun D L (a0,a1)=>
 bif (!decide ((a0.length:Int)=(a1.length:Int)))then(some false)
 else((JC L (a0,a1,0)).bind fun z4=>
 Qp z4 (fun u5=>
 some u5)
 (fun z6=>
 some true))
theorem Qt8:OfF QbY Qki:=ofF 193
end
end Go.Proofs.YtiejfnbmficbmaaGreat.M
