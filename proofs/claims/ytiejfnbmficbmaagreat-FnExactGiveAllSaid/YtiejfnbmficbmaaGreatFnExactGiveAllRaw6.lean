/- Plain forms of the functions that FnExactGiveAll reaches, part 6. No conditions. -/
import Derived.Test.YtiejfnbmficbmaaGreatFnExactGiveAllTab
set_option linter.all false
namespace Go.Proofs.YtiejfnbmficbmaaGreat.M
open Go Go.Eng Go.Proofs
set_option linter.unusedVariables false
noncomputable section
def Qny:rF Ko:=fun D L a0=>
 (QA D (a0,0,4)).bind fun r1=>
 some r1
theorem Qze:OfF Ko Qny:=ofF 170
def Qfs:rL xT:=fun D L (y0,y1,y2,y3,y4)=>
 bif (decide (y2<y1))then(bif inb y2 y0.length then
 (QA D ((rd1 (0:Int) y0 y2),0,1023)).bind fun r1=>
 bif (!r1)then(some (Sum.inl false))
 else(xT L (y0,y1,(wR (y2+1)),y3,y4))else none)
 else(some (Sum.inr (y3,y4)))
theorem Qjf:OfL xT Qfs:=ofL 171 0
def QmN:rF Qf9:=fun D L (a0,a1)=>
 bif (decide ((a0.length:Int)=0))then(some (decide (a1=0)))
 else((xT L (a0,(a0.length:Int),0,a0,a1)).bind fun z2=>
 Qn z2 (fun u3=>
 some u3)
 (fun z4=>
 bif (decide ((z4.1.length:Int)=4))then((QA D (z4.2,0,1023)).bind fun r5=>
 some r5)
 else(some false)))
theorem Qzf:OfF Qf9 QmN:=ofF 171
def QeA:rL Vb:=fun D L (y0,y1,y2,y3)=>
 bif (decide (y3<y2))then(bif inb y3 y1.length then
 let e1:=(rd1 Xx y1 y3);
 (Ko D e1.1).bind fun r2=>
 bif (!r2)then(some (Sum.inl false))
 else((QA D (e1.2,1,1000)).bind fun r3=>
 bif (!r3)then(some (Sum.inl false))
 else(bif (decide (0<y3))then(bif inb (wR (y3 - 1)) y0.length then
 let e4:=(rd1 Xx y0 (wR (y3 - 1)));
 bif (decide (e1.1<=e4.1))then(some (Sum.inl false))
 else(Vb L (y0,y1,y2,(wR (y3+1))))else none)
 else(Vb L (y0,y1,y2,(wR (y3+1))))))else none)
 else(some (Sum.inr ()))
theorem Qia:OfL Vb QeA:=ofL 172 0
def Qlt:rF jg:=fun D L a0=>
 (Vb L (a0,a0,(a0.length:Int),0)).bind fun z5=>
 Qn z5 (fun u6=>
 some u6)
 (fun z7=>
 some true)
theorem Qvp:OfF jg Qlt:=ofF 172
def QfL:rL x6:=fun D L (y0,y1,y2,y3)=>
 bif (decide (y2<y1))then(bif inb y2 y0.length then
 bif fits (y3.length+List.length (rd1 ([]:List Int) y0 y2)) 1 then
 x6 L (y0,y1,(wR (y2+1)),(y3++(rd1 ([]:List Int) y0 y2)))else none else none)
 else(some y3)
theorem QiY:OfL x6 QfL:=ofL 173 0
def QmX:rF Zu:=fun D L a0=>
 (x6 L (a0,(a0.length:Int),0,[])).bind fun z1=>
 some z1
theorem Qye:OfF Zu QmX:=ofF 173
def vi:rL xE:=fun D L (y0,y1)=>
 bif (decide (128<=y0))then(bif decide ((128:Int)≠0)then
 bif fits (y1.length+ [(IntKind.wrap .u8 (wR ((Int.tmod y0 128)+128)))].length) 1 then
 bif decide ((128:Int)≠0)then
 xE L ((wR (Int.tdiv y0 128)),(y1++[(IntKind.wrap .u8 (wR ((Int.tmod y0 128)+128)))]))else none else none else none)
 else(some (y0,y1))
theorem Qjm:OfL xE vi:=ofL 174 0
def QmI:rF Q2:=fun D L a0=>
 (QA D (a0,0,2147483647)).bind fun r1=>
 bif (!r1)then(some [])
 else((xE L (a0,[])).bind fun z2=>
 bif fits (z2.2.length+ [(IntKind.wrap .u8 z2.1)].length) 1 then
 some (z2.2++[(IntKind.wrap .u8 z2.1)])else none)
theorem Qxz:OfF Q2 QmI:=ofF 174
def Qdp:rL qx:=fun D L (y0,y1,y2,y3)=>
 bif (decide (y2<y1))then(bif inb y2 y0.length then
 (Q2 D (rd1 (0:Int) y0 y2)).bind fun r2=>
 (Zu D [y3,r2]).bind fun r3=>
 qx L (y0,y1,(wR (y2+1)),r3)else none)
 else(some y3)
theorem Qhn:OfL qx Qdp:=ofL 175 0
def Qlq:rF x7:=fun D L a0=>
 (Q2 D (a0.length:Int)).bind fun r1=>
 (qx L (a0,(a0.length:Int),0,r1)).bind fun z4=>
 some z4
theorem QwP:OfF x7 Qlq:=ofF 175
def QiF:rF QaM:=fun D L a0=>
 (Qbn D a0).bind fun r1=>
 bif decide ((0:Int)<=24)then
 bif decide ((0:Int)<=16)then
 bif decide ((0:Int)<=8)then
 some [(IntKind.wrap .u8 (bits .and .i64 (Qd7 .i64 r1 24) 255)),(IntKind.wrap .u8 (bits .and .i64 (Qd7 .i64 r1 16) 255)),(IntKind.wrap .u8 (bits .and .i64 (Qd7 .i64 r1 8) 255)),(IntKind.wrap .u8 (bits .and .i64 r1 255))]else none else none else none
theorem Quy:OfF QaM QiF:=ofF 176
def Qi2:rF QaP:=fun D L (a0,a1,a2,a3)=>
 (JE D (a0,a2)).bind fun r1=>
 bif r1 then(some (decide (a1=a3)))
 else(some false)
theorem Qud:OfF QaP Qi2:=ofF 177
def Qfr:rL VY:=fun D L (y0,y1,y2,y3,y4)=>
 bif (decide (y0<4))then((QcC D (y1,y2,y0)).bind fun r2=>
 bif fits (y3.length+ [r2].length) 8 then
 VY L ((wR (y0+1)),y1,y2,(y3++[r2]),y4)else none)
 else(some (y3,y4))
theorem Qjp:OfL VY Qfr:=ofL 178 0
def QnU:rF yw:=fun D L (a0,a1)=>
 (XB D (a0,a1)).bind fun r1=>
 bif (!r1)then(some ([],0))
 else((VY L (0,a0,a1,[],0)).bind fun z3=>
 (Qgo D z3.1).bind fun r4=>
 some (z3.1,r4))
theorem Qyz:OfF yw QnU:=ofF 178
def QnJ:rF VL:=fun D L (a0,a1,a2)=>
 (zG D (a0,a1,a2)).bind fun r1=>
 bif (!r1)then(some 0)
 else(some (wR (a1+(a2.length:Int))))
theorem QxY:OfF VL QnJ:=ofF 179
def QiB:rL zT:=fun D L (y0,y1,y2,y3,y4,y5)=>
 bif (decide (y2<y1))then(bif inb y2 y0.length then
 let e1:=(rd1 Y9 y0 y2);
 (XB D e1).bind fun r2=>
 bif (!r2)then(some (Sum.inl false))
 else(zT L (y0,y1,(wR (y2+1)),y3,y4,y5))else none)
 else(some (Sum.inr (y3,y4,y5)))
theorem Qkc:OfL zT QiB:=ofL 180 0
def QoT:rF zG:=fun D L (a0,a1,a2)=>
 (zT L (a2,(a2.length:Int),0,a0,a1,a2)).bind fun z3=>
 Qn z3 (fun u4=>
 some u4)
 (fun z5=>
 (QA D (z5.1,1,8)).bind fun r6=>
 bif r6 then(bif (decide ((z5.2.2.length:Int)<=z5.1))then((QA D (z5.2.1,0,100000)).bind fun r7=>
 bif r7 then(some (decide ((wR (z5.2.1+(z5.2.2.length:Int)))<=100000)))
 else(some false))
 else(some false))
 else(some false))
theorem QAH:OfF zG QoT:=ofF 180
def Qio:rL zY:=fun D L (y0,y1,y2,y3,y4)=>
 bif (decide (y4<y3))then(bif inb y4 y2.length then
 (QA D ((rd1 (0:Int) y2 y4),0,100000)).bind fun r1=>
 bif (!r1)then(some (Sum.inl false))
 else(zY L (y0,y1,y2,y3,(wR (y4+1))))else none)
 else(some (Sum.inr (y0,y1)))
theorem Ql2:OfL zY Qio:=ofL 181 0
def Qpg:rF Qb9:=fun D L (a0,a1)=>
 (zY L (a0,a1,a0,(a0.length:Int),0)).bind fun z2=>
 Qn z2 (fun u3=>
 some u3)
 (fun z4=>
 (QA D (z4.2,1,5)).bind fun r5=>
 bif r5 then(some (decide ((z4.1.length:Int)=z4.2)))
 else(some false))
theorem QAk:OfF Qb9 Qpg:=ofF 181
def zn:rL ZL:=fun D L (y0,y1,y2)=>
 bif (decide (y2<(y0.length:Int)))then(bif inb y2 y0.length then
 ZL L (y0,(mxI y1 (rd1 (0:Int) y0 y2)),(wR (y2+1)))else none)
 else(some y1)
theorem vF:OfL ZL zn:=ofL 182 0
def QbR:rF Vw:=fun D L a0=>
 bif (decide ((a0.length:Int)<1))then(none)
 else(bif inb 0 a0.length then
 (ZL L (a0,(rd1 (0:Int) a0 0),1)).bind fun z1=>
 some z1 else none)
theorem QpF:OfF Vw QbR:=ofF 182
def Qem:rL ql:=fun D L (y0,y1,y2,y3,y4)=>
 bif (decide (y4<y3))then(bif inb y4 y2.length then
 (K6 L (y0,y1,(rd1 ([]:List Int) y2 y4),y2,y3,y4,(rd1 ([]:List Int) y2 y4),((List.length (rd1 ([]:List Int) y2 y4)):Int),0)).bind fun z2=>
 Qn z2 (fun u3=>
 some (Sum.inl u3))
 (fun z4=>
 bif (!decide ((z4.2.2.1.length:Int)=5))then(some (Sum.inl false))
 else(ql L (z4.1,z4.2.1,z4.2.2.2.1,z4.2.2.2.2.1,(wR (z4.2.2.2.2.2+1)))))else none)
 else(some (Sum.inr (y0,y1)))
theorem Qg5:OfL ql Qem:=ofL 183 0
def Qex:rL K6:=fun D L (y0,y1,y2,y3,y4,y5,y6,y7,y8)=>
 bif (decide (y8<y7))then(bif inb y8 y6.length then
 (QA D ((rd1 (0:Int) y6 y8),0,1000)).bind fun r1=>
 bif (!r1)then(some (Sum.inl false))
 else(K6 L (y0,y1,y2,y3,y4,y5,y6,y7,(wR (y8+1))))else none)
 else(some (Sum.inr (y0,y1,y2,y3,y4,y5)))
theorem QhJ:OfL K6 Qex:=ofL 183 2
def QlR:rF QdB:=fun D L (a0,a1)=>
 (ql L (a0,a1,a0,(a0.length:Int),0)).bind fun z5=>
 Qn z5 (fun u6=>
 some u6)
 (fun z7=>
 (QA D (z7.2,1,5)).bind fun r8=>
 bif r8 then(some (decide ((z7.1.length:Int)=z7.2)))
 else(some false))
theorem Qwi:OfF QdB QlR:=ofF 183
def Qft:rL zk:=fun D L (y0,y1,y2,y3,y4,y5,y6,y7,y8,y9,y10,y11,y12,y13,y14,y15,y16,y17,y18,y19,y20,y21)=>
 bif (decide (y2<y1))then(bif inb y2 y0.length then
 let e1:=(rd1 Zr y0 y2);
 (Qge D (y3,y4,y5,y6,y7,y8,y9,y10,y11,y12,y13,y14,y15,y16,y17,y18,y19,y20,y21,e1.1)).bind fun r2=>
 bif (!r2)then(some (Sum.inl false))
 else((QA D (e1.2.1,0,100000)).bind fun r3=>
 bif (!r3)then(some (Sum.inl false))
 else((QA D (e1.2.2.2,0,y18)).bind fun r4=>
 bif (!r4)then(some (Sum.inl false))
 else((js D (y3,y4,y5,y6,y7,y8,y9,y10,y11,y12,y13,y14,y15,y16,y17,y18,y19,y20,y21,e1.1,e1.2.2.1)).bind fun r5=>
 bif (!decide (r5=y2))then(some (Sum.inl false))
 else(zk L (y0,y1,(wR (y2+1)),y3,y4,y5,y6,y7,y8,y9,y10,y11,y12,y13,y14,y15,y16,y17,y18,y19,y20,y21)))))else none)
 else(some (Sum.inr (y3,y4,y5,y6,y7,y8,y9,y10,y11,y12,y13,y14,y15,y16,y17,y18,y19,y20,y21)))
theorem QiJ:OfL zk Qft:=ofL 184 0
def QnR:rF Qgs:=fun D L (a0,a1,a2,a3,a4,a5,a6,a7,a8,a9,a10,a11,a12,a13,a14,a15,a16,a17,a18)=>
 (zk L (a14,(a14.length:Int),0,a0,a1,a2,a3,a4,a5,a6,a7,a8,a9,a10,a11,a12,a13,a14,a15,a16,a17,a18)).bind fun z6=>
 Qn z6 (fun u7=>
 some u7)
 (fun z8=>
 (QA D (z8.2.2.2.2.2.2.2.2.2.2.2.2.2.1,1,4)).bind fun r9=>
 bif r9 then(some (decide ((z8.2.2.2.2.2.2.2.2.2.2.2.2.2.2.1.length:Int)<=z8.2.2.2.2.2.2.2.2.2.2.2.2.2.1)))
 else(some false))
theorem QxA:OfF Qgs QnR:=ofF 184
def QcN:rL qD:=fun D L (y0,y1,y2,y3,y4,y5,y6,y7,y8,y9,y10,y11,y12,y13,y14,y15,y16,y17,y18,y19,y20,y21)=>
 bif (decide (y2<y1))then(bif inb y2 y0.length then
 let e1:=(rd1 Zq y0 y2);
 (QA D (e1.1,0,1000)).bind fun r2=>
 bif (!r2)then(some (Sum.inl false))
 else((QA D (e1.2.1,0,100000)).bind fun r3=>
 bif (!r3)then(some (Sum.inl false))
 else((QA D (e1.2.2,0,y20)).bind fun r4=>
 bif (!r4)then(some (Sum.inl false))
 else(qD L (y0,y1,(wR (y2+1)),y3,y4,y5,y6,y7,y8,y9,y10,y11,y12,y13,y14,y15,y16,y17,y18,y19,y20,y21))))else none)
 else(some (Sum.inr (y3,y4,y5,y6,y7,y8,y9,y10,y11,y12,y13,y14,y15,y16,y17,y18,y19,y20,y21)))
theorem Qh7:OfL qD QcN:=ofL 185 0
def Qj7:rF Qc3:=fun D L (a0,a1,a2,a3,a4,a5,a6,a7,a8,a9,a10,a11,a12,a13,a14,a15,a16,a17,a18)=>
 (qD L (a18,(a18.length:Int),0,a0,a1,a2,a3,a4,a5,a6,a7,a8,a9,a10,a11,a12,a13,a14,a15,a16,a17,a18)).bind fun z5=>
 Qn z5 (fun u6=>
 some u6)
 (fun z7=>
 some (decide ((z7.2.2.2.2.2.2.2.2.2.2.2.2.2.2.2.2.2.2.length:Int)=5)))
theorem Qu6:OfF Qc3 Qj7:=ofF 185
def Qko:rF jk:=fun D L (a0,a1,a2,a3,a4)=>
 (QA D (a0,1,1000)).bind fun r1=>
 bif r1 then((QA D (a1,0,1)).bind fun r2=>
 bif r2 then((QA D (a2,0,100000)).bind fun r3=>
 bif r3 then((QA D (a3,0,1000)).bind fun r4=>
 bif r4 then(some (decide (((ByteArray.size a4):Int)<=8)))
 else(some false))
 else(some false))
 else(some false))
 else(some false)
theorem QvZ:OfF jk Qko:=ofF 186
def QeM:rL J5:=fun D L (y0,y1,y2,y3)=>
 bif (decide (y3<y2))then(bif inb y3 y1.length then
 let e1:=(rd1 Xx y1 y3);
 bif (decide (e1.1=y0))then(some (Sum.inl e1.2))
 else(J5 L (y0,y1,y2,(wR (y3+1))))else none)
 else(some (Sum.inr ()))
theorem Qg4:OfL J5 QeM:=ofL 187 0
def Ql8:rF V5:=fun D L (a0,a1,a2)=>
 (J5 L (a2,a1,(a1.length:Int),0)).bind fun z2=>
 Qn z2 (fun u3=>
 some u3)
 (fun z4=>
 some 0)
theorem Qxm:OfF V5 Ql8:=ofF 187
def QlI:rF xY:=fun D L (a0,a1,a2,a3)=>
 (QdM D (a0,a2)).bind fun r1=>
 bif (!r1)then(some false)
 else((Qa0 D (a1,a3)).bind fun r2=>
 bif (!r2)then(some false)
 else(some true))
theorem QwF:OfF xY QlI:=ofF 188
def Qne:rF Qgc:=fun D L (a0,a1,a2,a3)=>
 (VS D (a0,a2)).bind fun r1=>
 bif (!r1)then(some false)
 else(bif (!decide (a1=a3))then(some false)
 else(some true))
theorem QyS:OfF Qgc Qne:=ofF 189
def Qo5:rF Qjz:=fun D L (a0,a1,a2,a3,a4,a5)=>
 bif (!decide (a0=a3))then(some false)
 else(bif (!decide (a1=a4))then(some false)
 else((QaT D (a2,a5)).bind fun r1=>
 bif (!r1)then(some false)
 else(some true)))
theorem QAj:OfF Qjz Qo5:=ofF 190
def Qct:rL qi:=fun D L (y0,y1,y2)=>
 bif (decide (y2<(y0.length:Int)))then(bif inb y2 y0.length then
 bif inb y2 y1.length then
 (VS D ((rd1 ([]:List Int) y0 y2),(rd1 ([]:List Int) y1 y2))).bind fun r1=>
 bif (!r1)then(some (Sum.inl false))
 else(qi L (y0,y1,(wR (y2+1))))else none else none)
 else(some (Sum.inr ()))
theorem QgR:OfL qi Qct:=ofL 191 0
def Qkg:rF Qdc:=fun D L (a0,a1)=>
 bif (!decide ((a0.length:Int)=(a1.length:Int)))then(some false)
 else((qi L (a0,a1,0)).bind fun z2=>
 Qn z2 (fun u3=>
 some u3)
 (fun z4=>
 some true))
theorem Qw7:OfF Qdc Qkg:=ofF 191
def QdS:rL J8:=fun D L (y0,y1,y2)=>
 bif (decide (y2<(y0.length:Int)))then(bif inb y2 y0.length then
 let e1:=(rd1 Zr y0 y2);
 bif inb y2 y1.length then
 let e2:=(rd1 Zr y1 y2);
 (QfX D (e1.1,e1.2.1,e1.2.2.1,e1.2.2.2,e2)).bind fun r3=>
 bif (!r3)then(some (Sum.inl false))
 else(J8 L (y0,y1,(wR (y2+1))))else none else none)
 else(some (Sum.inr ()))
theorem QhM:OfL J8 QdS:=ofL 192 0
def QlS:rF QdH:=fun D L (a0,a1)=>
 bif (!decide ((a0.length:Int)=(a1.length:Int)))then(some false)
 else((J8 L (a0,a1,0)).bind fun z4=>
 Qn z4 (fun u5=>
 some u5)
 (fun z6=>
 some true))
theorem Qw1:OfF QdH QlS:=ofF 192
def QeF:rL qR:=fun D L (y0,y1,y2)=>
 bif (decide (y2<(y0.length:Int)))then(bif inb y2 y0.length then
 let e1:=(rd1 Zq y0 y2);
 bif inb y2 y1.length then
 let e2:=(rd1 Zq y1 y2);
 (QfT D (e1.1,e1.2.1,e1.2.2,e2)).bind fun r3=>
 bif (!r3)then(some (Sum.inl false))
 else(qR L (y0,y1,(wR (y2+1))))else none else none)
 else(some (Sum.inr ()))
theorem Qg2:OfL qR QeF:=ofL 193 0
def Qky:rF QcE:=fun D L (a0,a1)=>
 bif (!decide ((a0.length:Int)=(a1.length:Int)))then(some false)
 else((qR L (a0,a1,0)).bind fun z4=>
 Qn z4 (fun u5=>
 some u5)
 (fun z6=>
 some true))
theorem Qxn:OfF QcE Qky:=ofF 193
def Qcg:rL qv:=fun D L (y0,y1,y2)=>
 bif (decide (y2<(y0.length:Int)))then(bif inb y2 y0.length then
 bif inb y2 y1.length then
 bif (!decide ((rd1 (0:Int) y0 y2)=(rd1 (0:Int) y1 y2)))then(some (Sum.inl false))
 else(qv L (y0,y1,(wR (y2+1))))else none else none)
 else(some (Sum.inr ()))
theorem Qht:OfL qv Qcg:=ofL 194 0
def QlQ:rF Qcw:=fun D L (a0,a1)=>
 bif (!decide ((a0.length:Int)=(a1.length:Int)))then(some false)
 else((qv L (a0,a1,0)).bind fun z1=>
 Qn z1 (fun u2=>
 some u2)
 (fun z3=>
 some true))
theorem Qu7:OfF Qcw QlQ:=ofF 194
def QmS:rF xf:=fun D L (a0,a1)=>
 bif fits (List.length ([]:List Int)+a0.length) 8 then
 some ((([]:List Int)++a0),a1)else none
theorem Qx3:OfF xf QmS:=ofF 195
def QfN:rL xF:=fun D L (y0,y1,y2,y3,y4,y5,y6)=>
 bif (decide (y0<(y3.length:Int)))then(bif inb y0 y3.length then
 let e1:=(rd1 Y9 y3 y0);
 (Kx D e1).bind fun r2=>
 bif fits (y6.length+ [r2].length) 48 then
 xF L ((wR (y0+1)),y1,y2,y3,y4,y5,(y6++[r2]))else none else none)
 else(some (y4,y5,y6))
theorem Qi3:OfL xF QfN:=ofL 196 0
def QmM:rF Qgw:=fun D L (a0,a1,a2)=>
 (xF L (0,a0,a1,a2,a0,a1,[])).bind fun z3=>
 some z3
theorem Qy6:OfF Qgw QmM:=ofF 196
def Qfx:rL x0:=fun D L (y0,y1,y2)=>
 bif (decide (y1<(y0.length:Int)))then(bif inb y1 y0.length then
 bif fits (List.length ([]:List Int)+List.length (rd1 ([]:List Int) y0 y1)) 8 then
 bif fits (y2.length+List.length ([(([]:List Int)++(rd1 ([]:List Int) y0 y1))]:List (List Int))) 24 then
 x0 L (y0,(wR (y1+1)),(y2++([(([]:List Int)++(rd1 ([]:List Int) y0 y1))]:List (List Int))))else none else none else none)
 else(some y2)
theorem QiW:OfL x0 Qfx:=ofL 197 0
def Qnn:rF Qav:=fun D L a0=>
 (x0 L (a0,0,[])).bind fun z1=>
 some z1
theorem Qy2:OfF Qav Qnn:=ofF 197
def QbV:rL J9:=fun D L (y0,y1,y2,y3)=>
 bif (decide (y1<(y2.length:Int)))then(bif inb y1 y2.length then
 let e1:=(rd1 Zc y2 y1);
 bif (decide (e1.1=y0))then(bif inb y1 y2.length then
 let e2:=(rd1 Zc y2 y1);
 some (Sum.inl (true,e2.2))else none)
 else(J9 L (y0,(wR (y1+1)),y2,y3))else none)
 else(some (Sum.inr ()))
theorem QgV:OfL J9 QbV:=ofL 198 0
def Qj5:rF KH:=fun D L (a0,a1,a2)=>
 (J9 L (a2,0,a0,a1)).bind fun z3=>
 Qn z3 (fun u4=>
 some (u4.2.1,u4.2.2.1,u4.2.2.2.1,u4.2.2.2.2.1,u4.2.2.2.2.2,u4.1))
 (fun z5=>
 some (0,0,0,0,ByteArray.empty,false))
theorem Qw4:OfF KH Qj5:=ofF 198
def QeC:rL ZX:=fun D L (y0,y1,y2,y3,y4,y5,y6,y7,y8,y9,y10,y11,y12,y13,y14,y15,y16,y17,y18,y19,y20,y21,y22,y23,y24,y25,y26,y27,y28,y29,y30,y31,y32,y33,y34,y35,y36,y37,y38)=>
 bif (decide (y0<(y22.length:Int)))then(bif inb y0 y22.length then
 let e7:=(rd1 Zc y22 y0);
 bif inb e7.1 y38.length then
 let e8:=(rd1 Zq y38 e7.1);
 bif (decide (e8.1<e7.2.1))then(bif inb e7.1 y38.length then
 let l9:=List.set y38 (Int.toNat e7.1) (e7.2.1,e7.2.2.2.1,y18);
 ZX L ((wR (y0+1)),y1,y2,y3,y4,y5,y6,y7,y8,y9,y10,y11,y12,y13,y14,y15,y16,y17,y18,y19,y20,y21,y22,y23,y24,y25,y26,y27,y28,y29,y30,y31,y32,y33,y34,y35,y36,y37,l9)else none)
 else(bif (decide (e7.2.1=e8.1))then(bif (decide (e8.2.1<e7.2.2.2.1))then(bif inb e7.1 y38.length then
 let l10:=List.set y38 (Int.toNat e7.1) (e7.2.1,e7.2.2.2.1,y18);
 ZX L ((wR (y0+1)),y1,y2,y3,y4,y5,y6,y7,y8,y9,y10,y11,y12,y13,y14,y15,y16,y17,y18,y19,y20,y21,y22,y23,y24,y25,y26,y27,y28,y29,y30,y31,y32,y33,y34,y35,y36,y37,l10)else none)
 else(ZX L ((wR (y0+1)),y1,y2,y3,y4,y5,y6,y7,y8,y9,y10,y11,y12,y13,y14,y15,y16,y17,y18,y19,y20,y21,y22,y23,y24,y25,y26,y27,y28,y29,y30,y31,y32,y33,y34,y35,y36,y37,y38)))
 else(ZX L ((wR (y0+1)),y1,y2,y3,y4,y5,y6,y7,y8,y9,y10,y11,y12,y13,y14,y15,y16,y17,y18,y19,y20,y21,y22,y23,y24,y25,y26,y27,y28,y29,y30,y31,y32,y33,y34,y35,y36,y37,y38)))else none else none)
 else(some (y20,y21,y22,y23,y24,y25,y26,y27,y28,y29,y30,y31,y32,y33,y34,y35,y36,y37,y38))
theorem Qg8:OfL ZX QeC:=ofL 202 0
def Qkl:rF jX:=fun D L (a0,a1,a2,a3,a4,a5,a6,a7,a8,a9,a10,a11,a12,a13,a14,a15,a16,a17,a18,a19,a20)=>
 (XA D (a0,a1,a2,a3,a4,a5,a6,a7,a8,a9,a10,a11,a12,a13,a14,a15,a16,a17,a18)).bind fun r1=>
 (Yt D (a2,a3,a19,a20)).bind fun r2=>
 (xH D r2).bind fun r3=>
 (Vq D (a11,a0,r3)).bind fun r4=>
 (QcF D (r2.1,r2.2,r4)).bind fun r5=>
 (yu D r5).bind fun r6=>
 (ZX L (0,a0,a1,a2,a3,a4,a5,a6,a7,a8,a9,a10,a11,a12,a13,a14,a15,a16,a17,a18,r1.1,r1.2.1,r5.1,r5.2,r6.1,r6.2,r1.2.2.2.2.2.2.1,r1.2.2.2.2.2.2.2.1,r1.2.2.2.2.2.2.2.2.1,r1.2.2.2.2.2.2.2.2.2.1,r1.2.2.2.2.2.2.2.2.2.2.1,r4,r1.2.2.2.2.2.2.2.2.2.2.2.2)).bind fun z11=>
 some z11
theorem QwG:OfF jX Qkl:=ofF 202
def Qi5:rF Vs:=fun D L (a0,a1)=>
 (ZI D a0).bind fun r1=>
 some (r1,a1)
theorem Qt3:OfF Vs Qi5:=ofF 203
def Qeb:rL qy:=fun D L (y0,y1,y2,y3,y4,y5)=>
 bif (decide (y2<y1))then(bif inb y2 y0.length then
 let e1:=(rd1 Y9 y0 y2);
 (ZO D e1).bind fun r2=>
 bif fits (y5.length+ [r2].length) 48 then
 qy L (y0,y1,(wR (y2+1)),y3,y4,(y5++[r2]))else none else none)
 else(some (y3,y4,y5))
theorem QhF:OfL qy Qeb:=ofL 204 0
def QkT:rF Qds:=fun D L (a0,a1,a2)=>
 (qy L (a2,(a2.length:Int),0,a0,a1,[])).bind fun z3=>
 some z3
theorem QwB:OfF Qds QkT:=ofF 204
def Qi6:rF ZI:=fun D L a0=>
 bif fits (List.length ([]:List Int)+a0.length) 8 then
 some (([]:List Int)++a0)else none
theorem Quj:OfF ZI Qi6:=ofF 205
def Qam:rL VA:=fun D L (y0,y1,y2,y3)=>
 bif (decide (y2<y1))then(bif inb y2 y0.length then
 (ZI D (rd1 ([]:List Int) y0 y2)).bind fun r1=>
 bif fits (y3.length+List.length ([r1]:List (List Int))) 24 then
 VA L (y0,y1,(wR (y2+1)),(y3++([r1]:List (List Int))))else none else none)
 else(some y3)
theorem QbS:OfL VA Qam:=ofL 206 0
def QgG:rF xB:=fun D L a0=>
 (VA L (a0,(a0.length:Int),0,[])).bind fun z2=>
 some z2
theorem QsB:OfF xB QgG:=ofF 206
def Qeq:rL qc:=fun D L (y0,y1,y2,y3)=>
 bif (decide (y3<y2))then(bif inb y3 y1.length then
 let e1:=(rd1 Zc y1 y3);
 bif (decide (e1.1=y0))then(some (Sum.inl (true,e1.2)))
 else(qc L (y0,y1,y2,(wR (y3+1))))else none)
 else(some (Sum.inr ()))
theorem Qii:OfL qc Qeq:=ofL 207 0
def Qkr:rF xV:=fun D L (a0,a1,a2)=>
 (qc L (a2,a0,(a0.length:Int),0)).bind fun z2=>
 Qn z2 (fun u3=>
 some (u3.2.1,u3.2.2.1,u3.2.2.2.1,u3.2.2.2.2.1,u3.2.2.2.2.2,u3.1))
 (fun z4=>
 some (0,0,0,0,ByteArray.empty,false))
theorem QvP:OfF xV Qkr:=ofF 207
end
end Go.Proofs.YtiejfnbmficbmaaGreat.M
